import Derived.Test.YtfpgdgmcmkileaaDoorSl12
set_option linter.unusedVariables false
set_option linter.unusedSimpArgs false
namespace Go.SL
namespace Saw

structure Point where
  X : Int
  Y : Int

instance : Inhabited Point := ⟨⟨0, 0⟩⟩

def e_Point (r : Point) : List C := [.val (.int .i64 r.X), .val (.int .i64 r.Y)]

structure Reading where
  P : Point
  Ok : Bool

instance : Inhabited Reading := ⟨⟨default, false⟩⟩

def e_Reading (r : Reading) : List C := [.val (.int .i64 r.P.X), .val (.int .i64 r.P.Y), .val (.bool r.Ok)]

structure Ring where
  Z : Int
  Read : List Reading

instance : Inhabited Ring := ⟨⟨0, []⟩⟩

def e_Ring (r : Ring) : List C := [.val (.int .i64 r.Z), tl e_Reading default r.Read]

def tab_directions : List Int := [(-1), 1]

def tab_turns : List Point := [(Point.mk 1 0), (Point.mk 0 1), (Point.mk (-1) 0), (Point.mk 0 (-1))]

def globs : List (Nat × C) := [(0, .aptr 2 1 (rowf e_i64 default tab_directions)), (1, .aptr 4 2 (rowf e_Point default tab_turns))]

/- sawmill/sawmilllaw12.few -/

def law12_few (a1 : Ring) : Option Bool :=
  some (decide (((a1.Read.length : Nat) : Int) ≤ 100))

/- sawmill/sawmilllaw12.Round -/

def law12_Round_L1 : Nat → Int → (List Reading) → Option (List Reading)
  | 0, _, _ => none
  | n + 1, x5, l6 =>
    bif decide (x5 < ((8 : Nat) : Int)) then
      bif inb x5 8 then
        bif room (l6.length + 1) 24 then
          (law12_Round_L1 n) (w64 (x5 + 1)) (l6 ++ ([(Reading.mk (([(Point.mk 100 0), (Point.mk 70 70), (Point.mk 0 100), (Point.mk (-70) 70), (Point.mk (-100) 0), (Point.mk (-70) (-70)), (Point.mk 0 (-100)), (Point.mk 70 (-70))] : List Point).getD x5.toNat default) true)] : List Reading))
        else none
      else none
    else
      some l6

def law12_Round : Option Ring :=
  (law12_Round_L1 FUEL 0 ([] : List Reading)).bind fun o13 =>
  some (Ring.mk 0 o13)

/- sawmill/ring.within -/

def ring_within_k1 (x5 : Bool) : Option Bool :=
  some x5

def ring_within (a1 : Int) : Option Bool :=
  bif decide (a1 ≥ (-600)) then
    ring_within_k1 (decide (a1 ≤ 600))
  else
    ring_within_k1 false

/- sawmill/ring.Check -/

def ring_Check_k4 (x15 : Int) (rec_ring_Check_L2 : Int → Option (Int ⊕ Unit)) (x32 : Bool) : Option (Int ⊕ Unit) :=
  bif x32 then
    some (Sum.inl 19)
  else
    rec_ring_Check_L2 (w64 (x15 + 1))

def ring_Check_k3 (a1 : Ring) (x15 : Int) (rec_ring_Check_L2 : Int → Option (Int ⊕ Unit)) (x27 : Bool) : Option (Int ⊕ Unit) :=
  bif x27 then
    some (Sum.inl 9)
  else
    bif !((a1.Read.getD x15.toNat default).Ok) then
      ring_Check_k4 x15 rec_ring_Check_L2 (!((((a1.Read.getD x15.toNat default).P).X == 0) && ((((a1.Read.getD x15.toNat default).P).Y == 0) && true)))
    else
      ring_Check_k4 x15 rec_ring_Check_L2 false

def ring_Check_L2 (a1 : Ring) : Nat → Int → Option (Int ⊕ Unit)
  | 0, _ => none
  | n + 1, x15 =>
    bif decide (x15 < ((a1.Read.length : Nat) : Int)) then
      bif inb x15 a1.Read.length then
        bif (a1.Read.getD x15.toNat default).Ok then
          (ring_within (((a1.Read.getD x15.toNat default).P).X)).bind fun v22 =>
          bif !v22 then
            ring_Check_k3 a1 x15 (ring_Check_L2 a1 n) true
          else
            (ring_within (((a1.Read.getD x15.toNat default).P).Y)).bind fun v25 =>
            ring_Check_k3 a1 x15 (ring_Check_L2 a1 n) (!v25)
        else
          ring_Check_k3 a1 x15 (ring_Check_L2 a1 n) false
      else none
    else
      some (Sum.inr ())

def ring_Check_k1 (a1 : Ring) (x11 : Bool) : Option Int :=
  bif x11 then
    some 9
  else
    (ring_Check_L2 a1 FUEL 0).bind fun u38 => Sum.elim (fun v39 => some v39) (fun o36 =>
    some 0) u38

def ring_Check (a1 : Ring) : Option Int :=
  bif decide (((a1.Read.length : Nat) : Int) < 8) then
    some 3
  else
    bif decide (((a1.Read.length : Nat) : Int) > 32) then
      some 4
    else
      bif decide (a1.Z < 0) then
        ring_Check_k1 a1 true
      else
        ring_Check_k1 a1 (decide (a1.Z > 20000))

/- sawmill/ring.measured -/

def ring_measured_k2 (x6 : Int) (rec_ring_measured_L1 : (List Int) → Int → Option (List Int)) (l15 : List Int) : Option (List Int) :=
  rec_ring_measured_L1 l15 (w64 (x6 + 1))

def ring_measured_L1 (a1 : Ring) : Nat → (List Int) → Int → Option (List Int)
  | 0, _, _ => none
  | n + 1, l5, x6 =>
    bif decide (x6 < ((a1.Read.length : Nat) : Int)) then
      bif inb x6 a1.Read.length then
        bif (a1.Read.getD x6.toNat default).Ok then
          bif room (l5.length + 1) 8 then
            ring_measured_k2 x6 (ring_measured_L1 a1 n) (l5 ++ ([x6] : List Int))
          else none
        else
          ring_measured_k2 x6 (ring_measured_L1 a1 n) l5
      else none
    else
      some l5

def ring_measured (a1 : Ring) : Option (List Int) :=
  (ring_measured_L1 a1 FUEL ([] : List Int) 0).bind fun o18 =>
  some o18

/- sawmill/ring.behind -/

def ring_behind (a1 : Ring) (a2 : List Int) (a3 : Int) : Option Int :=
  bif decide ((w64 (a3 + 1)) < ((a2.length : Nat) : Int)) then
    bif inb (w64 (a3 + 1)) a2.length then
      bif inb a3 a2.length then
        some (w64 ((w64 ((a2.getD (w64 (a3 + 1)).toNat default) - (a2.getD a3.toNat default))) - 1))
      else none
    else none
  else
    bif inb 0 a2.length then
      bif inb a3 a2.length then
        some (w64 ((w64 ((w64 ((a2.getD (0 : Int).toNat default) + ((a1.Read.length : Nat) : Int))) - (a2.getD a3.toNat default))) - 1))
      else none
    else none

/- sawmill/ring.Gaps -/

def ring_Gaps_L1 (a1 : Ring) (v4 : (List Int)) : Nat → Int → Int → Option Int
  | 0, _, _ => none
  | n + 1, x12, x13 =>
    bif decide (x13 < ((v4.length : Nat) : Int)) then
      (ring_behind a1 v4 x13).bind fun v18 =>
      (ring_Gaps_L1 a1 v4 n) (imax x12 v18) (w64 (x13 + 1))
    else
      some x12

def ring_Gaps (a1 : Ring) : Option (Int × Int) :=
  (ring_measured a1).bind fun v4 =>
  bif ((v4.length : Nat) : Int) == 0 then
    some (w64 (((a1.Read.length : Nat) : Int) - ((v4.length : Nat) : Int)), w64 (((a1.Read.length : Nat) : Int) - ((v4.length : Nat) : Int)))
  else
    (ring_Gaps_L1 a1 v4 FUEL 0 0).bind fun o22 =>
    some (w64 (((a1.Read.length : Nat) : Int) - ((v4.length : Nat) : Int)), o22)

/- sawmill/ring.floor -/

def ring_floor_k1 (x9 : Int) : Option Int :=
  some x9

def ring_floor (a1 : Int) (a2 : Int) : Option Int :=
  bif nz a2 then
    bif decide ((Int.tmod a1 a2) < 0) then
      ring_floor_k1 (w64 ((w64 (Int.tdiv a1 a2)) - 1))
    else
      ring_floor_k1 (w64 (Int.tdiv a1 a2))
  else none

/- sawmill/ring.Repair -/

def ring_Repair_L3 (a1 : Ring) (v11 : (List Int)) (x26 : Int) (v38 : Int) : Nat → (List Point) → Int → Option (List Point)
  | 0, _, _ => none
  | n + 1, l41, x42 =>
    bif decide (x42 ≤ v38) then
      bif nz ((l41.length : Nat) : Int) then
        (ring_floor (w64 ((w64 ((((a1.Read.getD (v11.getD ((Int.tmod (w64 (x26 + 1)) ((v11.length : Nat) : Int)).toNat) default).toNat default).P).X) - (((a1.Read.getD (v11.getD x26.toNat default).toNat default).P).X))) * x42)) (w64 (v38 + 1))).bind fun v46 =>
        (ring_floor (w64 ((w64 ((((a1.Read.getD (v11.getD ((Int.tmod (w64 (x26 + 1)) ((v11.length : Nat) : Int)).toNat) default).toNat default).P).Y) - (((a1.Read.getD (v11.getD x26.toNat default).toNat default).P).Y))) * x42)) (w64 (v38 + 1))).bind fun v48 =>
        bif inb (Int.tmod (w64 ((v11.getD x26.toNat default) + x42)) ((l41.length : Nat) : Int)) l41.length then
          (ring_Repair_L3 a1 v11 x26 v38 n) (l41.set ((Int.tmod (w64 ((v11.getD x26.toNat default) + x42)) ((l41.length : Nat) : Int)).toNat) (Point.mk (w64 ((((a1.Read.getD (v11.getD x26.toNat default).toNat default).P).X) + v46)) (w64 ((((a1.Read.getD (v11.getD x26.toNat default).toNat default).P).Y) + v48)))) (w64 (x42 + 1))
        else none
      else none
    else
      some l41

def ring_Repair_L2 (a1 : Ring) (v11 : (List Int)) : Nat → (List Point) → Int → Option (List Point)
  | 0, _, _ => none
  | n + 1, l25, x26 =>
    bif decide (x26 < ((v11.length : Nat) : Int)) then
      bif inb x26 v11.length then
        bif inb (v11.getD x26.toNat default) a1.Read.length then
          bif nz ((v11.length : Nat) : Int) then
            bif inb (Int.tmod (w64 (x26 + 1)) ((v11.length : Nat) : Int)) v11.length then
              bif inb (v11.getD ((Int.tmod (w64 (x26 + 1)) ((v11.length : Nat) : Int)).toNat) default) a1.Read.length then
                bif inb (v11.getD x26.toNat default) l25.length then
                  (ring_behind a1 v11 x26).bind fun v38 =>
                  (ring_Repair_L3 a1 v11 x26 v38 FUEL (l25.set ((v11.getD x26.toNat default).toNat) ((a1.Read.getD (v11.getD x26.toNat default).toNat default).P)) 1).bind fun o53 =>
                  (ring_Repair_L2 a1 v11 n) o53 (w64 (x26 + 1))
                else none
              else none
            else none
          else none
        else none
      else none
    else
      some l25

def ring_Repair_k1 (a1 : Ring) (v11 : (List Int)) (x19 : Bool) : Option ((List Point) × Int) :=
  bif x19 then
    some (([] : List Point), 30)
  else
    bif mkOk ((a1.Read.length : Nat) : Int) 16 then
      (ring_Repair_L2 a1 v11 FUEL (List.replicate (((a1.Read.length : Nat) : Int).toNat) (Point.mk 0 0)) 0).bind fun o57 =>
      some (o57, 0)
    else none

def ring_Repair (a1 : Ring) (a2 : Int) : Option ((List Point) × Int) :=
  (ring_Check a1).bind fun v5 =>
  bif v5 != 0 then
    some (([] : List Point), v5)
  else
    (ring_measured a1).bind fun v11 =>
    (ring_Gaps a1).bind fun v14 =>
    bif decide (((v11.length : Nat) : Int) < 3) then
      ring_Repair_k1 a1 v11 true
    else
      bif decide (v14.1 > 0) then
        ring_Repair_k1 a1 v11 (decide (v14.2 > a2))
      else
        ring_Repair_k1 a1 v11 false

/- slices.Clone[[]sawmill/api.Reading,sawmill/api.Reading] -/

def slices_Clone_Reading (a1 : List Reading) : Option (List Reading) :=
  bif room a1.length 24 then some a1 else none

/- sawmill/ring.clone -/

def ring_clone (a1 : Ring) : Option Ring :=
  (slices_Clone_Reading a1.Read).bind fun v3 =>
  some (Ring.mk a1.Z v3)

/- sawmill/ring.Merge -/

def ring_Merge_k3 (x25 : Int) (rec_ring_Merge_L2 : Int → (List Reading) → Option (List Reading)) (l35 : List Reading) : Option (List Reading) :=
  rec_ring_Merge_L2 (w64 (x25 + 1)) l35

def ring_Merge_L2 (a1 : Ring) (a2 : Ring) : Nat → Int → (List Reading) → Option (List Reading)
  | 0, _, _ => none
  | n + 1, x25, l26 =>
    bif decide (x25 < ((a1.Read.length : Nat) : Int)) then
      bif inb x25 a1.Read.length then
        bif !((a1.Read.getD x25.toNat default).Ok) then
          bif inb x25 a2.Read.length then
            bif inb x25 l26.length then
              ring_Merge_k3 x25 (ring_Merge_L2 a1 a2 n) (l26.set x25.toNat (a2.Read.getD x25.toNat default))
            else none
          else none
        else
          ring_Merge_k3 x25 (ring_Merge_L2 a1 a2 n) l26
      else none
    else
      some l26

def ring_Merge_k1 (a1 : Ring) (a2 : Ring) (x18 : Bool) : Option (Ring × Int) :=
  bif x18 then
    some ((Ring.mk 0 ([] : List Reading)), 19)
  else
    (ring_clone a1).bind fun v22 =>
    (ring_Merge_L2 a1 a2 FUEL 0 v22.Read).bind fun o38 =>
    some ((Ring.mk v22.Z o38), 0)

def ring_Merge (a1 : Ring) (a2 : Ring) : Option (Ring × Int) :=
  (ring_Check a1).bind fun v5 =>
  bif v5 != 0 then
    some ((Ring.mk 0 ([] : List Reading)), v5)
  else
    (ring_Check a2).bind fun v11 =>
    bif v11 != 0 then
      some ((Ring.mk 0 ([] : List Reading)), v11)
    else
      bif a1.Z != a2.Z then
        ring_Merge_k1 a1 a2 true
      else
        ring_Merge_k1 a1 a2 (((a1.Read.length : Nat) : Int) != ((a2.Read.length : Nat) : Int))

/- sawmill/ring.far -/

def ring_far_k1 (x7 : Bool) : Option Bool :=
  some x7

def ring_far (a1 : Point) (a2 : Point) (a3 : Int) : Option Bool :=
  bif decide ((imax (w64 (a1.X - a2.X)) (w64 (a2.X - a1.X))) > a3) then
    ring_far_k1 true
  else
    ring_far_k1 (decide ((imax (w64 (a1.Y - a2.Y)) (w64 (a2.Y - a1.Y))) > a3))

/- sawmill/ring.Clean -/

def ring_Clean_k4 (x28 : Int) (rec_ring_Clean_L3 : Bool → Int → Option Bool) (x40 : Bool) : Option Bool :=
  rec_ring_Clean_L3 x40 (w64 (x28 + 1))

def ring_Clean_L3 (a1 : Ring) (a2 : Int) (v8 : (List Int)) (x19 : Int) : Nat → Bool → Int → Option Bool
  | 0, _, _ => none
  | n + 1, x27, x28 =>
    bif decide (x28 < 2) then
      bif inb x28 2 then
        bif nz ((v8.length : Nat) : Int) then
          bif inb (Int.tmod (w64 ((w64 (x19 + ((v8.length : Nat) : Int))) + (([(-1), 1] : List Int).getD x28.toNat 0))) ((v8.length : Nat) : Int)) v8.length then
            bif inb (v8.getD ((Int.tmod (w64 ((w64 (x19 + ((v8.length : Nat) : Int))) + (([(-1), 1] : List Int).getD x28.toNat 0))) ((v8.length : Nat) : Int)).toNat) default) a1.Read.length then
              bif x27 then
                bif inb (v8.getD x19.toNat default) a1.Read.length then
                  (ring_far ((a1.Read.getD (v8.getD x19.toNat default).toNat default).P) ((a1.Read.getD (v8.getD ((Int.tmod (w64 ((w64 (x19 + ((v8.length : Nat) : Int))) + (([(-1), 1] : List Int).getD x28.toNat 0))) ((v8.length : Nat) : Int)).toNat) default).toNat default).P) a2).bind fun v38 =>
                  ring_Clean_k4 x28 (ring_Clean_L3 a1 a2 v8 x19 n) v38
                else none
              else
                ring_Clean_k4 x28 (ring_Clean_L3 a1 a2 v8 x19 n) false
            else none
          else none
        else none
      else none
    else
      some x27

def ring_Clean_k5 (x19 : Int) (rec_ring_Clean_L2 : Int → (List Reading) → Option (List Reading)) (l49 : List Reading) : Option (List Reading) :=
  rec_ring_Clean_L2 (w64 (x19 + 1)) l49

def ring_Clean_L2 (a1 : Ring) (a2 : Int) (v8 : (List Int)) : Nat → Int → (List Reading) → Option (List Reading)
  | 0, _, _ => none
  | n + 1, x19, l20 =>
    bif decide (x19 < ((v8.length : Nat) : Int)) then
      bif inb x19 v8.length then
        (ring_Clean_L3 a1 a2 v8 x19 FUEL true 0).bind fun o43 =>
        bif o43 then
          bif inb (v8.getD x19.toNat default) l20.length then
            ring_Clean_k5 x19 (ring_Clean_L2 a1 a2 v8 n) (l20.set ((v8.getD x19.toNat default).toNat) (Reading.mk (Point.mk 0 0) false))
          else none
        else
          ring_Clean_k5 x19 (ring_Clean_L2 a1 a2 v8 n) l20
      else none
    else
      some l20

def ring_Clean_k1 (a1 : Ring) (a2 : Int) (v5 : Ring) (v8 : (List Int)) (x15 : Bool) : Option Ring :=
  bif x15 then
    some (Ring.mk v5.Z v5.Read)
  else
    (ring_Clean_L2 a1 a2 v8 FUEL 0 v5.Read).bind fun o52 =>
    some (Ring.mk v5.Z o52)

def ring_Clean (a1 : Ring) (a2 : Int) : Option Ring :=
  (ring_clone a1).bind fun v5 =>
  (ring_measured a1).bind fun v8 =>
  bif decide (a2 < 0) then
    ring_Clean_k1 a1 a2 v5 v8 true
  else
    bif decide (((v8.length : Nat) : Int) < 2) then
      ring_Clean_k1 a1 a2 v5 v8 true
    else
      (ring_Check a1).bind fun v13 =>
      ring_Clean_k1 a1 a2 v5 v8 (v13 != 0)

/- sawmill/poly.canTurn -/

def poly_canTurn_k2 (x4 : Int) (rec_poly_canTurn_L1 : Int → Option (Bool ⊕ Unit)) (x11 : Bool) : Option (Bool ⊕ Unit) :=
  bif x11 then
    some (Sum.inl false)
  else
    rec_poly_canTurn_L1 (w64 (x4 + 1))

def poly_canTurn_L1 (a1 : List Point) : Nat → Int → Option (Bool ⊕ Unit)
  | 0, _ => none
  | n + 1, x4 =>
    bif decide (x4 < ((a1.length : Nat) : Int)) then
      bif inb x4 a1.length then
        bif ((a1.getD x4.toNat default).X) == (-9223372036854775808) then
          poly_canTurn_k2 x4 (poly_canTurn_L1 a1 n) true
        else
          poly_canTurn_k2 x4 (poly_canTurn_L1 a1 n) (((a1.getD x4.toNat default).Y) == (-9223372036854775808))
      else none
    else
      some (Sum.inr ())

def poly_canTurn (a1 : List Point) : Option Bool :=
  (poly_canTurn_L1 a1 FUEL 0).bind fun u17 => Sum.elim (fun v18 => some v18) (fun o15 =>
  some true) u17

/- sawmill/poly.Turn -/

def poly_Turn_L1 (a1 : List Point) (a2 : Int) : Nat → (List Point) → Int → Option (List Point)
  | 0, _, _ => none
  | n + 1, l14, x15 =>
    bif decide (x15 < ((a1.length : Nat) : Int)) then
      bif inb x15 a1.length then
        bif inb x15 l14.length then
          (poly_Turn_L1 a1 a2 n) (l14.set x15.toNat (Point.mk (w64 ((w64 (((tab_turns.getD (Int.tmod (w64 ((Int.tmod a2 4) + 4)) 4).toNat default).X) * ((a1.getD x15.toNat default).X))) - (w64 (((tab_turns.getD (Int.tmod (w64 ((Int.tmod a2 4) + 4)) 4).toNat default).Y) * ((a1.getD x15.toNat default).Y))))) (w64 ((w64 (((tab_turns.getD (Int.tmod (w64 ((Int.tmod a2 4) + 4)) 4).toNat default).Y) * ((a1.getD x15.toNat default).X))) + (w64 (((tab_turns.getD (Int.tmod (w64 ((Int.tmod a2 4) + 4)) 4).toNat default).X) * ((a1.getD x15.toNat default).Y))))))) (w64 (x15 + 1))
        else none
      else none
    else
      some l14

def poly_Turn (a1 : List Point) (a2 : Int) : Option (List Point) :=
  (poly_canTurn a1).bind fun v5 =>
  bif !v5 then
    some ([] : List Point)
  else
    bif inb (Int.tmod (w64 ((Int.tmod a2 4) + 4)) 4) 4 then
      bif mkOk ((a1.length : Nat) : Int) 16 then
        (poly_Turn_L1 a1 a2 FUEL (List.replicate (((a1.length : Nat) : Int).toNat) (Point.mk 0 0)) 0).bind fun o24 =>
        some o24
      else none
    else none

/- sawmill/ring.Turn -/

def ring_Turn_L1 (a1 : Ring) : Nat → (List Point) → Int → Option (List Point)
  | 0, _, _ => none
  | n + 1, l15, x16 =>
    bif decide (x16 < ((a1.Read.length : Nat) : Int)) then
      bif inb x16 a1.Read.length then
        bif inb x16 l15.length then
          (ring_Turn_L1 a1 n) (l15.set x16.toNat ((a1.Read.getD x16.toNat default).P)) (w64 (x16 + 1))
        else none
      else none
    else
      some l15

def ring_Turn_L2 (v28 : (List Point)) : Nat → Int → (List Reading) → Option (List Reading)
  | 0, _, _ => none
  | n + 1, x30, l31 =>
    bif decide (x30 < ((v28.length : Nat) : Int)) then
      bif inb x30 v28.length then
        bif inb x30 l31.length then
          (ring_Turn_L2 v28 n) (w64 (x30 + 1)) (l31.set x30.toNat (Reading.mk (v28.getD x30.toNat default) ((l31.getD x30.toNat default).Ok)))
        else none
      else none
    else
      some l31

def ring_Turn (a1 : Ring) (a2 : Int) : Option Ring :=
  (ring_clone a1).bind fun v5 =>
  (ring_Check a1).bind fun v8 =>
  bif v8 != 0 then
    some (Ring.mk v5.Z v5.Read)
  else
    bif mkOk ((a1.Read.length : Nat) : Int) 16 then
      (ring_Turn_L1 a1 FUEL (List.replicate (((a1.Read.length : Nat) : Int).toNat) (Point.mk 0 0)) 0).bind fun o25 =>
      (poly_Turn o25 a2).bind fun v28 =>
      (ring_Turn_L2 v28 FUEL 0 v5.Read).bind fun o40 =>
      some (Ring.mk v5.Z o40)
    else none

/- sawmill/sawmillref12.Same -/

def ref12_Same_L2 (a1 : Ring) (a2 : Ring) : Nat → Int → Option (Bool ⊕ Unit)
  | 0, _ => none
  | n + 1, x10 =>
    bif decide (x10 < ((a1.Read.length : Nat) : Int)) then
      bif inb x10 a1.Read.length then
        bif inb x10 a2.Read.length then
          bif !(((((a1.Read.getD x10.toNat default).P).X == ((a2.Read.getD x10.toNat default).P).X) && ((((a1.Read.getD x10.toNat default).P).Y == ((a2.Read.getD x10.toNat default).P).Y) && true)) && (((a1.Read.getD x10.toNat default).Ok == (a2.Read.getD x10.toNat default).Ok) && true)) then
            some (Sum.inl false)
          else
            (ref12_Same_L2 a1 a2 n) (w64 (x10 + 1))
        else none
      else none
    else
      some (Sum.inr ())

def ref12_Same_k1 (a1 : Ring) (a2 : Ring) (x6 : Bool) : Option Bool :=
  bif x6 then
    some false
  else
    (ref12_Same_L2 a1 a2 FUEL 0).bind fun u20 => Sum.elim (fun v21 => some v21) (fun o18 =>
    some true) u20

def ref12_Same (a1 : Ring) (a2 : Ring) : Option Bool :=
  bif a1.Z != a2.Z then
    ref12_Same_k1 a1 a2 true
  else
    ref12_Same_k1 a1 a2 (((a1.Read.length : Nat) : Int) != ((a2.Read.length : Nat) : Int))

/- sawmill/sawmilllaw12.awake -/

def law12_awake_k2 (x63 : Bool) : Option Bool :=
  some x63

def law12_awake_k1 (v3 : Ring) (v5 : Ring) (v12 : (List Point) × Int) (v15 : (List Point) × Int) (v19 : Ring × Int) (v22 : Int × Int) (x31 : Bool) : Option Bool :=
  bif x31 then
    some false
  else
    (ring_Check (Ring.mk v3.Z ((v3.Read.set ((1 : Int).toNat) (Reading.mk (Point.mk 0 0) false)).set ((2 : Int).toNat) (Reading.mk (Point.mk 0 0) false)))).bind fun v34 =>
    bif v34 == 0 then
      bif v12.2 == 0 then
        bif inb 1 v12.1.length then
          bif (((v12.1.getD ((1 : Int).toNat) default).X == 43) && (((v12.1.getD ((1 : Int).toNat) default).Y == 23) && true)) then
            bif inb 2 v12.1.length then
              bif (((v12.1.getD ((2 : Int).toNat) default).X == (-14)) && (((v12.1.getD ((2 : Int).toNat) default).Y == 46) && true)) then
                bif v15.2 == 30 then
                  bif v19.2 == 0 then
                    (law12_Round).bind fun v44 =>
                    (ref12_Same (Ring.mk v19.1.Z v19.1.Read) (Ring.mk v44.Z v44.Read)).bind fun v46 =>
                    bif v46 then
                      bif v22.1 == 2 then
                        bif v22.2 == 2 then
                          (ring_Clean (Ring.mk v5.Z (v5.Read.set ((1 : Int).toNat) (Reading.mk (Point.mk 500 (((v5.Read.getD ((1 : Int).toNat) default).P).Y)) ((v5.Read.getD ((1 : Int).toNat) default).Ok)))) 150).bind fun v51 =>
                          bif inb 1 v51.Read.length then
                            bif !((v51.Read.getD ((1 : Int).toNat) default).Ok) then
                              (ring_Clean (Ring.mk v5.Z (v5.Read.set ((1 : Int).toNat) (Reading.mk (Point.mk 500 (((v5.Read.getD ((1 : Int).toNat) default).P).Y)) ((v5.Read.getD ((1 : Int).toNat) default).Ok)))) 400).bind fun v55 =>
                              (ref12_Same (Ring.mk v55.Z v55.Read) (Ring.mk v5.Z (v5.Read.set ((1 : Int).toNat) (Reading.mk (Point.mk 500 (((v5.Read.getD ((1 : Int).toNat) default).P).Y)) ((v5.Read.getD ((1 : Int).toNat) default).Ok))))).bind fun v57 =>
                              bif v57 then
                                (ring_Turn (Ring.mk v3.Z ((v3.Read.set ((1 : Int).toNat) (Reading.mk (Point.mk 0 0) false)).set ((2 : Int).toNat) (Reading.mk (Point.mk 0 0) false))) 1).bind fun v60 =>
                                bif inb 0 v60.Read.length then
                                  law12_awake_k2 ((((v60.Read.getD ((0 : Int).toNat) default).P).X == 0) && ((((v60.Read.getD ((0 : Int).toNat) default).P).Y == 100) && true))
                                else none
                              else
                                law12_awake_k2 false
                            else
                              law12_awake_k2 false
                          else none
                        else
                          law12_awake_k2 false
                      else
                        law12_awake_k2 false
                    else
                      law12_awake_k2 false
                  else
                    law12_awake_k2 false
                else
                  law12_awake_k2 false
              else
                law12_awake_k2 false
            else none
          else
            law12_awake_k2 false
        else none
      else
        law12_awake_k2 false
    else
      law12_awake_k2 false

def law12_awake : Option Bool :=
  (law12_Round).bind fun v3 =>
  (law12_Round).bind fun v5 =>
  bif inb 1 v3.Read.length then
    bif inb 2 v3.Read.length then
      bif inb 1 v5.Read.length then
        (ring_Repair (Ring.mk v3.Z ((v3.Read.set ((1 : Int).toNat) (Reading.mk (Point.mk 0 0) false)).set ((2 : Int).toNat) (Reading.mk (Point.mk 0 0) false))) 2).bind fun v12 =>
        (ring_Repair (Ring.mk v3.Z ((v3.Read.set ((1 : Int).toNat) (Reading.mk (Point.mk 0 0) false)).set ((2 : Int).toNat) (Reading.mk (Point.mk 0 0) false))) 1).bind fun v15 =>
        (law12_Round).bind fun v17 =>
        (ring_Merge (Ring.mk v3.Z ((v3.Read.set ((1 : Int).toNat) (Reading.mk (Point.mk 0 0) false)).set ((2 : Int).toNat) (Reading.mk (Point.mk 0 0) false))) (Ring.mk v17.Z v17.Read)).bind fun v19 =>
        (ring_Gaps (Ring.mk v3.Z ((v3.Read.set ((1 : Int).toNat) (Reading.mk (Point.mk 0 0) false)).set ((2 : Int).toNat) (Reading.mk (Point.mk 0 0) false)))).bind fun v22 =>
        bif ((v12.1.length : Nat) : Int) != 8 then
          law12_awake_k1 v3 v5 v12 v15 v19 v22 true
        else
          (ring_Clean (Ring.mk v5.Z (v5.Read.set ((1 : Int).toNat) (Reading.mk (Point.mk 500 (((v5.Read.getD ((1 : Int).toNat) default).P).Y)) ((v5.Read.getD ((1 : Int).toNat) default).Ok)))) 150).bind fun v26 =>
          bif ((v26.Read.length : Nat) : Int) != 8 then
            law12_awake_k1 v3 v5 v12 v15 v19 v22 true
          else
            (ring_Turn (Ring.mk v3.Z ((v3.Read.set ((1 : Int).toNat) (Reading.mk (Point.mk 0 0) false)).set ((2 : Int).toNat) (Reading.mk (Point.mk 0 0) false))) 1).bind fun v29 =>
            law12_awake_k1 v3 v5 v12 v15 v19 v22 (((v29.Read.length : Nat) : Int) != 8)
      else none
    else none
  else none

/- sawmill/sawmillref12.Gaps -/

def ref12_Gaps_k3 (x16 : Int) (rec_ref12_Gaps_L2 : Int → Option Int) (x20 : Bool) : Option Int :=
  bif x20 then
    rec_ref12_Gaps_L2 (w64 (x16 + 1))
  else
    some x16

def ref12_Gaps_L2 (a1 : Ring) (x8 : Int) : Nat → Int → Option Int
  | 0, _ => none
  | n + 1, x16 =>
    bif decide (x16 < ((a1.Read.length : Nat) : Int)) then
      bif nz ((a1.Read.length : Nat) : Int) then
        bif inb (Int.tmod (w64 (x8 + x16)) ((a1.Read.length : Nat) : Int)) a1.Read.length then
          ref12_Gaps_k3 x16 (ref12_Gaps_L2 a1 x8 n) (!((a1.Read.getD (Int.tmod (w64 (x8 + x16)) ((a1.Read.length : Nat) : Int)).toNat default).Ok))
        else none
      else none
    else
      ref12_Gaps_k3 x16 (ref12_Gaps_L2 a1 x8 n) false

def ref12_Gaps_k4 (x8 : Int) (rec_ref12_Gaps_L1 : Int → Int → Int → Option (Int × Int)) (x27 : Int) (x28 : Int) : Option (Int × Int) :=
  rec_ref12_Gaps_L1 x27 x28 (w64 (x8 + 1))

def ref12_Gaps_L1 (a1 : Ring) : Nat → Int → Int → Int → Option (Int × Int)
  | 0, _, _, _ => none
  | n + 1, x6, x7, x8 =>
    bif decide (x8 < ((a1.Read.length : Nat) : Int)) then
      bif inb x8 a1.Read.length then
        bif (a1.Read.getD x8.toNat default).Ok then
          ref12_Gaps_k4 x8 (ref12_Gaps_L1 a1 n) x6 x7
        else
          (ref12_Gaps_L2 a1 x8 FUEL 0).bind fun o24 =>
          ref12_Gaps_k4 x8 (ref12_Gaps_L1 a1 n) (w64 (x6 + 1)) (imax x7 o24)
      else none
    else
      some (x6, x7)

def ref12_Gaps (a1 : Ring) : Option (Int × Int) :=
  (ref12_Gaps_L1 a1 FUEL 0 0 0).bind fun o32 =>
  some (o32.1, o32.2)

/- sawmill/sawmillref09.Ranged -/

def ref09_Ranged_k2 (x4 : Int) (rec_ref09_Ranged_L1 : Int → Option (Bool ⊕ Unit)) (x12 : Bool) : Option (Bool ⊕ Unit) :=
  bif x12 then
    some (Sum.inl false)
  else
    rec_ref09_Ranged_L1 (w64 (x4 + 1))

def ref09_Ranged_L1 (a1 : List Point) : Nat → Int → Option (Bool ⊕ Unit)
  | 0, _ => none
  | n + 1, x4 =>
    bif decide (x4 < ((a1.length : Nat) : Int)) then
      bif inb x4 a1.length then
        bif decide (((a1.getD x4.toNat default).X) < (-600)) then
          ref09_Ranged_k2 x4 (ref09_Ranged_L1 a1 n) true
        else
          bif decide (((a1.getD x4.toNat default).X) > 600) then
            ref09_Ranged_k2 x4 (ref09_Ranged_L1 a1 n) true
          else
            bif decide (((a1.getD x4.toNat default).Y) < (-600)) then
              ref09_Ranged_k2 x4 (ref09_Ranged_L1 a1 n) true
            else
              ref09_Ranged_k2 x4 (ref09_Ranged_L1 a1 n) (decide (((a1.getD x4.toNat default).Y) > 600))
      else none
    else
      some (Sum.inr ())

def ref09_Ranged (a1 : List Point) : Option Bool :=
  (ref09_Ranged_L1 a1 FUEL 0).bind fun u18 => Sum.elim (fun v19 => some v19) (fun o16 =>
  some true) u18

/- sawmill/sawmillref12.Check -/

def ref12_Check_k4 (x15 : Int) (rec_ref12_Check_L2 : Int → Option (Int ⊕ Unit)) (x29 : Bool) : Option (Int ⊕ Unit) :=
  bif x29 then
    some (Sum.inl 19)
  else
    rec_ref12_Check_L2 (w64 (x15 + 1))

def ref12_Check_k3 (a1 : Ring) (x15 : Int) (rec_ref12_Check_L2 : Int → Option (Int ⊕ Unit)) (x24 : Bool) : Option (Int ⊕ Unit) :=
  bif x24 then
    some (Sum.inl 9)
  else
    bif !((a1.Read.getD x15.toNat default).Ok) then
      ref12_Check_k4 x15 rec_ref12_Check_L2 (!((((a1.Read.getD x15.toNat default).P).X == 0) && ((((a1.Read.getD x15.toNat default).P).Y == 0) && true)))
    else
      ref12_Check_k4 x15 rec_ref12_Check_L2 false

def ref12_Check_L2 (a1 : Ring) : Nat → Int → Option (Int ⊕ Unit)
  | 0, _ => none
  | n + 1, x15 =>
    bif decide (x15 < ((a1.Read.length : Nat) : Int)) then
      bif inb x15 a1.Read.length then
        bif (a1.Read.getD x15.toNat default).Ok then
          (ref09_Ranged ([(a1.Read.getD x15.toNat default).P] : List Point)).bind fun v22 =>
          ref12_Check_k3 a1 x15 (ref12_Check_L2 a1 n) (!v22)
        else
          ref12_Check_k3 a1 x15 (ref12_Check_L2 a1 n) false
      else none
    else
      some (Sum.inr ())

def ref12_Check_k1 (a1 : Ring) (x11 : Bool) : Option Int :=
  bif x11 then
    some 9
  else
    (ref12_Check_L2 a1 FUEL 0).bind fun u35 => Sum.elim (fun v36 => some v36) (fun o33 =>
    some 0) u35

def ref12_Check (a1 : Ring) : Option Int :=
  bif decide (((a1.Read.length : Nat) : Int) < 8) then
    some 3
  else
    bif decide (((a1.Read.length : Nat) : Int) > 32) then
      some 4
    else
      bif decide (a1.Z < 0) then
        ref12_Check_k1 a1 true
      else
        ref12_Check_k1 a1 (decide (a1.Z > 20000))

/- sawmill/sawmilllaw12.RingChecks -/

def law12_RingChecks_k1 (x25 : Bool) : Option Bool :=
  some x25

def law12_RingChecks (a1 : Ring) : Option Bool :=
  (law12_few a1).bind fun v4 =>
  bif !v4 then
    (law12_awake).bind fun v8 =>
    some v8
  else
    (ring_Gaps a1).bind fun v11 =>
    (ref12_Gaps a1).bind fun v14 =>
    (ring_Check a1).bind fun v16 =>
    (ref12_Check a1).bind fun v18 =>
    bif v16 == v18 then
      bif v11.1 == v14.1 then
        bif v11.2 == v14.2 then
          (law12_awake).bind fun v23 =>
          law12_RingChecks_k1 v23
        else
          law12_RingChecks_k1 false
      else
        law12_RingChecks_k1 false
    else
      law12_RingChecks_k1 false

/- sawmill/sawmillref12.copied -/

def ref12_copied (a1 : Ring) : Option Ring :=
  bif room (0 + a1.Read.length) 24 then
    some (Ring.mk a1.Z (([] : List Reading) ++ a1.Read))
  else none

/- sawmill/sawmillref12.next -/

def ref12_next_L1 (a1 : List Reading) (a3 : Int) : Nat → Int → Option Int
  | 0, _ => none
  | n + 1, x8 =>
    bif inb x8 a1.length then
      bif !((a1.getD x8.toNat default).Ok) then
        bif nz ((a1.length : Nat) : Int) then
          (ref12_next_L1 a1 a3 n) (Int.tmod (w64 ((w64 (x8 + a3)) + ((a1.length : Nat) : Int))) ((a1.length : Nat) : Int))
        else none
      else
        some x8
    else none

def ref12_next (a1 : List Reading) (a2 : Int) (a3 : Int) : Option Int :=
  bif nz ((a1.length : Nat) : Int) then
    (ref12_next_L1 a1 a3 FUEL (Int.tmod (w64 ((w64 (a2 + a3)) + ((a1.length : Nat) : Int))) ((a1.length : Nat) : Int))).bind fun o15 =>
    some o15
  else none

/- sawmill/sawmillref12.apart -/

def ref12_apart_k1 (x9 : Bool) : Option Bool :=
  some x9

def ref12_apart (a1 : Point) (a2 : Point) (a3 : Int) : Option Bool :=
  bif decide ((w64 (a1.X - a2.X)) > a3) then
    ref12_apart_k1 true
  else
    bif decide ((w64 (a2.X - a1.X)) > a3) then
      ref12_apart_k1 true
    else
      bif decide ((w64 (a1.Y - a2.Y)) > a3) then
        ref12_apart_k1 true
      else
        ref12_apart_k1 (decide ((w64 (a2.Y - a1.Y)) > a3))

/- sawmill/sawmillref12.Clean -/

def ref12_Clean_k4 (x19 : Int) (rec_ref12_Clean_L2 : Int → (List Reading) → Option (List Reading)) (l41 : List Reading) : Option (List Reading) :=
  rec_ref12_Clean_L2 (w64 (x19 + 1)) l41

def ref12_Clean_k3 (x19 : Int) (l20 : List Reading) (rec_ref12_Clean_L2 : Int → (List Reading) → Option (List Reading)) (x37 : Bool) : Option (List Reading) :=
  bif x37 then
    bif inb x19 l20.length then
      ref12_Clean_k4 x19 rec_ref12_Clean_L2 (l20.set x19.toNat (Reading.mk (Point.mk 0 0) false))
    else none
  else
    ref12_Clean_k4 x19 rec_ref12_Clean_L2 l20

def ref12_Clean_L2 (a1 : Ring) (a2 : Int) : Nat → Int → (List Reading) → Option (List Reading)
  | 0, _, _ => none
  | n + 1, x19, l20 =>
    bif decide (x19 < ((a1.Read.length : Nat) : Int)) then
      bif inb x19 a1.Read.length then
        bif !((a1.Read.getD x19.toNat default).Ok) then
          ref12_Clean_k4 x19 (ref12_Clean_L2 a1 a2 n) l20
        else
          (ref12_next a1.Read x19 (-1)).bind fun v26 =>
          bif inb v26 a1.Read.length then
            (ref12_next a1.Read x19 1).bind fun v29 =>
            bif inb v29 a1.Read.length then
              (ref12_apart ((a1.Read.getD x19.toNat default).P) ((a1.Read.getD v26.toNat default).P) a2).bind fun v32 =>
              bif v32 then
                (ref12_apart ((a1.Read.getD x19.toNat default).P) ((a1.Read.getD v29.toNat default).P) a2).bind fun v35 =>
                ref12_Clean_k3 x19 l20 (ref12_Clean_L2 a1 a2 n) v35
              else
                ref12_Clean_k3 x19 l20 (ref12_Clean_L2 a1 a2 n) false
            else none
          else none
      else none
    else
      some l20

def ref12_Clean_k1 (a1 : Ring) (a2 : Int) (v8 : Ring) (x15 : Bool) : Option Ring :=
  bif x15 then
    some (Ring.mk v8.Z v8.Read)
  else
    (ref12_Clean_L2 a1 a2 FUEL 0 v8.Read).bind fun o44 =>
    some (Ring.mk v8.Z o44)

def ref12_Clean (a1 : Ring) (a2 : Int) : Option Ring :=
  (ref12_Gaps a1).bind fun v5 =>
  (ref12_copied a1).bind fun v8 =>
  bif decide (a2 < 0) then
    ref12_Clean_k1 a1 a2 v8 true
  else
    bif decide ((w64 (((a1.Read.length : Nat) : Int) - v5.1)) < 2) then
      ref12_Clean_k1 a1 a2 v8 true
    else
      (ref12_Check a1).bind fun v13 =>
      ref12_Clean_k1 a1 a2 v8 (v13 != 0)

/- sawmill/sawmillref09.Quarters -/

def ref09_Quarters (a1 : Int) : Option Int :=
  some (Int.tmod (w64 ((Int.tmod a1 4) + 4)) 4)

/- sawmill/sawmillref09.Turned -/

def ref09_Turned_L1 (a2 : Int) : Nat → Int → Point → Option Point
  | 0, _, _ => none
  | n + 1, x5, x6 =>
    bif decide (x5 < a2) then
      (ref09_Turned_L1 a2 n) (w64 (x5 + 1)) (Point.mk (w64 (0 - x6.Y)) x6.X)
    else
      some x6

def ref09_Turned (a1 : Point) (a2 : Int) : Option Point :=
  (ref09_Turned_L1 a2 FUEL 0 a1).bind fun o12 =>
  some o12

/- sawmill/sawmillref12.Turn -/

def ref12_Turn_k2 (x13 : Int) (rec_ref12_Turn_L1 : Int → (List Reading) → Option (List Reading)) (l24 : List Reading) : Option (List Reading) :=
  rec_ref12_Turn_L1 (w64 (x13 + 1)) l24

def ref12_Turn_L1 (a2 : Int) : Nat → Int → (List Reading) → Option (List Reading)
  | 0, _, _ => none
  | n + 1, x13, l14 =>
    bif decide (x13 < ((l14.length : Nat) : Int)) then
      bif inb x13 l14.length then
        bif (l14.getD x13.toNat default).Ok then
          (ref09_Quarters a2).bind fun v20 =>
          (ref09_Turned ((l14.getD x13.toNat default).P) v20).bind fun v22 =>
          ref12_Turn_k2 x13 (ref12_Turn_L1 a2 n) (l14.set x13.toNat (Reading.mk v22 ((l14.getD x13.toNat default).Ok)))
        else
          ref12_Turn_k2 x13 (ref12_Turn_L1 a2 n) l14
      else none
    else
      some l14

def ref12_Turn (a1 : Ring) (a2 : Int) : Option Ring :=
  (ref12_copied a1).bind fun v5 =>
  (ref12_Check a1).bind fun v8 =>
  bif v8 != 0 then
    some (Ring.mk v5.Z v5.Read)
  else
    (ref12_Turn_L1 a2 FUEL 0 v5.Read).bind fun o27 =>
    some (Ring.mk v5.Z o27)

/- sawmill/sawmilllaw12.RingCleans -/

def law12_RingCleans_k1 (x28 : Bool) : Option Bool :=
  some x28

def law12_RingCleans (a1 : Ring) (a2 : Int) (a3 : Int) : Option Bool :=
  (law12_few a1).bind fun v6 =>
  bif !v6 then
    (law12_awake).bind fun v10 =>
    some v10
  else
    (ring_Clean a1 a2).bind fun v12 =>
    (ref12_Clean a1 a2).bind fun v14 =>
    (ref12_Same (Ring.mk v12.Z v12.Read) (Ring.mk v14.Z v14.Read)).bind fun v16 =>
    bif v16 then
      (ring_Turn a1 a3).bind fun v19 =>
      (ref12_Turn a1 a3).bind fun v21 =>
      (ref12_Same (Ring.mk v19.Z v19.Read) (Ring.mk v21.Z v21.Read)).bind fun v23 =>
      bif v23 then
        (law12_awake).bind fun v26 =>
        law12_RingCleans_k1 v26
      else
        law12_RingCleans_k1 false
    else
      law12_RingCleans_k1 false

/- sawmill/sawmillref12.floor -/

def ref12_floor_k1 (x9 : Int) : Option Int :=
  some x9

def ref12_floor (a1 : Int) (a2 : Int) : Option Int :=
  bif nz a2 then
    bif decide ((w64 ((w64 (Int.tdiv a1 a2)) * a2)) > a1) then
      ref12_floor_k1 (w64 ((w64 (Int.tdiv a1 a2)) - 1))
    else
      ref12_floor_k1 (w64 (Int.tdiv a1 a2))
  else none

/- sawmill/sawmillref12.Repair -/

def ref12_Repair_k3 (x23 : Int) (rec_ref12_Repair_L2 : (List Point) → Int → Option (List Point)) (l43 : List Point) : Option (List Point) :=
  rec_ref12_Repair_L2 l43 (w64 (x23 + 1))

def ref12_Repair_L2 (a1 : Ring) : Nat → (List Point) → Int → Option (List Point)
  | 0, _, _ => none
  | n + 1, l22, x23 =>
    bif decide (x23 < ((a1.Read.length : Nat) : Int)) then
      bif inb x23 a1.Read.length then
        bif (a1.Read.getD x23.toNat default).Ok then
          bif room (l22.length + 1) 16 then
            ref12_Repair_k3 x23 (ref12_Repair_L2 a1 n) (l22 ++ ([(a1.Read.getD x23.toNat default).P] : List Point))
          else none
        else
          (ref12_next a1.Read x23 (-1)).bind fun v31 =>
          (ref12_next a1.Read x23 1).bind fun v33 =>
          bif nz ((a1.Read.length : Nat) : Int) then
            bif inb v31 a1.Read.length then
              bif inb v33 a1.Read.length then
                (ref12_floor (w64 ((w64 ((((a1.Read.getD v33.toNat default).P).X) - (((a1.Read.getD v31.toNat default).P).X))) * (Int.tmod (w64 ((w64 (x23 - v31)) + ((a1.Read.length : Nat) : Int))) ((a1.Read.length : Nat) : Int)))) (Int.tmod (w64 ((w64 (v33 - v31)) + ((a1.Read.length : Nat) : Int))) ((a1.Read.length : Nat) : Int))).bind fun v38 =>
                (ref12_floor (w64 ((w64 ((((a1.Read.getD v33.toNat default).P).Y) - (((a1.Read.getD v31.toNat default).P).Y))) * (Int.tmod (w64 ((w64 (x23 - v31)) + ((a1.Read.length : Nat) : Int))) ((a1.Read.length : Nat) : Int)))) (Int.tmod (w64 ((w64 (v33 - v31)) + ((a1.Read.length : Nat) : Int))) ((a1.Read.length : Nat) : Int))).bind fun v40 =>
                bif room (l22.length + 1) 16 then
                  ref12_Repair_k3 x23 (ref12_Repair_L2 a1 n) (l22 ++ ([(Point.mk (w64 ((((a1.Read.getD v31.toNat default).P).X) + v38)) (w64 ((((a1.Read.getD v31.toNat default).P).Y) + v40)))] : List Point))
                else none
              else none
            else none
          else none
      else none
    else
      some l22

def ref12_Repair_k1 (a1 : Ring) (x17 : Bool) : Option ((List Point) × Int) :=
  bif x17 then
    some (([] : List Point), 30)
  else
    (ref12_Repair_L2 a1 FUEL ([] : List Point) 0).bind fun o46 =>
    some (o46, 0)

def ref12_Repair (a1 : Ring) (a2 : Int) : Option ((List Point) × Int) :=
  (ref12_Check a1).bind fun v5 =>
  bif v5 != 0 then
    some (([] : List Point), v5)
  else
    (ref12_Gaps a1).bind fun v12 =>
    bif decide ((w64 (((a1.Read.length : Nat) : Int) - v12.1)) < 3) then
      ref12_Repair_k1 a1 true
    else
      bif decide (v12.1 > 0) then
        ref12_Repair_k1 a1 (decide (v12.2 > a2))
      else
        ref12_Repair_k1 a1 false

/- sawmill/sawmilllaw12.RingRepairs -/

def law12_RingRepairs_L2 (v12 : (List Point) × Int) (v15 : (List Point) × Int) : Nat → Int → Option (Bool ⊕ Unit)
  | 0, _ => none
  | n + 1, x23 =>
    bif decide (x23 < ((v12.1.length : Nat) : Int)) then
      bif inb x23 v12.1.length then
        bif inb x23 v15.1.length then
          bif !(((v12.1.getD x23.toNat default).X == (v15.1.getD x23.toNat default).X) && (((v12.1.getD x23.toNat default).Y == (v15.1.getD x23.toNat default).Y) && true)) then
            some (Sum.inl false)
          else
            (law12_RingRepairs_L2 v12 v15 n) (w64 (x23 + 1))
        else none
      else none
    else
      some (Sum.inr ())

def law12_RingRepairs_k1 (v12 : (List Point) × Int) (v15 : (List Point) × Int) (x19 : Bool) : Option Bool :=
  bif x19 then
    some false
  else
    (law12_RingRepairs_L2 v12 v15 FUEL 0).bind fun u33 => Sum.elim (fun v34 => some v34) (fun o31 =>
    (law12_awake).bind fun v36 =>
    some v36) u33

def law12_RingRepairs (a1 : Ring) (a2 : Int) : Option Bool :=
  (law12_few a1).bind fun v5 =>
  bif !v5 then
    (law12_awake).bind fun v9 =>
    some v9
  else
    (ring_Repair a1 a2).bind fun v12 =>
    (ref12_Repair a1 a2).bind fun v15 =>
    bif v12.2 != v15.2 then
      law12_RingRepairs_k1 v12 v15 true
    else
      law12_RingRepairs_k1 v12 v15 (((v12.1.length : Nat) : Int) != ((v15.1.length : Nat) : Int))

/- sawmill/sawmillref12.Merge -/

def ref12_Merge_k3 (x25 : Int) (rec_ref12_Merge_L2 : Int → (List Reading) → Option (List Reading)) (l33 : List Reading) : Option (List Reading) :=
  rec_ref12_Merge_L2 (w64 (x25 + 1)) l33

def ref12_Merge_L2 (a2 : Ring) : Nat → Int → (List Reading) → Option (List Reading)
  | 0, _, _ => none
  | n + 1, x25, l26 =>
    bif decide (x25 < ((l26.length : Nat) : Int)) then
      bif inb x25 l26.length then
        bif !((l26.getD x25.toNat default).Ok) then
          bif inb x25 a2.Read.length then
            ref12_Merge_k3 x25 (ref12_Merge_L2 a2 n) (l26.set x25.toNat (a2.Read.getD x25.toNat default))
          else none
        else
          ref12_Merge_k3 x25 (ref12_Merge_L2 a2 n) l26
      else none
    else
      some l26

def ref12_Merge_k1 (a1 : Ring) (a2 : Ring) (x18 : Bool) : Option (Ring × Int) :=
  bif x18 then
    some ((Ring.mk 0 ([] : List Reading)), 19)
  else
    (ref12_copied a1).bind fun v22 =>
    (ref12_Merge_L2 a2 FUEL 0 v22.Read).bind fun o36 =>
    some ((Ring.mk v22.Z o36), 0)

def ref12_Merge (a1 : Ring) (a2 : Ring) : Option (Ring × Int) :=
  (ref12_Check a1).bind fun v5 =>
  bif v5 != 0 then
    some ((Ring.mk 0 ([] : List Reading)), v5)
  else
    (ref12_Check a2).bind fun v11 =>
    bif v11 != 0 then
      some ((Ring.mk 0 ([] : List Reading)), v11)
    else
      bif a1.Z != a2.Z then
        ref12_Merge_k1 a1 a2 true
      else
        ref12_Merge_k1 a1 a2 (((a1.Read.length : Nat) : Int) != ((a2.Read.length : Nat) : Int))

/- sawmill/sawmilllaw12.RingMerges -/

def law12_RingMerges_k2 (x28 : Bool) : Option Bool :=
  some x28

def law12_RingMerges_k1 (a1 : Ring) (a2 : Ring) (x10 : Bool) : Option Bool :=
  bif x10 then
    (law12_awake).bind fun v13 =>
    some v13
  else
    (ring_Merge a1 a2).bind fun v16 =>
    (ref12_Merge a1 a2).bind fun v19 =>
    (ref12_Same (Ring.mk v16.1.Z v16.1.Read) (Ring.mk v19.1.Z v19.1.Read)).bind fun v22 =>
    bif v22 then
      bif v16.2 == v19.2 then
        (law12_awake).bind fun v26 =>
        law12_RingMerges_k2 v26
      else
        law12_RingMerges_k2 false
    else
      law12_RingMerges_k2 false

def law12_RingMerges (a1 : Ring) (a2 : Ring) : Option Bool :=
  (law12_few a1).bind fun v5 =>
  bif !v5 then
    law12_RingMerges_k1 a1 a2 true
  else
    (law12_few a2).bind fun v8 =>
    law12_RingMerges_k1 a1 a2 (!v8)

/- sawmill/sawmilllaw12.RingKeeps -/

def law12_RingKeeps_k2 (x17 : Bool) : Option Bool :=
  some x17

def law12_RingKeeps_k3 (x27 : Bool) : Option Bool :=
  some x27

def law12_RingKeeps_k6 (x46 : Int) (rec_law12_RingKeeps_L5 : Int → Option (Bool ⊕ Unit)) (x54 : Bool) : Option (Bool ⊕ Unit) :=
  bif x54 then
    some (Sum.inl false)
  else
    rec_law12_RingKeeps_L5 (w64 (x46 + 1))

def law12_RingKeeps_L5 (a1 : Ring) (v28 : Ring) (v30 : Ring) : Nat → Int → Option (Bool ⊕ Unit)
  | 0, _ => none
  | n + 1, x46 =>
    bif decide (x46 < ((v28.Read.length : Nat) : Int)) then
      bif inb x46 v28.Read.length then
        bif (v28.Read.getD x46.toNat default).Ok then
          bif inb x46 a1.Read.length then
            bif !(((((v28.Read.getD x46.toNat default).P).X == ((a1.Read.getD x46.toNat default).P).X) && ((((v28.Read.getD x46.toNat default).P).Y == ((a1.Read.getD x46.toNat default).P).Y) && true)) && (((v28.Read.getD x46.toNat default).Ok == (a1.Read.getD x46.toNat default).Ok) && true)) then
              law12_RingKeeps_k6 x46 (law12_RingKeeps_L5 a1 v28 v30 n) true
            else
              bif inb x46 v30.Read.length then
                law12_RingKeeps_k6 x46 (law12_RingKeeps_L5 a1 v28 v30 n) (!((v30.Read.getD x46.toNat default).Ok))
              else none
          else none
        else
          law12_RingKeeps_k6 x46 (law12_RingKeeps_L5 a1 v28 v30 n) false
      else none
    else
      some (Sum.inr ())

def law12_RingKeeps_k7 (x73 : Bool) : Option Bool :=
  some x73

def law12_RingKeeps_k4 (a1 : Ring) (a2 : List Int) (a3 : Int) (v28 : Ring) (v30 : Ring) (x42 : Bool) : Option Bool :=
  bif x42 then
    some false
  else
    (law12_RingKeeps_L5 a1 v28 v30 FUEL 0).bind fun u60 => Sum.elim (fun v61 => some v61) (fun o58 =>
    (ring_Turn a1 a3).bind fun v62 =>
    (ring_Clean (Ring.mk v62.Z v62.Read) (imin (a2.getD 0 default) (a2.getD 1 default))).bind fun v64 =>
    (ring_Turn (Ring.mk v28.Z v28.Read) a3).bind fun v66 =>
    (ref12_Same (Ring.mk v64.Z v64.Read) (Ring.mk v66.Z v66.Read)).bind fun v68 =>
    bif v68 then
      (law12_awake).bind fun v71 =>
      law12_RingKeeps_k7 v71
    else
      law12_RingKeeps_k7 false) u60

def law12_RingKeeps_k1 (a1 : Ring) (a2 : List Int) (a3 : Int) (x9 : Bool) : Option Bool :=
  bif x9 then
    (ring_Check a1).bind fun v12 =>
    bif v12 != 0 then
      (law12_awake).bind fun v15 =>
      law12_RingKeeps_k2 v15
    else
      law12_RingKeeps_k2 false
  else
    bif decide ((imin (a2.getD 0 default) (a2.getD 1 default)) < 0) then
      (ring_Clean a1 (imin (a2.getD 0 default) (a2.getD 1 default))).bind fun v20 =>
      (ref12_Same (Ring.mk v20.Z v20.Read) a1).bind fun v22 =>
      bif v22 then
        (law12_awake).bind fun v25 =>
        law12_RingKeeps_k3 v25
      else
        law12_RingKeeps_k3 false
    else
      (ring_Clean a1 (imin (a2.getD 0 default) (a2.getD 1 default))).bind fun v28 =>
      (ring_Clean a1 (imax (a2.getD 0 default) (a2.getD 1 default))).bind fun v30 =>
      bif v28.Z != a1.Z then
        law12_RingKeeps_k4 a1 a2 a3 v28 v30 true
      else
        bif ((v28.Read.length : Nat) : Int) != ((a1.Read.length : Nat) : Int) then
          law12_RingKeeps_k4 a1 a2 a3 v28 v30 true
        else
          bif ((v30.Read.length : Nat) : Int) != ((a1.Read.length : Nat) : Int) then
            law12_RingKeeps_k4 a1 a2 a3 v28 v30 true
          else
            (ring_Check (Ring.mk v28.Z v28.Read)).bind fun v35 =>
            bif v35 != 0 then
              law12_RingKeeps_k4 a1 a2 a3 v28 v30 true
            else
              (ring_Clean a1 1200).bind fun v38 =>
              (ref12_Same (Ring.mk v38.Z v38.Read) a1).bind fun v40 =>
              law12_RingKeeps_k4 a1 a2 a3 v28 v30 (!v40)

def law12_RingKeeps (a1 : Ring) (a2 : List Int) (a3 : Int) : Option Bool :=
  (ring_Check a1).bind fun v6 =>
  bif v6 != 0 then
    law12_RingKeeps_k1 a1 a2 a3 true
  else
    law12_RingKeeps_k1 a1 a2 a3 (decide (((a1.Read.length : Nat) : Int) > 32))

/- sawmill/sawmilllaw12.RingFills -/

def law12_RingFills_k2 (x20 : Bool) : Option Bool :=
  some x20

def law12_RingFills_k4 (x40 : Bool) : Option Bool :=
  some x40

def law12_RingFills_k7 (v22 : (List Point) × Int) (x49 : Int) (l50 : List Reading) (rec_law12_RingFills_L5 : Bool → Int → (List Reading) → Point → Point → Option (Bool ⊕ ((List Reading) × Point × Point))) (x70 : Bool) (x71 : Point) (x72 : Point) : Option (Bool ⊕ ((List Reading) × Point × Point)) :=
  rec_law12_RingFills_L5 x70 (w64 (x49 + 1)) (l50 ++ ([(Reading.mk (v22.1.getD x49.toNat default) true)] : List Reading)) x71 x72

def law12_RingFills_k6 (a1 : Ring) (v22 : (List Point) × Int) (x49 : Int) (l50 : List Reading) (rec_law12_RingFills_L5 : Bool → Int → (List Reading) → Point → Point → Option (Bool ⊕ ((List Reading) × Point × Point))) (x65 : Bool) (x66 : Point) (x67 : Point) : Option (Bool ⊕ ((List Reading) × Point × Point)) :=
  law12_RingFills_k7 v22 x49 l50 rec_law12_RingFills_L5 x65 (Point.mk (imax x66.X (((a1.Read.getD x49.toNat default).P).X)) (imax x66.Y (((a1.Read.getD x49.toNat default).P).Y))) (Point.mk (imin x67.X (((a1.Read.getD x49.toNat default).P).X)) (imin x67.Y (((a1.Read.getD x49.toNat default).P).Y)))

def law12_RingFills_L5 (a1 : Ring) (v22 : (List Point) × Int) : Nat → Bool → Int → (List Reading) → Point → Point → Option (Bool ⊕ ((List Reading) × Point × Point))
  | 0, _, _, _, _, _ => none
  | n + 1, x48, x49, l50, x51, x52 =>
    bif decide (x49 < ((v22.1.length : Nat) : Int)) then
      bif inb x49 v22.1.length then
        bif room (l50.length + 1) 24 then
          bif inb x49 a1.Read.length then
            bif !((a1.Read.getD x49.toNat default).Ok) then
              law12_RingFills_k7 v22 x49 l50 (law12_RingFills_L5 a1 v22 n) x48 x51 x52
            else
              bif !((((a1.Read.getD x49.toNat default).P).X == (v22.1.getD x49.toNat default).X) && ((((a1.Read.getD x49.toNat default).P).Y == (v22.1.getD x49.toNat default).Y) && true)) then
                some (Sum.inl false)
              else
                bif !x48 then
                  law12_RingFills_k6 a1 v22 x49 l50 (law12_RingFills_L5 a1 v22 n) true ((a1.Read.getD x49.toNat default).P) ((a1.Read.getD x49.toNat default).P)
                else
                  law12_RingFills_k6 a1 v22 x49 l50 (law12_RingFills_L5 a1 v22 n) x48 x51 x52
          else none
        else none
      else none
    else
      some (Sum.inr (l50, x51, x52))

def law12_RingFills_k9 (x82 : Int) (rec_law12_RingFills_L8 : Int → Option (Bool ⊕ Unit)) (x89 : Bool) : Option (Bool ⊕ Unit) :=
  bif x89 then
    some (Sum.inl false)
  else
    rec_law12_RingFills_L8 (w64 (x82 + 1))

def law12_RingFills_L8 (v22 : (List Point) × Int) (o77 : (List Reading) × Point × Point) : Nat → Int → Option (Bool ⊕ Unit)
  | 0, _ => none
  | n + 1, x82 =>
    bif decide (x82 < ((v22.1.length : Nat) : Int)) then
      bif inb x82 v22.1.length then
        bif decide (((v22.1.getD x82.toNat default).X) < o77.2.2.X) then
          law12_RingFills_k9 x82 (law12_RingFills_L8 v22 o77 n) true
        else
          bif decide (((v22.1.getD x82.toNat default).X) > o77.2.1.X) then
            law12_RingFills_k9 x82 (law12_RingFills_L8 v22 o77 n) true
          else
            bif decide (((v22.1.getD x82.toNat default).Y) < o77.2.2.Y) then
              law12_RingFills_k9 x82 (law12_RingFills_L8 v22 o77 n) true
            else
              law12_RingFills_k9 x82 (law12_RingFills_L8 v22 o77 n) (decide (((v22.1.getD x82.toNat default).Y) > o77.2.1.Y))
      else none
    else
      some (Sum.inr ())

def law12_RingFills_k12 (x111 : Int) (rec_law12_RingFills_L11 : Int → Option (Bool ⊕ Unit)) (x118 : Bool) : Option (Bool ⊕ Unit) :=
  bif x118 then
    some (Sum.inl false)
  else
    rec_law12_RingFills_L11 (w64 (x111 + 1))

def law12_RingFills_L11 (v22 : (List Point) × Int) (v98 : (List Point) × Int) (v101 : (List Point) × Int) : Nat → Int → Option (Bool ⊕ Unit)
  | 0, _ => none
  | n + 1, x111 =>
    bif decide (x111 < ((v22.1.length : Nat) : Int)) then
      bif inb x111 v98.1.length then
        bif inb x111 v22.1.length then
          bif !(((v98.1.getD x111.toNat default).X == (v22.1.getD x111.toNat default).X) && (((v98.1.getD x111.toNat default).Y == (v22.1.getD x111.toNat default).Y) && true)) then
            law12_RingFills_k12 x111 (law12_RingFills_L11 v22 v98 v101 n) true
          else
            bif inb x111 v101.1.length then
              law12_RingFills_k12 x111 (law12_RingFills_L11 v22 v98 v101 n) (!(((v101.1.getD x111.toNat default).X == (v22.1.getD x111.toNat default).X) && (((v101.1.getD x111.toNat default).Y == (v22.1.getD x111.toNat default).Y) && true)))
            else none
        else none
      else none
    else
      some (Sum.inr ())

def law12_RingFills_k10 (v22 : (List Point) × Int) (v98 : (List Point) × Int) (v101 : (List Point) × Int) (x107 : Bool) : Option Bool :=
  bif x107 then
    some false
  else
    (law12_RingFills_L11 v22 v98 v101 FUEL 0).bind fun u124 => Sum.elim (fun v125 => some v125) (fun o122 =>
    (law12_awake).bind fun v127 =>
    some v127) u124

def law12_RingFills_k3 (a1 : Ring) (v22 : (List Point) × Int) (x30 : Bool) : Option Bool :=
  bif x30 then
    some false
  else
    bif v22.2 != 0 then
      bif v22.2 == 30 then
        bif ((v22.1.length : Nat) : Int) == 0 then
          (law12_awake).bind fun v38 =>
          law12_RingFills_k4 v38
        else
          law12_RingFills_k4 false
      else
        law12_RingFills_k4 false
    else
      bif ((v22.1.length : Nat) : Int) != ((a1.Read.length : Nat) : Int) then
        some false
      else
        (law12_RingFills_L5 a1 v22 FUEL false 0 ([] : List Reading) (Point.mk 0 0) (Point.mk 0 0)).bind fun u79 => Sum.elim (fun v80 => some v80) (fun o77 =>
        (law12_RingFills_L8 v22 o77 FUEL 0).bind fun u95 => Sum.elim (fun v96 => some v96) (fun o93 =>
        (ring_Repair (Ring.mk a1.Z o77.1) 0).bind fun v98 =>
        (ring_Repair a1 32).bind fun v101 =>
        bif v98.2 != 0 then
          law12_RingFills_k10 v22 v98 v101 true
        else
          bif v101.2 != 0 then
            law12_RingFills_k10 v22 v98 v101 true
          else
            bif ((v98.1.length : Nat) : Int) != ((v22.1.length : Nat) : Int) then
              law12_RingFills_k10 v22 v98 v101 true
            else
              law12_RingFills_k10 v22 v98 v101 (((v101.1.length : Nat) : Int) != ((v22.1.length : Nat) : Int))) u95) u79

def law12_RingFills_k1 (a1 : Ring) (a2 : Int) (x8 : Bool) : Option Bool :=
  bif x8 then
    (ring_Repair a1 a2).bind fun v11 =>
    bif v11.2 != 0 then
      (ring_Check a1).bind fun v15 =>
      bif v11.2 == v15 then
        (law12_awake).bind fun v18 =>
        law12_RingFills_k2 v18
      else
        law12_RingFills_k2 false
    else
      law12_RingFills_k2 false
  else
    (ring_Repair a1 a2).bind fun v22 =>
    (ring_Gaps a1).bind fun v25 =>
    bif decide ((w64 (((a1.Read.length : Nat) : Int) - v25.1)) ≥ 3) then
      bif v25.1 == 0 then
        law12_RingFills_k3 a1 v22 (!((v22.2 == 0) == true))
      else
        law12_RingFills_k3 a1 v22 (!((v22.2 == 0) == (decide (v25.2 ≤ a2))))
    else
      law12_RingFills_k3 a1 v22 (!((v22.2 == 0) == false))

def law12_RingFills (a1 : Ring) (a2 : Int) : Option Bool :=
  (ring_Check a1).bind fun v5 =>
  bif v5 != 0 then
    law12_RingFills_k1 a1 a2 true
  else
    law12_RingFills_k1 a1 a2 (decide (((a1.Read.length : Nat) : Int) > 32))

/- sawmill/sawmilllaw12.RingTwice -/

def law12_RingTwice_k1 (x15 : Bool) : Option Bool :=
  some x15

def law12_RingTwice_k4 (x31 : Int) (rec_law12_RingTwice_L3 : Int → Option (Bool ⊕ Unit)) (x42 : Bool) : Option (Bool ⊕ Unit) :=
  bif x42 then
    some (Sum.inl false)
  else
    rec_law12_RingTwice_L3 (w64 (x31 + 1))

def law12_RingTwice_L3 (a1 : Ring) (a2 : Ring) (v6 : Ring × Int) : Nat → Int → Option (Bool ⊕ Unit)
  | 0, _ => none
  | n + 1, x31 =>
    bif decide (x31 < ((v6.1.Read.length : Nat) : Int)) then
      bif inb x31 v6.1.Read.length then
        bif inb x31 a1.Read.length then
          bif (a1.Read.getD x31.toNat default).Ok then
            bif !(((v6.1.Read.getD x31.toNat default).Ok) == true) then
              law12_RingTwice_k4 x31 (law12_RingTwice_L3 a1 a2 v6 n) true
            else
              bif (a1.Read.getD x31.toNat default).Ok then
                law12_RingTwice_k4 x31 (law12_RingTwice_L3 a1 a2 v6 n) (!(((((v6.1.Read.getD x31.toNat default).P).X == ((a1.Read.getD x31.toNat default).P).X) && ((((v6.1.Read.getD x31.toNat default).P).Y == ((a1.Read.getD x31.toNat default).P).Y) && true)) && (((v6.1.Read.getD x31.toNat default).Ok == (a1.Read.getD x31.toNat default).Ok) && true)))
              else
                law12_RingTwice_k4 x31 (law12_RingTwice_L3 a1 a2 v6 n) false
          else
            bif inb x31 a2.Read.length then
              bif !(((v6.1.Read.getD x31.toNat default).Ok) == ((a2.Read.getD x31.toNat default).Ok)) then
                law12_RingTwice_k4 x31 (law12_RingTwice_L3 a1 a2 v6 n) true
              else
                bif (a1.Read.getD x31.toNat default).Ok then
                  law12_RingTwice_k4 x31 (law12_RingTwice_L3 a1 a2 v6 n) (!(((((v6.1.Read.getD x31.toNat default).P).X == ((a1.Read.getD x31.toNat default).P).X) && ((((v6.1.Read.getD x31.toNat default).P).Y == ((a1.Read.getD x31.toNat default).P).Y) && true)) && (((v6.1.Read.getD x31.toNat default).Ok == (a1.Read.getD x31.toNat default).Ok) && true)))
                else
                  law12_RingTwice_k4 x31 (law12_RingTwice_L3 a1 a2 v6 n) false
            else none
        else none
      else none
    else
      some (Sum.inr ())

def law12_RingTwice_k5 (x86 : Bool) : Option Bool :=
  some x86

def law12_RingTwice_k2 (a1 : Ring) (a2 : Ring) (a3 : Int) (v6 : Ring × Int) (x27 : Bool) : Option Bool :=
  bif x27 then
    some false
  else
    (law12_RingTwice_L3 a1 a2 v6 FUEL 0).bind fun u48 => Sum.elim (fun v49 => some v49) (fun o46 =>
    (ring_Merge a1 a1).bind fun v51 =>
    (ring_Turn a1 a3).bind fun v53 =>
    (ring_Turn a2 a3).bind fun v55 =>
    (ring_Merge (Ring.mk v53.Z v53.Read) (Ring.mk v55.Z v55.Read)).bind fun v57 =>
    (ring_Turn a1 a3).bind fun v60 =>
    (ring_Turn (Ring.mk v60.Z v60.Read) (w64 (3 * (Int.tmod a3 4)))).bind fun v62 =>
    (ring_Gaps (Ring.mk v6.1.Z v6.1.Read)).bind fun v65 =>
    (ring_Gaps a1).bind fun v68 =>
    bif v51.2 == 0 then
      (ref12_Same (Ring.mk v51.1.Z v51.1.Read) a1).bind fun v71 =>
      bif v71 then
        bif v57.2 == 0 then
          (ring_Turn (Ring.mk v6.1.Z v6.1.Read) a3).bind fun v75 =>
          (ref12_Same (Ring.mk v57.1.Z v57.1.Read) (Ring.mk v75.Z v75.Read)).bind fun v77 =>
          bif v77 then
            (ref12_Same (Ring.mk v62.Z v62.Read) a1).bind fun v80 =>
            bif v80 then
              bif decide (v65.1 ≤ v68.1) then
                (law12_awake).bind fun v84 =>
                law12_RingTwice_k5 v84
              else
                law12_RingTwice_k5 false
            else
              law12_RingTwice_k5 false
          else
            law12_RingTwice_k5 false
        else
          law12_RingTwice_k5 false
      else
        law12_RingTwice_k5 false
    else
      law12_RingTwice_k5 false) u48

def law12_RingTwice (a1 : Ring) (a2 : Ring) (a3 : Int) : Option Bool :=
  (ring_Merge a1 a2).bind fun v6 =>
  bif v6.2 != 0 then
    bif ((v6.1.Read.length : Nat) : Int) == 0 then
      bif v6.1.Z == 0 then
        (law12_awake).bind fun v13 =>
        law12_RingTwice_k1 v13
      else
        law12_RingTwice_k1 false
    else
      law12_RingTwice_k1 false
  else
    (ring_Check a1).bind fun v17 =>
    bif v17 != 0 then
      law12_RingTwice_k2 a1 a2 a3 v6 true
    else
      (ring_Check a2).bind fun v20 =>
      bif v20 != 0 then
        law12_RingTwice_k2 a1 a2 a3 v6 true
      else
        bif ((v6.1.Read.length : Nat) : Int) != ((a1.Read.length : Nat) : Int) then
          law12_RingTwice_k2 a1 a2 a3 v6 true
        else
          bif ((a2.Read.length : Nat) : Int) != ((a1.Read.length : Nat) : Int) then
            law12_RingTwice_k2 a1 a2 a3 v6 true
          else
            (ring_Check (Ring.mk v6.1.Z v6.1.Read)).bind fun v25 =>
            law12_RingTwice_k2 a1 a2 a3 v6 (v25 != 0)

end Saw
end Go.SL
