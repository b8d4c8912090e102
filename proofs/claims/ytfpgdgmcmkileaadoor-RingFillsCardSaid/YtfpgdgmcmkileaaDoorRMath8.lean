/- The ring laws' plain mathematics, part 8: what is filled. -/
import Derived.Test.YtfpgdgmcmkileaaDoorRMath7
set_option linter.unusedVariables false
set_option linter.unusedSimpArgs false
namespace Go.SL
namespace Saw

theorem longest_le (a : Ring) (h : a.Read.length ≤ 1000) : ∃ L : Nat, ring_Gaps a = some (((a.Read.length - (meas a).length : Nat) : Int), (L : Int)) ∧ L ≤ a.Read.length := by
  obtain ⟨L, hL, _⟩ := gaps a h
  refine ⟨L, hL, ?_⟩
  have hml := meas_le a
  have h2 := hL
  unfold ring_Gaps at h2
  rw [measured_eq a h] at h2
  simp only [Option.bind_some, ints_len] at h2
  by_cases hm : (meas a).length = 0
  · have : ((((meas a).length : Nat) : Int) == 0) = true := by simp [hm]
    rw [this, cond_true, w64_id (by omega) (by omega)] at h2
    have := Option.some.inj h2
    simp only [Prod.mk.injEq] at this
    omega
  · have : ((((meas a).length : Nat) : Int) == 0) = false := beq_eq_false_iff_ne.2 (by omega)
    rw [this, cond_false] at h2
    obtain ⟨R, e, _, _, t⟩ := ring_gaps_loop a h FUEL 0 0 (by rw [FUEL_eq]; omega) (by omega)
    have e' : ring_Gaps_L1 a (ints (meas a)) FUEL 0 0 = some (R : Int) := e
    rw [e'] at h2
    have := Option.some.inj h2
    simp only [Prod.mk.injEq] at this
    rcases t with t | ⟨k, hk, t⟩
    · omega
    · have := gap_lt hk
      omega

theorem canFill_three {a : Ring} {m : Int} (h : canFill a m = true) : 3 ≤ (meas a).length := by
  unfold canFill at h
  rcases Nat.lt_or_ge (meas a).length 3 with h3 | h3
  · rw [decide_eq_true (by omega)] at h; cases h
  · exact h3

section
variable (a : Ring) (g : Good a) (hm : 2 ≤ (meas a).length)
include g hm

theorem fill_ok {i : Nat} (hi : i < a.Read.length) (ho : okAt a i = true) : (fill a).getD i default = Pt a i := by
  obtain ⟨k, hk, e⟩ := meas_mem hi ho
  have := (fill_spec a g hm).2.1 k 0 hk (Nat.zero_le _)
  rw [Nat.add_zero, e, mod_lo hi, val_zero, e] at this
  exact this

def boxed (lo hi p : Point) : Prop := lo.X ≤ p.X ∧ p.X ≤ hi.X ∧ lo.Y ≤ p.Y ∧ p.Y ≤ hi.Y

theorem fill_boxed {lo hi : Point} (hb : ∀ i, i < a.Read.length → okAt a i = true → boxed lo hi (Pt a i)) {q : Nat} (hq : q < a.Read.length) : boxed lo hi ((fill a).getD q default) := by
  obtain ⟨k, d, hk, hd, e, _⟩ := place_ex a g (by omega) hq
  have hk1 : (k + 1) % (meas a).length < (meas a).length := Nat.mod_lt _ (by omega)
  have h0 := Mi_ok hk
  have h1 := Mi_ok hk1
  have b0 := hb _ h0.1 h0.2
  have b1 : boxed lo hi (Pt a (nb a k 1)) := hb _ h1.1 h1.2
  rw [← e, (fill_spec a g hm).2.1 k d hk hd]
  have hx := mix_between (Pt a (Mi a k)).X (Pt a (nb a k 1)).X d (gap a k) (by omega)
  have hy := mix_between (Pt a (Mi a k)).Y (Pt a (nb a k 1)).Y d (gap a k) (by omega)
  obtain ⟨u1, u2, u3, u4⟩ := b0
  obtain ⟨v1, v2, v3, v4⟩ := b1
  refine ⟨?_, ?_, ?_, ?_⟩ <;> unfold val <;> simp only
  · rcases Int.le_total (Pt a (Mi a k)).X (Pt a (nb a k 1)).X with h | h
    · have := hx.1 h; omega
    · have := hx.2 h; omega
  · rcases Int.le_total (Pt a (Mi a k)).X (Pt a (nb a k 1)).X with h | h
    · have := hx.1 h; omega
    · have := hx.2 h; omega
  · rcases Int.le_total (Pt a (Mi a k)).Y (Pt a (nb a k 1)).Y with h | h
    · have := hy.1 h; omega
    · have := hy.2 h; omega
  · rcases Int.le_total (Pt a (Mi a k)).Y (Pt a (nb a k 1)).Y with h | h
    · have := hy.1 h; omega
    · have := hy.2 h; omega
end

def mkOn (p : Point) : Reading := ⟨p, true⟩
def full (a : Ring) (p : List Point) : Ring := ⟨a.Z, p.map mkOn⟩

theorem full_good (a : Ring) (g : Good a) (p : List Point) (hl : p.length = a.Read.length) (hp : ∀ q, q < a.Read.length → small (p.getD q default)) : Good (full a p) := by
  refine ⟨?_, ?_, g.z0, g.z1, all_getD fun j hj => ?_⟩
  · show 8 ≤ (p.map mkOn).length
    rw [List.length_map, hl]; exact g.lo
  · show (p.map mkOn).length ≤ 32
    rw [List.length_map, hl]; exact g.hi
  · have hj' : j < p.length := by simpa [full] using hj
    show chkAt ((p.map mkOn).getD j default) = 0
    rw [getD_map _ _ hj']
    have h := hp j (by omega)
    have : inRange (p.getD j default) = true := by
      unfold inRange
      simp only [Bool.and_eq_true, decide_eq_true_eq]
      exact ⟨⟨h.1, h.2.1⟩, ⟨h.2.2.1, h.2.2.2⟩⟩
    unfold chkAt mkOn
    simp only [this]
    rfl

theorem full_meas (a : Ring) (p : List Point) : meas (full a p) = List.range p.length := by
  unfold meas
  have hl : (full a p).Read.length = p.length := by simp [full]
  rw [hl, List.filter_eq_self]
  intro i hi
  unfold okAt full
  rw [getD_map _ _ (List.mem_range.1 hi)]
  rfl
theorem full_Mi (a : Ring) (p : List Point) {k : Nat} (hk : k < p.length) : Mi (full a p) k = k := by
  unfold Mi
  rw [full_meas, List.getD_eq_getElem?_getD, List.getElem?_range hk]
  rfl

theorem full_fill (a : Ring) (p : List Point) (g : Good (full a p)) : fill (full a p) = p := by
  have hl : (full a p).Read.length = p.length := by simp [full]
  have h8 := g.lo
  rw [hl] at h8
  have hm : (meas (full a p)).length = p.length := by rw [full_meas]; simp
  refine (fill_unique (full a p) g (by omega) hl.symm (fun k d hk hd => ?_)).symm
  rw [hm] at hk
  have hd0 : d = 0 := by
    rcases Nat.eq_zero_or_pos d with h | h
    · exact h
    · have := gap_not (a := full a p) (k := k) (d := d) (by omega) h hd
      have hlt : (Mi (full a p) k + d) % (full a p).Read.length < p.length := by rw [hl]; exact Nat.mod_lt _ (by omega)
      unfold okAt at this
      rw [show (full a p).Read = p.map mkOn from rfl, getD_map _ _ (by rw [← show (full a p).Read = p.map mkOn from rfl]; exact hlt)] at this
      cases this
  subst hd0
  rw [val_zero, Nat.add_zero, hl, full_Mi a p hk, mod_lo hk]
  unfold Pt
  rw [show (full a p).Read = p.map mkOn from rfl, getD_map _ _ hk]
  rfl

theorem fills_bounds (a : Ring) (p : List Point) (e : Int) (h : a.Read.length ≤ 1000) (hl : p.length = a.Read.length) (hp : ∀ i, i < a.Read.length → okAt a i = true → p.getD i default = Pt a i) :
    ∀ (n x : Nat) (s : Bool) (hi lo : Point), a.Read.length < x + n → x ≤ a.Read.length → (∀ i, i < x → okAt a i = true → s = true ∧ boxed lo hi (Pt a i)) →
      ∃ hi' lo', law12_RingFills_L5 a (p, e) n s (x : Int) ((p.take x).map mkOn) hi lo = some (.inr (p.map mkOn, hi', lo')) ∧ ∀ i, i < a.Read.length → okAt a i = true → boxed lo' hi' (Pt a i)
  | 0, x, s, hi, lo, h1, h2, _ => by omega
  | n + 1, x, s, hi, lo, h1, h2, hb => by
    unfold law12_RingFills_L5
    simp only [hl]
    by_cases hx : x < a.Read.length
    · have hlen : ((p.take x).map mkOn).length = x := by rw [List.length_map, List.length_take]; omega
      have htk : ((p.take x).map mkOn) ++ [Reading.mk (p.getD x default) true] = (p.take (x + 1)).map mkOn := by
        rw [List.take_add_one, List.getElem?_eq_getElem (by omega), List.getD_eq_getElem?_getD, List.getElem?_eq_getElem (by omega), List.map_append]; rfl
      rw [lt_t hx, inb_t (by omega) (by omega), hlen, room_t (by omega)]
      simp only [cond_true, Int.toNat_natCast, law12_RingFills_k6, law12_RingFills_k7, w64_succ x (by omega), htk]
      rw [show (a.Read.getD x default).Ok = okAt a x from rfl, show (a.Read.getD x default).P = Pt a x from rfl]
      cases ho : okAt a x with
      | false =>
        refine fills_bounds a p e h hl hp n (x + 1) s hi lo (by omega) (by omega) (fun i hi1 ho1 => ?_)
        by_cases he : i = x
        · subst he; rw [ho] at ho1; cases ho1
        · exact hb i (by omega) ho1
      | true =>
        rw [hp x hx ho]
        simp only [BEq.rfl, Bool.and_self, Bool.not_true, cond_false]
        cases s with
        | false =>
          refine fills_bounds a p e h hl hp n (x + 1) true _ _ (by omega) (by omega) (fun i hi1 ho1 => ?_)
          refine ⟨rfl, ?_⟩
          by_cases he : i = x
          · subst he
            unfold boxed imax imin
            simp only [Int.lt_irrefl, if_false]
            exact ⟨by omega, by omega, by omega, by omega⟩
          · have := (hb i (by omega) ho1).1
            cases this
        | true =>
          refine fills_bounds a p e h hl hp n (x + 1) true _ _ (by omega) (by omega) (fun i hi1 ho1 => ?_)
          refine ⟨rfl, ?_⟩
          by_cases he : i = x
          · subst he
            unfold boxed imax imin
            simp only
            refine ⟨?_, ?_, ?_, ?_⟩ <;> split <;> omega
          · obtain ⟨b1, b2, b3, b4⟩ := (hb i (by omega) ho1).2
            unfold boxed imax imin
            simp only
            refine ⟨?_, ?_, ?_, ?_⟩ <;> split <;> omega
    · rw [lt_f hx, List.take_of_length_le (by omega)]
      exact ⟨hi, lo, rfl, fun i hi1 ho1 => (hb i (by omega) ho1).2⟩

theorem fills_within (v : List Point × Int) (o : List Reading × Point × Point) (h : v.1.length ≤ 1000) (hb : ∀ i, i < v.1.length → boxed o.2.2 o.2.1 (v.1.getD i default)) :
    ∀ (n x : Nat), v.1.length < x + n → x ≤ v.1.length → law12_RingFills_L8 v o n (x : Int) = some (.inr ())
  | 0, x, h1, h2 => by omega
  | n + 1, x, h1, h2 => by
    unfold law12_RingFills_L8
    by_cases hx : x < v.1.length
    · obtain ⟨b1, b2, b3, b4⟩ := hb x hx
      rw [lt_t hx, inb_t (by omega) (by omega)]
      simp only [cond_true, Int.toNat_natCast, law12_RingFills_k9, w64_succ x (by omega), fills_within v o h hb n (x + 1) (by omega) (by omega)]
      rw [decide_eq_false (show ¬ (v.1.getD x default).X < o.2.2.X by omega), decide_eq_false (show ¬ (v.1.getD x default).X > o.2.1.X by omega), decide_eq_false (show ¬ (v.1.getD x default).Y < o.2.2.Y by omega), decide_eq_false (show ¬ (v.1.getD x default).Y > o.2.1.Y by omega)]
      rfl
    · rw [lt_f hx]; rfl

theorem fills_again (v : List Point × Int) (e f : Int) (h : v.1.length ≤ 1000) :
    ∀ (n x : Nat), v.1.length < x + n → x ≤ v.1.length → law12_RingFills_L11 v (v.1, e) (v.1, f) n (x : Int) = some (.inr ())
  | 0, x, h1, h2 => by omega
  | n + 1, x, h1, h2 => by
    unfold law12_RingFills_L11
    by_cases hx : x < v.1.length
    · rw [lt_t hx, show inb (x : Int) v.1.length = true from inb_t (by omega) (by omega)]
      simp only [cond_true, Int.toNat_natCast, law12_RingFills_k12, w64_succ x (by omega), fills_again v e f h n (x + 1) (by omega) (by omega), BEq.rfl, Bool.and_self, Bool.not_true, cond_false]
    · rw [lt_f hx]; rfl

theorem RingFills_true (a : Ring) (m : Int) (_ : wfRing a) (_ : i64ok m) : law12_RingFills a m = some true := by
  unfold law12_RingFills law12_RingFills_k1
  rw [ring_check]
  simp only [Option.bind_some]
  by_cases hc : chk a = 0
  · have g := (good_iff a).1 hc
    have hn := g.hi
    have hlo := g.lo
    have hml := meas_le a
    obtain ⟨L, hL, hLn⟩ := longest_le a (by omega)
    have hlong : longest a = (L : Int) := by unfold longest; rw [hL]
    have hw : w64 (((a.Read.length : Nat) : Int) - ((a.Read.length - (meas a).length : Nat) : Int)) = (((meas a).length : Nat) : Int) := by rw [w64_id (by omega) (by omega)]; omega
    rw [hc, decide_eq_false (show ¬ ((a.Read.length : Nat) : Int) > 32 by omega), ring_repair a g m, hL]
    simp only [bne_self_eq_false, cond_false, Option.bind_some, hw]
    -- the law's own question is whether it can be filled
    have key : law12_RingFills_k3 a (bif canFill a m then (fill a, 0) else ([], 30)) false = some true := by
      unfold law12_RingFills_k3
      cases hf : canFill a m with
      | false =>
        simp only [cond_false, awake_true, law12_RingFills_k4, Option.bind_some]
        rfl
      | true =>
        have h3 := canFill_three hf
        obtain ⟨f1, f2, f3, f4⟩ := fill_spec a g (by omega)
        obtain ⟨hi, lo, e5, hb⟩ := fills_bounds a (fill a) 0 (by omega) f1 (fun i hi ho => fill_ok a g (by omega) hi ho) FUEL 0 false ⟨0, 0⟩ ⟨0, 0⟩ (by rw [FUEL_eq]; omega) (by omega) (fun i hi => by omega)
        have e5' : law12_RingFills_L5 a (fill a, 0) FUEL false 0 [] ⟨0, 0⟩ ⟨0, 0⟩ = some (.inr ((fill a).map mkOn, hi, lo)) := e5
        have hs : ∀ q, q < a.Read.length → small ((fill a).getD q default) := fun q hq => fill_boxed a g (by omega) (lo := ⟨-600, -600⟩) (hi := ⟨600, 600⟩) (fun i _ _ => Pt_small g i) hq
        have gf := full_good a g (fill a) f1 hs
        have r1 := ring_repair (full a (fill a)) gf 0
        rw [full_fill a _ gf] at r1
        have hfm : (meas (full a (fill a))).length = a.Read.length := by rw [full_meas, List.length_range, f1]
        have hfl : (full a (fill a)).Read.length = a.Read.length := by simp [full, f1]
        have c1 : canFill (full a (fill a)) 0 = true := by
          unfold canFill
          rw [hfm, hfl, Nat.sub_self, decide_eq_false (show ¬ ((a.Read.length : Nat) : Int) < 3 by omega)]
          rfl
        have c2 : canFill a 32 = true := by
          unfold canFill
          rw [decide_eq_false (show ¬ (((meas a).length : Nat) : Int) < 3 by omega), decide_eq_false (show ¬ longest a > 32 by omega)]
          simp
        rw [c1] at r1
        have r2 := ring_repair a g 32
        rw [c2] at r2
        have r1' : ring_Repair { Z := a.Z, Read := (fill a).map mkOn } 0 = some (fill a, 0) := r1
        have e8 : law12_RingFills_L8 (fill a, 0) ((fill a).map mkOn, hi, lo) FUEL 0 = some (.inr ()) := fills_within (fill a, 0) _ (by simp only [f1]; omega) (fun i hi1 => fill_boxed a g (by omega) hb (by simp only [f1] at hi1; omega)) FUEL 0 (by rw [FUEL_eq]; simp only [f1]; omega) (by omega)
        have e11 : law12_RingFills_L11 (fill a, 0) (fill a, 0) (fill a, 0) FUEL 0 = some (.inr ()) := fills_again (fill a, 0) 0 0 (by simp only [f1]; omega) FUEL 0 (by rw [FUEL_eq]; simp only [f1]; omega) (by omega)
        simp only [cond_true, cond_false, bne_self_eq_false, f1, e5', Option.bind_some, Sum.elim_inr, e8, r1', r2, law12_RingFills_k10, e11, awake_true]
    have hcf : canFill a m = (decide ((((meas a).length : Nat) : Int) ≥ 3) && ((((a.Read.length - (meas a).length : Nat) : Int) == 0) || decide ((L : Int) ≤ m))) := by
      unfold canFill
      rw [hlong, Bool.eq_iff_iff]
      simp only [Bool.and_eq_true, Bool.or_eq_true, Bool.not_eq_true', Bool.and_eq_false_iff, decide_eq_true_eq, decide_eq_false_iff_not, beq_iff_eq]
      omega
    have hv : ((bif canFill a m then (fill a, (0 : Int)) else ([], 30)).2 == 0) = canFill a m := by cases canFill a m <;> rfl
    rw [hv]
    by_cases h3 : (((meas a).length : Nat) : Int) ≥ 3
    · rw [decide_eq_true h3] at hcf ⊢
      by_cases h4 : (((a.Read.length - (meas a).length : Nat) : Int) == 0) = true
      · rw [h4] at hcf ⊢
        have : canFill a m = true := by rw [hcf]; rfl
        rw [this] at key ⊢
        exact key
      · have h4' := Bool.eq_false_iff.2 h4
        rw [h4'] at hcf ⊢
        have : canFill a m = decide ((L : Int) ≤ m) := by rw [hcf]; rfl
        have e : (!(canFill a m == decide ((L : Int) ≤ m))) = false := by rw [this]; simp
        simp only [cond_true, cond_false, e]
        exact key
    · rw [decide_eq_false h3] at hcf ⊢
      have : canFill a m = false := by rw [hcf]; rfl
      rw [this] at key ⊢
      exact key
  · rw [bne_iff_ne.2 hc]
    simp only [cond_true, ring_repair_bad a hc m, Option.bind_some, bne_iff_ne.2 hc, BEq.rfl, awake_true, law12_RingFills_k2]
end Saw
end Go.SL
