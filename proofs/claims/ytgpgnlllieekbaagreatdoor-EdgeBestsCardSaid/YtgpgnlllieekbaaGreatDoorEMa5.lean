/- Edge's plain mathematics, part 27: the code's table is the table, and the best pieces. -/
import Derived.Test.YtgpgnlllieekbaaGreatDoorEMa4
set_option linter.unusedVariables false
set_option linter.unusedSimpArgs false
namespace Go.SL
namespace Saw
theorem IL {a : Line} (h : VL a) : ∀ (d k n : Nat) (s : List Ch × List Ch), k + d = a.Len.toNat + 1 → d < n → TI a k s →
  ∃ s', wK a (sums a.Chip) (sums a.Dust) n s.1 s.2 (a.Len - k) = some s'.1 ∧ TI a (a.Len.toNat + 1) s'
 | 0, k, n, s, hk, hn, t => by
  have ln := h.len
  obtain ⟨n, rfl⟩ : ∃ m, n = m + 1 := ⟨n - 1, by omega⟩
  have e : k = a.Len.toNat + 1 := by omega
  subst e
  refine ⟨s, ?_, t⟩
  rw [wK, decide_eq_false (by omega)]; rfl
 | d + 1, k, n, s, hk, hn, t => by
  have ln := h.len
  have kf := h.kerf
  have pt := h.pitch
  have cl := h.cl
  have dl := h.dl
  obtain ⟨n, rfl⟩ : ∃ m, n = m + 1 := ⟨n - 1, by omega⟩
  have hkl : (k : Int) ≤ a.Len := by omega
  have ep : a.Len - (k : Int) = ((a.Len.toNat - k : Nat) : Int) := by omega
  have l1 := t.l1
  have l2 := t.l2
  have t' := qN3 h hkl t
  obtain ⟨s', e', r'⟩ := IL h d (k + 1) n (qC3 a k s) (by omega) (by omega) t'
  refine ⟨s', ?_, r'⟩
  rw [← e']
  have f1 : (fun y => s.1.getD y default) = fun y => (tab a k y).1 := funext t.e1
  have hb1 : ∀ x : Nat, a.Len.toNat - k < x → (x : Int) ≤ a.Len → BV a x (s.1.getD x default).value := fun x h1 h2 => by rw [t.e1]; exact (t.b1 x (by omega) h2).1
  have es := qPG h (p := a.Len.toNat - k) (by omega) l1 hb1
  generalize hv : startS a (fun x => s.1.getD x default) (a.Len.toNat - k) = v at *
  have hb2 : ∀ x : Nat, a.Len.toNat - k < x → (x : Int) ≤ a.Len → BV a x ((s.2.set (a.Len.toNat - k) v).getD x default).value := fun x h1 h2 => by
   rw [NF _ (by omega), t.e2]; exact (t.b1 x (by omega) h2).2
  have e4 := qK3 h (p := a.Len.toNat - k) (by omega) l2 v hb2
  have chp := qEr h (p := a.Len.toNat - k) (by omega)
  unfold BV at chp
  rw [wK, ep]
  rw [es]
  simp only [Option.bind_some, Int.toNat_natCast, qDI, XV, XO]
  rw [decide_eq_true (by omega), qM (show (0 : Int) ≤ ((a.Len.toNat - k : Nat) : Int) by omega) (show ((a.Len.toNat - k : Nat) : Int) < ((s.2.length : Nat) : Int) by omega), qM (show (0 : Int) ≤ a.Len by omega) (show a.Len < (((sums a.Chip).length : Nat) : Int) by rw [KF]; omega), qM (show (0 : Int) ≤ ((a.Len.toNat - k : Nat) : Int) by omega) (show ((a.Len.toNat - k : Nat) : Int) < (((sums a.Chip).length : Nat) : Int) by rw [KF]; omega), qM (show (0 : Int) ≤ ((a.Len.toNat - k : Nat) : Int) by omega) (show ((a.Len.toNat - k : Nat) : Int) < ((s.1.length : Nat) : Int) by omega)]
  have ew : w64 (w64 (((a.Len.toNat - k : Nat) : Int) + a.Pitch) + a.Kerf) = ((placeN a (a.Len.toNat - k) 0 : Nat) : Int) := by
   rw [qF (n := ((a.Len.toNat - k : Nat) : Int) + a.Pitch) (by omega) (by omega), qF (by omega) (by omega)]
   unfold placeN
   rw [show (0 + 1) * a.Pitch.toNat = a.Pitch.toNat by simp]
   omega
  have em : w64 (((a.Len.toNat - k : Nat) : Int) - 1) = a.Len - ((k + 1 : Nat) : Int) := by rw [qF (by omega) (by omega)]; omega
  simp only [cond_true, ew, em, e4, Option.bind_some, QY (c := a.Chip) (show a.Len.toNat ≤ a.Chip.length by omega), QY (c := a.Chip) (show a.Len.toNat - k ≤ a.Chip.length by omega), qF (n := pre a.Chip a.Len.toNat - pre a.Chip (a.Len.toNat - k)) (by omega) (by omega)]
  have gs : qC3 a k s = (s.1.set (a.Len.toNat - k) (bestS a (fun x => (s.2.set (a.Len.toNat - k) v).getD x default) (a.Len.toNat - k)), s.2.set (a.Len.toNat - k) v) := by
   unfold qC3; rw [hv]
  rw [gs]
  unfold bestS CX
  simp only [noCh]
  cases isNo ((s.2.set (a.Len.toNat - k) v).getD (a.Len.toNat - k) default) <;> cases decide (((s.2.set (a.Len.toNat - k) v).getD (a.Len.toNat - k) default).value > pre a.Chip a.Len.toNat - pre a.Chip (a.Len.toNat - k)) <;> rfl
theorem TI0 {a : Line} (h : VL a) : TI a 0 (List.replicate (a.Len.toNat + 1) ⟨⟨0, 0⟩, 0⟩, List.replicate (a.Len.toNat + 1) ⟨⟨0, 0⟩, 0⟩) := by
 have ln := h.len
 refine ⟨by simp; omega, by simp; omega, fun j => ?_, fun j => ?_, fun j h1 h2 => by omega⟩ <;>
 ·show (List.replicate (a.Len.toNat + 1) (⟨⟨0, 0⟩, 0⟩ : Ch)).getD j default = ⟨⟨0, 0⟩, 0⟩
  by_cases c : j < a.Len.toNat + 1
  ·rw [List.getD_eq_getElem?_getD, List.getElem?_replicate, if_pos c]; rfl
  ·rw [List.getD_eq_getElem?_getD, List.getElem?_replicate, if_neg c]; rfl
/-- The code's choices. -/
theorem qN1 {a : Line} (h : VL a) : ∃ c : List Ch, XC a = some c ∧ (c.length : Int) = a.Len + 1 ∧ ∀ j, c.getD j default = bst a j := by
 have ln := h.len
 have cl := h.cl
 have dl := h.dl
 obtain ⟨s, e, t⟩ := IL h (a.Len.toNat + 1) 0 FUEL _ (by omega) (by rw [FUEL_eq]; omega) (TI0 h)
 refine ⟨s.1, ?_, t.l1, t.e1⟩
 unfold XC
 rw [qNL (by omega) h.cb, qNL (by omega) h.db]
 simp only [Option.bind_some]
 rw [qF (n := a.Len + 1) (by omega) (by omega), show a.Len + 1 = ((a.Len.toNat + 1 : Nat) : Int) by omega, qEP (by omega) (by omega), Int.toNat_natCast]
 simp only [cond_true]
 rw [show a.Len - ((0 : Nat) : Int) = a.Len by omega] at e
 simp only at e
 rw [e]; rfl
/-! ### The walk along the best choices -/
def walk (a : Line) : Nat → Nat → List Piece
 | 0, _ => []
 | n + 1, p => bif isNo (bst a p) then [] else (bst a p).piece :: (if (endN a (bst a p).piece.At.toNat (bst a p).piece.Size.toNat : Int) = a.Len then [] else walk a n (nxtN a (endN a (bst a p).piece.At.toNat (bst a p).piece.Size.toNat)))
/-- The choice at a place that is a piece: its size and its place. -/
theorem qBV {a : Line} (h : VL a) {p : Nat} (hp : (p : Int) ≤ a.Len) (hn : isNo (bst a p) = false) :
  ∃ i q : Nat, (bst a p).piece = ⟨(i : Int), (q : Int)⟩ ∧ i < a.Sizes.length ∧ ¬ ((q : Int) + szAt a i > a.Len) ∧ ¬ gnAt a i q < 0 ∧ (q = p ∨ ∃ k, k < jV a p ∧ q = placeN a p k) := by
 rw [qPe h hp] at hn ⊢
 have st : ∀ q : Nat, (q : Int) ≤ a.Len → isNo (stt a q) = false → ∃ i : Nat, (stt a q).piece = ⟨(i : Int), (q : Int)⟩ ∧ i < a.Sizes.length ∧ ¬ ((q : Int) + szAt a i > a.Len) ∧ ¬ gnAt a i q < 0 := fun q hq hn => by
  rw [qOP h hq] at hn ⊢
  rcases startS_is a (bst a) q with e | ⟨i, h1, h2, h3, e⟩
  ·rw [e] at hn; cases hn
  ·exact ⟨i, by rw [e], h1, h2, h3⟩
 rcases bestS_is a (stt a) p with e | ⟨h1, e⟩ | ⟨k, hk, h1, e⟩
 ·rw [e] at hn; cases hn
 ·rw [e]
  obtain ⟨i, a1, a2, a3, a4⟩ := st p hp h1
  exact ⟨i, p, a1, a2, a3, a4, .inl rfl⟩
 ·rw [e]
  obtain ⟨i, a1, a2, a3, a4⟩ := st _ ((VG h).1 hk) h1
  exact ⟨i, _, a1, a2, a3, a4, .inr ⟨k, hk, rfl⟩⟩
theorem qCC {a : Line} (h : VL a) {p i q : Nat} (hi : i < a.Sizes.length) (hq : ¬ ((q : Int) + szAt a i > a.Len)) (hpq : p ≤ q) (c : ¬ (endN a q i : Int) = a.Len) : p < nxtN a (endN a q i) ∧ (nxtN a (endN a q i) : Int) ≤ a.Len := by
 have := nxt_b h hi hq c
 omega
theorem qHV {a : Line} (h : VL a) {c : List Ch} (hl : (c.length : Int) = a.Len + 1) (hc : ∀ j, c.getD j default = bst a j) :
  ∀ (d n m p : Nat) (l : List Piece), a.Len.toNat - p < d → d < n → d < m → (p : Int) ≤ a.Len → l.length + d ≤ 5000 → WP a c n l (p : Int) = some (l ++ walk a m p)
 | 0, n, m, p, l, hd, _, _, _, _ => by omega
 | d + 1, n, m, p, l, hd, hn, hm, hp, hll => by
  have ln := h.len
  obtain ⟨n, rfl⟩ : ∃ k, n = k + 1 := ⟨n - 1, by omega⟩
  obtain ⟨m, rfl⟩ : ∃ k, m = k + 1 := ⟨m - 1, by omega⟩
  rw [WP, decide_eq_true (by omega), qM (by omega) (by omega), walk]
  simp only [cond_true, Int.toNat_natCast, hc, qDI]
  cases hn' : isNo (bst a p) with
  | true => simp
  | false =>
   obtain ⟨i, q, e, hi, hq, hg, hw⟩ := qBV h hp hn'
   have sz := h.sz i hi
   have hpq : p ≤ q := by
    rcases hw with rfl | ⟨k, hk, rfl⟩
    ·exact Nat.le_refl _
    ·have := LG h p k; omega
   clear hw
   have en : (endN a q i : Int) = q + szAt a i := by unfold endN szAt; omega
   simp only [cond_false, e, Int.toNat_natCast]
   rw [zG (by omega) (by omega), qM (by omega) (by omega), qF (n := (q : Int) + a.Sizes.getD i default) (by unfold szAt at *; omega) (by unfold szAt at *; omega)]
   simp only [cond_true, JY]
   rw [show (q : Int) + a.Sizes.getD i default = (endN a q i : Int) by rw [en]; rfl]
   by_cases c1 : (endN a q i : Int) = a.Len
   ·rw [if_pos c1, show ((endN a q i : Int) == a.Len) = true by rw [beq_iff_eq]; exact c1]
    simp only [cond_true, Option.bind_some]
    obtain ⟨n, rfl⟩ : ∃ k, n = k + 1 := ⟨n - 1, by omega⟩
    rw [WP]
    rfl
   ·rw [if_neg c1, show ((endN a q i : Int) == a.Len) = false by rw [beq_eq_false_iff_ne]; exact c1]
    have kf := h.kerf
    have ws := qCC h hi hq hpq c1
    have mm := wL ((endN a q i : Int) + a.Kerf) a.Len
    have en2 : imin ((endN a q i : Int) + a.Kerf) a.Len = (nxtN a (endN a q i) : Int) := by unfold nxtN; omega
    simp only [cond_false, Option.bind_some, qF (n := (endN a q i : Int) + a.Kerf) (by unfold szAt at *; omega) (by unfold szAt at *; omega), en2]
    rw [qHV h hl hc d n m (nxtN a (endN a q i)) _ (by omega) (by omega) (by omega) ws.2 (by simp; omega)]
    simp
/-- The best pieces of a good line, and their value. -/
def wX (a : Line) : List Piece := walk a 3000 0
theorem qNY {a : Line} (h : VL a) : VN a = some (wX a, (bst a 0).value, 0) := by
 have ln := h.len
 unfold VN
 obtain ⟨c, e1, e2, e3⟩ := qN1 h
 rw [qM1 h, e1]
 simp only [Option.bind_some, bne_self_eq_false, cond_false]
 have := qHV h e2 e3 2500 FUEL 3000 0 [] (by omega) (by rw [FUEL_eq]; omega) (by omega) (by omega) (by simp)
 rw [show ((0 : Nat) : Int) = 0 from rfl] at this
 rw [this, qM (by omega) (by omega)]
 simp only [Option.bind_some, cond_true, show (0 : Int).toNat = 0 from rfl, e3]
 rfl
abbrev Pt := Span × List Node
def ndC (l : List Pt) : Nat := (l.map (fun x => 3 + x.2.length)).sum
/-- The nodes that cut parts out of a frame, from an edge on, without the waste at the end; and whether the end is reached. -/
def rowB (axis kerf B : Int) : Int → List Pt → List Node × Bool
 | _, [] => ([], false)
 | e, x :: r =>
  let p : List Node := if x.1.A > e then [⟨axis, x.1.A - kerf⟩, ⟨0, 0⟩] else []
  if x.1.B < B then (p ++ ⟨axis, x.1.B⟩ :: x.2 ++ (rowB axis kerf B (imin (x.1.B + kerf) B) r).1, (rowB axis kerf B (imin (x.1.B + kerf) B) r).2) else (p ++ x.2, true)
theorem LP (axis kerf B e : Int) (x : Pt) (r : List Pt) : rowB axis kerf B e (x :: r) = if x.1.B < B then ((if x.1.A > e then [⟨axis, x.1.A - kerf⟩, ⟨0, 0⟩] else []) ++ ⟨axis, x.1.B⟩ :: x.2 ++ (rowB axis kerf B (imin (x.1.B + kerf) B) r).1, (rowB axis kerf B (imin (x.1.B + kerf) B) r).2) else ((if x.1.A > e then [⟨axis, x.1.A - kerf⟩, ⟨0, 0⟩] else []) ++ x.2, true) := rfl
def goodL (kerf B : Int) : Int → List Pt → Prop
 | _, [] => True
 | e, x :: r => x.1.A < x.1.B ∧ (x.1.A = e ∨ e + kerf + 1 ≤ x.1.A) ∧ x.1.B ≤ B ∧ (if x.1.B < B then goodL kerf B (imin (x.1.B + kerf) B) r else r = [])
theorem qEO {l nodes T : List Node} {c : Int} (hc : c = T.length) (hn : T.length ≤ 127 → nodes = T) (hb : T.length + l.length ≤ 1000000000) :
  ∃ nodes', jM l c nodes = some (((T ++ l).length : Int), nodes') ∧ ((T ++ l).length ≤ 127 → nodes' = T ++ l) := by
 unfold jM
 subst hc
 rw [qF (n := (T.length : Int) + ((l.length : Nat) : Int)) (by omega) (by omega), List.length_append]
 by_cases c : T.length + l.length ≤ 127
 ·have e := hn (by omega)
  subst e
  rw [decide_eq_true (by omega), zG (by omega) (by omega)]
  exact ⟨nodes ++ l, by simp, fun _ => rfl⟩
 ·rw [decide_eq_false (by omega)]
  exact ⟨nodes, by simp, fun h => absurd h c⟩
theorem qCd {axis kerf : Int} (hk : 0 ≤ kerf ∧ kerf ≤ 20) {s : Span} (hs : -600 ≤ s.A ∧ s.B ≤ 600) {L : List Pt} (hL : L.length ≤ 1000000) :
  ∀ (rest : List Pt) (i n : Nat) (e : Int) (nodes T : List Node), L.drop i = rest → i ≤ L.length → rest.length < n → -600 ≤ e → e ≤ 600 → goodL kerf s.B e rest → (T.length ≤ 127 → nodes = T) → T.length + ndC rest ≤ 1000000000 →
  ∃ nodes', wE axis kerf (L.map Prod.fst) (L.map Prod.snd) s n e false (i : Int) nodes (T.length : Int) = some (.inr ((rowB axis kerf s.B e rest).2, nodes', ((T ++ (rowB axis kerf s.B e rest).1).length : Int))) ∧ ((T ++ (rowB axis kerf s.B e rest).1).length ≤ 127 → nodes' = T ++ (rowB axis kerf s.B e rest).1)
 | [], i, n, e, nodes, T, hd, hi, hn, he1, he2, hg, hT, hb => by
  obtain ⟨n, rfl⟩ : ∃ m, n = m + 1 := ⟨n - 1, by omega⟩
  have hi' : i = L.length := by have := List.drop_eq_nil_iff.1 hd; omega
  refine ⟨nodes, ?_, fun h => ?_⟩
  ·rw [wE, List.length_map, decide_eq_false (by omega)]
   simp [rowB]
  ·simp [rowB] at h ⊢; exact hT h
 | x :: r, i, n, e, nodes, T, hd, hi, hn, he1, he2, hg, hT, hb => by
  obtain ⟨n, rfl⟩ : ∃ m, n = m + 1 := ⟨n - 1, by omega⟩
  have hi' : i < L.length := by
   by_cases c : i < L.length
   ·exact c
   ·rw [List.drop_eq_nil_of_le (by omega)] at hd; cases hd
  have hx : L.getD i default = x := by rw [GN L i hi'] at hd; exact (List.cons.inj hd).1
  have hr : L.drop (i + 1) = r := by rw [GN L i hi'] at hd; exact (List.cons.inj hd).2
  have hxa : (L.map Prod.fst).getD i default = x.1 := by rw [getD_map'' Prod.fst hi', hx]
  have hxb : (L.map Prod.snd).getD i default = x.2 := by rw [getD_map'' Prod.snd hi', hx]
  obtain ⟨g1, g2, g3, g4⟩ := hg
  have hc : ndC (x :: r) = 3 + x.2.length + ndC r := by simp [ndC]
  rw [hc] at hb
  rw [wE, List.length_map, decide_eq_true (by omega), qM (by omega) (by omega)]
  simp only [cond_true, cond_false, Int.toNat_natCast, hxa, KS]
  rw [decide_eq_false (show ¬ x.1.A ≥ x.1.B by omega), qF (n := e + kerf) (by omega) (by omega), qF (n := e + kerf + 1) (by omega) (by omega), decide_eq_false (show ¬ x.1.B > s.B by omega)]
  simp only [cond_false]
  have gA : ∀ {β : Type} (u v : β), (bif x.1.A != e then (bif decide (x.1.A < e + kerf + 1) then u else v) else (bif false then u else v)) = v := fun u v => by
   by_cases c : x.1.A = e
   ·rw [show (x.1.A != e) = false by rw [bne_eq_false_iff_eq]; exact c]; rfl
   ·rw [show (x.1.A != e) = true by rw [bne_iff_ne]; exact c, decide_eq_false (show ¬ x.1.A < e + kerf + 1 by omega)]; rfl
  simp only [cond_false] at gA
  rw [gA]
  -- behind the first nodes
  have key : ∀ (T2 nodes2 : List Node), (T2.length ≤ 127 → nodes2 = T2) → T2.length + 1 + x.2.length + ndC r ≤ 1000000000 → ∃ nodes', KP axis kerf (L.map Prod.fst) (L.map Prod.snd) s e false (i : Int) (wE axis kerf (L.map Prod.fst) (L.map Prod.snd) s n) nodes2 (T2.length : Int)
    = some (.inr ((if x.1.B < s.B then (rowB axis kerf s.B (imin (x.1.B + kerf) s.B) r).2 else true), nodes', ((T2 ++ (if x.1.B < s.B then (⟨axis, x.1.B⟩ :: x.2 ++ (rowB axis kerf s.B (imin (x.1.B + kerf) s.B) r).1) else x.2)).length : Int))) ∧ ((T2 ++ (if x.1.B < s.B then (⟨axis, x.1.B⟩ :: x.2 ++ (rowB axis kerf s.B (imin (x.1.B + kerf) s.B) r).1) else x.2)).length ≤ 127 → nodes' = T2 ++ (if x.1.B < s.B then (⟨axis, x.1.B⟩ :: x.2 ++ (rowB axis kerf s.B (imin (x.1.B + kerf) s.B) r).1) else x.2)) := by
   intro T2 nodes2 h2 hb2
   unfold KP DO
   simp only [Int.toNat_natCast, hxa, hxb, List.length_map, qQ (show i < 4611686018427387904 by omega)]
   rw [qM (show (0 : Int) ≤ (i : Int) by omega) (show (i : Int) < ((L.length : Nat) : Int) by omega)]
   simp only [cond_true]
   by_cases c : x.1.B < s.B
   ·rw [decide_eq_true c, if_pos c, if_pos c]
    rw [if_pos c] at g4
    simp only [cond_true]
    obtain ⟨m1, q1, q2⟩ := qEO (l := [(⟨axis, x.1.B⟩ : Node)]) (nodes := nodes2) (T := T2) rfl h2 (by simp; omega)
    rw [q1]
    simp only [Option.bind_some]
    obtain ⟨m2, r1, r2⟩ := qEO (l := x.2) (nodes := m1) (T := T2 ++ [(⟨axis, x.1.B⟩ : Node)]) rfl q2 (by simp; omega)
    rw [r1]
    simp only [Option.bind_some]
    have mi := wL (x.1.B + kerf) s.B
    rw [qF (n := x.1.B + kerf) (by omega) (by omega)]
    obtain ⟨m3, s1, s2⟩ := qCd hk hs hL r (i + 1) n (imin (x.1.B + kerf) s.B) m2 (T2 ++ [(⟨axis, x.1.B⟩ : Node)] ++ x.2) hr (by omega) (by simp at hn; omega) (by omega) (by omega) g4 r2 (by simp; omega)
    refine ⟨m3, ?_, ?_⟩
    ·rw [s1]; simp
    ·intro hh
     have : T2 ++ (⟨axis, x.1.B⟩ :: x.2 ++ (rowB axis kerf s.B (imin (x.1.B + kerf) s.B) r).1) = T2 ++ [(⟨axis, x.1.B⟩ : Node)] ++ x.2 ++ (rowB axis kerf s.B (imin (x.1.B + kerf) s.B) r).1 := by simp
     rw [this] at hh ⊢
     exact s2 hh
   ·rw [decide_eq_false c, if_neg c, if_neg c]
    rw [if_neg c] at g4
    subst g4
    simp only [cond_false]
    obtain ⟨m2, r1, r2⟩ := qEO (l := x.2) (nodes := nodes2) (T := T2) rfl h2 (by omega)
    rw [r1]
    simp only [Option.bind_some]
    obtain ⟨n, rfl⟩ : ∃ m, n = m + 1 := ⟨n - 1, by simp at hn; omega⟩
    have hi2 : i + 1 = L.length := by have := List.drop_eq_nil_iff.1 hr; omega
    refine ⟨m2, ?_, r2⟩
    rw [wE, List.length_map, decide_eq_false (by omega)]
    rfl
  by_cases c : x.1.A > e
  ·rw [decide_eq_true c, qF (n := x.1.A - kerf) (by omega) (by omega)]
   simp only [cond_true]
   obtain ⟨m1, q1, q2⟩ := qEO (l := [(⟨axis, x.1.A - kerf⟩ : Node), ⟨0, 0⟩]) (nodes := nodes) (T := T) rfl hT (by simp; omega)
   rw [q1]
   simp only [Option.bind_some]
   obtain ⟨m2, k1, k2⟩ := key (T ++ [(⟨axis, x.1.A - kerf⟩ : Node), ⟨0, 0⟩]) m1 q2 (by simp; omega)
   refine ⟨m2, ?_, ?_⟩
   ·rw [k1]
    rw [LP]
    simp only [if_pos c]
    split <;> simp
   ·intro hh
    rw [LP] at hh ⊢
    simp only [if_pos c] at hh ⊢
    by_cases c2 : x.1.B < s.B
    ·rw [if_pos c2] at k2
     simp only [if_pos c2] at hh ⊢
     rw [k2 (by simpa using hh)]; simp
    ·rw [if_neg c2] at k2
     simp only [if_neg c2] at hh ⊢
     rw [k2 (by simpa using hh)]; simp
  ·rw [decide_eq_false c]
   simp only [cond_false]
   obtain ⟨m2, k1, k2⟩ := key T nodes hT (by omega)
   refine ⟨m2, ?_, ?_⟩
   ·rw [k1]
    rw [LP]
    simp only [if_neg c]
    split <;> simp
   ·intro hh
    rw [LP] at hh ⊢
    simp only [if_neg c] at hh ⊢
    by_cases c2 : x.1.B < s.B
    ·rw [if_pos c2] at k2
     simp only [if_pos c2] at hh ⊢
     rw [k2 (by simpa using hh)]; simp
    ·rw [if_neg c2] at k2
     simp only [if_neg c2] at hh ⊢
     rw [k2 (by simpa using hh)]; simp
where
 getD_map'' {α β : Type} [Inhabited α] [Inhabited β] (f : α → β) {l : List α} {i : Nat} (h : i < l.length) : (l.map f).getD i default = f (l.getD i default) := by
  rw [List.getD_eq_getElem?_getD, List.getElem?_map, List.getD_eq_getElem?_getD, List.getElem?_eq_getElem h]; rfl
/-- All nodes of a row. -/
def rowN (axis kerf : Int) (s : Span) (L : List Pt) : List Node := (rowB axis kerf s.B s.A L).1 ++ (if (rowB axis kerf s.B s.A L).2 then [] else [⟨0, 0⟩])
def rowR (l : List Node) : List Node × Int := if l.length ≤ 127 then (l, 0) else ([], 4)
theorem qQt {r : Rect} (h : VR r) : XD r = some true := by
 unfold VR at h
 unfold XD
 rw [KD 2 (wJ r) (by omega) (fun n i hi => ?_) (fun n => ?_)]
 ·rfl
 ·rw [wJ, decide_eq_true (by omega), qM (by omega) (by omega)]
  simp only [cond_true, Int.toNat_natCast, WB, qQ (show i < 4611686018427387904 by omega)]
  match i, hi with
  | 0, _ => rw [decide_eq_false (show ¬ ([r.X.A, r.X.B, r.Y.A, r.Y.B] : List Int).getD (0 * 2 + 0) 0 < -600 from fun q => by have : r.X.A < -600 := q; omega), decide_eq_false (show ¬ ([r.X.A, r.X.B, r.Y.A, r.Y.B] : List Int).getD (0 * 2 + 1) 0 > 600 from fun q => by have : r.X.B > 600 := q; omega), decide_eq_false (show ¬ ([r.X.A, r.X.B, r.Y.A, r.Y.B] : List Int).getD (0 * 2 + 0) 0 ≥ ([r.X.A, r.X.B, r.Y.A, r.Y.B] : List Int).getD (0 * 2 + 1) 0 from fun q => by have : r.X.A ≥ r.X.B := q; omega)]; rfl
  | 1, _ => rw [decide_eq_false (show ¬ ([r.X.A, r.X.B, r.Y.A, r.Y.B] : List Int).getD (1 * 2 + 0) 0 < -600 from fun q => by have : r.Y.A < -600 := q; omega), decide_eq_false (show ¬ ([r.X.A, r.X.B, r.Y.A, r.Y.B] : List Int).getD (1 * 2 + 1) 0 > 600 from fun q => by have : r.Y.B > 600 := q; omega), decide_eq_false (show ¬ ([r.X.A, r.X.B, r.Y.A, r.Y.B] : List Int).getD (1 * 2 + 0) 0 ≥ ([r.X.A, r.X.B, r.Y.A, r.Y.B] : List Int).getD (1 * 2 + 1) 0 from fun q => by have : r.Y.A ≥ r.Y.B := q; omega)]; rfl
 ·rw [wJ, decide_eq_false (by omega)]; rfl
theorem qF9 (axis kerf B : Int) : ∀ (L : List Pt) (e : Int), (rowB axis kerf B e L).1.length ≤ ndC L
 | [], _ => by simp [rowB, ndC]
 | x :: r, e => by
  have ih := qF9 axis kerf B r (imin (x.1.B + kerf) B)
  have hc : ndC (x :: r) = 3 + x.2.length + ndC r := by simp [ndC]
  rw [hc]
  unfold rowB
  simp only
  split
  ·split <;> simp <;> omega
  ·split <;> simp <;> omega
def axS (r : Rect) (axis : Int) : Span := if axis = 2 then r.X else r.Y
theorem Row_eq {r : Rect} (hr : VR r) {axis kerf : Int} (ha : axis = 2 ∨ axis = 3) (hk : 0 ≤ kerf ∧ kerf ≤ 20) {L : List Pt} (hL : L.length ≤ 1000000) (hg : goodL kerf (axS r axis).B (axS r axis).A L) (hb : ndC L + 1 ≤ 1000000000) :
  BZ r axis kerf (L.map Prod.fst) (L.map Prod.snd) = some (rowR (rowN axis kerf (axS r axis) L)) := by
 have hs : -600 ≤ (axS r axis).A ∧ (axS r axis).B ≤ 600 ∧ (axS r axis).A < (axS r axis).B := by
  unfold VR at hr
  unfold axS
  split <;> omega
 have e1 : NO axis = some true := by rcases ha with rfl | rfl <;> rfl
 have e2 : NV r axis = some (axS r axis) := by rcases ha with rfl | rfl <;> rfl
 unfold BZ GP GU
 rw [e1, qQt hr, e2]
 simp only [Option.bind_some, Bool.not_true, cond_false, List.length_map, bne_self_eq_false]
 rw [decide_eq_false (show ¬ kerf < 0 by omega), decide_eq_false (show ¬ kerf > 20 by omega)]
 simp only [cond_false]
 obtain ⟨m, k1, k2⟩ := qCd (axis := axis) hk ⟨hs.1, hs.2.1⟩ hL L 0 FUEL (axS r axis).A [] [] (by simp) (by omega) (by rw [FUEL_eq]; omega) hs.1 (by omega) hg (fun _ => rfl) (by simp; omega)
 rw [show ((0 : Nat) : Int) = 0 from rfl] at k1
 rw [show (([] : List Node).length : Int) = 0 from rfl] at k1
 rw [k1]
 simp only [Option.bind_some, Sum.elim_inr, List.nil_append] at k2 ⊢
 unfold rowN
 have bl := qF9 axis kerf (axS r axis).B L (axS r axis).A
 generalize rowB axis kerf (axS r axis).B (axS r axis).A L = B at *
 obtain ⟨b1, b2⟩ := B
 simp only at k2 bl ⊢
 have fin : ∀ (T nodes : List Node), (T.length ≤ 127 → nodes = T) → PH (T.length : Int) nodes = some (rowR T) := fun T nodes h => by
  unfold PH rowR
  by_cases c : T.length ≤ 127
  ·rw [decide_eq_false (by omega), if_pos c, h c]; rfl
  ·rw [decide_eq_true (by omega), if_neg c]; rfl
 cases b2 with
 | true =>
  simp only [Bool.not_true, cond_false, if_true, List.append_nil]
  exact fin _ _ k2
 | false =>
  simp only [Bool.not_false, cond_true, Bool.false_eq_true, if_false]
  obtain ⟨m1, q1, q2⟩ := qEO (l := [(⟨0, 0⟩ : Node)]) (nodes := m) (T := b1) rfl k2 (by simp; omega)
  rw [q1]
  exact fin _ _ q2
theorem qGL {a : Line} (h : VL a) : ∀ (m p : Nat), (p : Int) ≤ a.Len → ∀ x ∈ walk a m p, ∃ i q : Nat, x = ⟨(i : Int), (q : Int)⟩ ∧ i < a.Sizes.length ∧ ¬ ((q : Int) + szAt a i > a.Len) ∧ ¬ gnAt a i q < 0
 | 0, _, _, x, hx => by cases hx
 | m + 1, p, hp, x, hx => by
  rw [walk] at hx
  cases hn : isNo (bst a p) with
  | true => rw [hn] at hx; cases hx
  | false =>
   obtain ⟨i, q, e, hi, hq, hg, hw⟩ := qBV h hp hn
   rw [hn, e] at hx
   simp only [cond_false, Int.toNat_natCast, List.mem_cons] at hx
   rcases hx with rfl | hx
   ·exact ⟨i, q, rfl, hi, hq, hg⟩
   ·have hpq : p ≤ q := by
     rcases hw with rfl | ⟨k, hk, rfl⟩
     ·exact Nat.le_refl _
     ·have := LG h p k; omega
    by_cases c : (endN a q i : Int) = a.Len
    ·rw [if_pos c] at hx; cases hx
    ·rw [if_neg c] at hx
     exact qGL h m _ (qCC h hi hq hpq c).2 x hx
theorem qGR (a : Line) : ∀ (m p : Nat), (walk a m p).length ≤ m
 | 0, _ => by simp [walk]
 | m + 1, p => by
  rw [walk]
  cases isNo (bst a p) with
  | true => simp
  | false =>
   simp only [cond_false, List.length_cons]
   split
   ·simp
   ·have := qGR a m (nxtN a (endN a (bst a p).piece.At.toNat (bst a p).piece.Size.toNat)); omega
theorem qN4 {kerf B e : Int} {x : Pt} {r : List Pt} (h1 : x.1.A < x.1.B) (h2 : x.1.A = e ∨ e + kerf + 1 ≤ x.1.A) (h3 : x.1.B ≤ B) (h4 : (x.1.B < B ∧ goodL kerf B (imin (x.1.B + kerf) B) r) ∨ (x.1.B = B ∧ r = [])) : goodL kerf B e (x :: r) := by
 unfold goodL
 refine ⟨h1, h2, h3, ?_⟩
 rcases h4 with ⟨a, b⟩ | ⟨a, b⟩
 ·rw [if_pos a]; exact b
 ·rw [if_neg (by omega)]; exact b
/-- The parts of a row that pieces of a line are. -/
def ptOf (a : Line) (A : Int) (g : Piece → List Node) (x : Piece) : Pt := (⟨A + x.At, A + (x.At + a.Sizes.getD x.Size.toNat default)⟩, g x)
theorem qEu {a : Line} (h : VL a) (A : Int) (g : Piece → List Node) : ∀ (m p : Nat), (p : Int) ≤ a.Len → goodL a.Kerf (A + a.Len) (A + p) ((walk a m p).map (ptOf a A g))
 | 0, _, _ => trivial
 | m + 1, p, hp => by
  rw [walk]
  cases hn : isNo (bst a p) with
  | true => exact trivial
  | false =>
   obtain ⟨i, q, e, hi, hq, hg, hw⟩ := qBV h hp hn
   have sz := h.sz i hi
   have pt := h.pitch
   have kf := h.kerf
   have hpq : q = p ∨ p + a.Kerf.toNat + 1 ≤ q := by
    rcases hw with rfl | ⟨k, hk, rfl⟩
    ·exact .inl rfl
    ·exact .inr (LG h p k)
   clear hw
   have en : (endN a q i : Int) = q + szAt a i := by unfold endN szAt; omega
   rw [e]
   simp only [cond_false, Int.toNat_natCast, List.map_cons]
   unfold szAt at en hq
   refine qN4 (show A + (q : Int) < A + ((q : Int) + a.Sizes.getD ((i : Int)).toNat default) by rw [Int.toNat_natCast]; omega) (show A + (q : Int) = A + p ∨ A + (p : Int) + a.Kerf + 1 ≤ A + q by omega) (show A + ((q : Int) + a.Sizes.getD ((i : Int)).toNat default) ≤ A + a.Len by rw [Int.toNat_natCast]; omega) ?_
   show (A + ((q : Int) + a.Sizes.getD ((i : Int)).toNat default) < A + a.Len ∧ goodL a.Kerf (A + a.Len) (imin (A + ((q : Int) + a.Sizes.getD ((i : Int)).toNat default) + a.Kerf) (A + a.Len)) _) ∨ (A + ((q : Int) + a.Sizes.getD ((i : Int)).toNat default) = A + a.Len ∧ _)
   rw [Int.toNat_natCast]
   by_cases c : (endN a q i : Int) = a.Len
   ·rw [if_pos c]; exact .inr ⟨by omega, rfl⟩
   ·rw [if_neg c]
    have ws := qCC h (p := p) hi (by unfold szAt; omega) (by omega) c
    have mm := wL ((endN a q i : Int) + a.Kerf) a.Len
    have en2 : (nxtN a (endN a q i) : Int) = imin ((endN a q i : Int) + a.Kerf) a.Len := by unfold nxtN; omega
    have m2 := wL (A + ((q : Int) + a.Sizes.getD i default) + a.Kerf) (A + a.Len)
    rw [show imin (A + ((q : Int) + a.Sizes.getD i default) + a.Kerf) (A + a.Len) = A + (nxtN a (endN a q i) : Int) by omega]
    exact .inl ⟨by omega, qEu h A g m _ ws.2⟩
theorem qIk (a : Line) (A : Int) (g : Piece → List Node) (M : Nat) : ∀ (l : List Piece), (∀ x ∈ l, (g x).length ≤ M) → ndC (l.map (ptOf a A g)) ≤ (3 + M) * l.length
 | [], _ => by simp [ndC]
 | x :: l, h => by
  have := qIk a A g M l (fun y hy => h y (by simp [hy]))
  have hx := h x (by simp)
  unfold ndC at *
  simp only [List.map_cons, List.sum_cons, List.length_cons, ptOf] at *
  rw [Nat.mul_succ]; omega
/-! ### The strip -/
def bdN (ps : List qC) (z : Int) (x : Piece) : List Node := [⟨1, (sizes ps z).2.getD x.Size.toNat default⟩]
def QZ (ps : List qC) (r : Rect) (a : Line) : List Pt := (wX a).map (ptOf a r.X.A (bdN ps (r.Y.B - r.Y.A)))
/-- What the best of a strip with a good line is. -/
def qLk (ps : List qC) (r : Rect) (a : Line) : List Node × Int × Int := if (rowN 2 a.Kerf r.X (QZ ps r a)).length ≤ 127 then (rowN 2 a.Kerf r.X (QZ ps r a), (bst a 0).value, 0) else ([], 0, 4)
open Classical in
noncomputable def qDW (l : List Slice) (ds : List Defect) (ps : List qC) (r : Rect) (w : Saw) (t : Rates) : List Node × Int × Int := if chkE l ds ps r w t = 0 then qLk ps r (wW l ds ps r w t) else ([], 0, chkE l ds ps r w t)
theorem qOd {l : List Node} (h : l.length ≤ 1000000) : WA l = some l := by
 unfold WA
 rw [zG h (by omega)]; rfl
theorem qHX {ps : List qC} (z : Int) : (sizes ps z).2.length = (sizes ps z).1.length := by
 unfold sizes
 split
 ·rfl
 ·have : ∀ k, (foldN (sizStep ps z) 0 k ([], [])).2.length = (foldN (sizStep ps z) 0 k ([], [])).1.length := by
   intro k
   induction k with
   | zero => rfl
   | succ k ih =>
    rw [yM]
    generalize foldN (sizStep ps z) 0 k ([], []) = s at *
    unfold sizStep
    cases (zA (ps.getD (0 + k) default)).1 == z <;> cases (zA (ps.getD (0 + k) default)).2 == z <;> simp [ih]
  exact this _
theorem qNi (l : List Slice) (ds : List Defect) (ps : List qC) (r : Rect) (w : Saw) (t : Rates) : AY l ds ps r w t = some (qDW l ds ps r w t) := by
 unfold AY qDW
 rw [Line_eq]
 unfold qFn
 by_cases c : chkE l ds ps r w t = 0
 ·have h := qB2.1 c
  have hr := h.vr
  have hr' := hr
  unfold VR at hr'
  have vl := qL3 h
  rw [if_pos c, if_pos c]
  have sl := AD ps (r.Y.B - r.Y.A)
  have sl2 := qHX (ps := ps) (r.Y.B - r.Y.A)
  have kf := vl.kerf
  have hsz : (wW l ds ps r w t).Sizes = (sizes ps (r.Y.B - r.Y.A)).1 := rfl
  have hlen : (wW l ds ps r w t).Len = r.X.B - r.X.A := rfl
  simp only [Option.bind_some, bne_self_eq_false, cond_false]
  rw [show (Line.mk (wW l ds ps r w t).Len (wW l ds ps r w t).Kerf (wW l ds ps r w t).Pitch (wW l ds ps r w t).Sizes (wW l ds ps r w t).Gain (wW l ds ps r w t).Chip (wW l ds ps r w t).Dust) = wW l ds ps r w t from rfl, qNY vl]
  simp only [Option.bind_some, bne_self_eq_false, cond_false]
  rw [qF (n := r.Y.B - r.Y.A) (by omega) (by omega), (qDy ps _).1]
  simp only [Option.bind_some]
  generalize ha : wW l ds ps r w t = a at *
  have ek : w.Kerf = a.Kerf := by rw [← ha]; rfl
  have bl : (wX a).length ≤ 3000 := qGR a 3000 0
  have bm := qGL vl 3000 0 (by have := vl.len; omega)
  have k := zE (wX a).length (fun n (s : List Span × List (List Node)) x => KY r (wX a, (bst a 0).value, 0) (sizes ps (r.Y.B - r.Y.A)) n s.1 s.2 x)
   (fun j s => (s.1 ++ [(ptOf a r.X.A (bdN ps (r.Y.B - r.Y.A)) ((wX a).getD j default)).1], s.2 ++ [(ptOf a r.X.A (bdN ps (r.Y.B - r.Y.A)) ((wX a).getD j default)).2])) (fun s => s)
   (fun j s => s.1 = ((wX a).take j).map (fun x => (ptOf a r.X.A (bdN ps (r.Y.B - r.Y.A)) x).1) ∧ s.2 = ((wX a).take j).map (fun x => (ptOf a r.X.A (bdN ps (r.Y.B - r.Y.A)) x).2)) 0 (by omega) (by omega)
   (fun n j s hj hs => by
    obtain ⟨s1, s2⟩ := s
    obtain ⟨e1, e2⟩ := hs
    simp only at e1 e2
    have tk : (wX a).take (j + 1) = (wX a).take j ++ [(wX a).getD j default] := by rw [List.take_add_one, List.getD_eq_getElem?_getD, List.getElem?_eq_getElem hj]; rfl
    refine ⟨?_, by simp only [e1, tk, List.map_append]; rfl, by simp only [e2, tk, List.map_append]; rfl⟩
    obtain ⟨i, q, ex, hi, hq, hg⟩ := bm _ (JM hj)
    have sz := vl.sz i hi
    rw [hsz] at sz hi
    have hq' : (q : Int) + (sizes ps (r.Y.B - r.Y.A)).1.getD i default ≤ r.X.B - r.X.A := by
     unfold szAt at hq; rw [hsz, hlen] at hq; omega
    simp only
    rw [KY]
    simp only [Int.toNat_natCast, show (wX a).getD j default = ⟨(i : Int), (q : Int)⟩ from ex]
    rw [decide_eq_true (by omega), qM (by omega) (by omega), qM (by omega) (by omega), qM (by omega) (by omega), qF (n := (q : Int) + _) (by omega) (by omega), qIO hr (by omega) (by omega), zG (by rw [e1]; simp; omega) (by omega)]
    simp only [cond_true, Option.bind_some, UP, qQ (show j < 4611686018427387904 by omega)]
    rw [qOd (by simp)]
    simp only [Option.bind_some]
    rw [zG (by rw [e2]; simp; omega) (by omega)]
    simp only [cond_true, Option.bind_some, ptOf, bdN, Int.toNat_natCast, UR, hsz])
   (fun n s _ => by rw [KY]; simp only; rw [decide_eq_false (by omega)]; rfl) ([], []) ⟨rfl, rfl⟩
  rw [show ((0 : Nat) : Int) = 0 from rfl, Nat.sub_zero] at k
  rw [k.1]
  obtain ⟨k2, k3⟩ := k.2
  rw [List.take_length] at k2 k3
  simp only [Option.bind_some]
  rw [k2, k3, show (wX a).map (fun x => (ptOf a r.X.A (bdN ps (r.Y.B - r.Y.A)) x).1) = (QZ ps r a).map Prod.fst by unfold QZ; rw [List.map_map]; rfl, show (wX a).map (fun x => (ptOf a r.X.A (bdN ps (r.Y.B - r.Y.A)) x).2) = (QZ ps r a).map Prod.snd by unfold QZ; rw [List.map_map]; rfl, ek]
  have gd := qEu vl r.X.A (bdN ps (r.Y.B - r.Y.A)) 3000 0 (by have := vl.len; omega)
  have nc := qIk a r.X.A (bdN ps (r.Y.B - r.Y.A)) 1 (wX a) (fun x _ => by simp [bdN])
  rw [hlen, show r.X.A + (r.X.B - r.X.A) = r.X.B by omega, show r.X.A + ((0 : Nat) : Int) = r.X.A by omega] at gd
  replace gd : goodL a.Kerf (axS r 2).B (axS r 2).A (QZ ps r a) := gd
  rw [Row_eq hr (.inl rfl) kf (by unfold QZ; simp; omega) gd (by unfold QZ; omega)]
  unfold qLk rowR
  rw [show axS r 2 = r.X from rfl]
  simp only [Option.bind_some]
  split
  ·rfl
  ·rfl
 ·rw [if_neg c, if_neg c]
  simp only [Option.bind_some]
  rw [show (chkE l ds ps r w t != 0) = true by rw [bne_iff_ne]; exact c]; rfl
theorem qMs {a : Line} (h : VL a) {j : Nat} (hj : (j : Int) ≤ a.Len) : BV a j (bst a j).value ∧ BV a j (stt a j).value := by
 have ln := h.len
 obtain ⟨s, e, t⟩ := IL h (a.Len.toNat + 1) 0 FUEL (List.replicate (a.Len.toNat + 1) ⟨⟨0, 0⟩, 0⟩, List.replicate (a.Len.toNat + 1) ⟨⟨0, 0⟩, 0⟩) (by omega) (by rw [FUEL_eq]; omega) (TI0 h)
 exact t.b1 j (by omega) hj
theorem qHJ {c : List Int} (hl : c.length ≤ 2000) (h : ∀ j, j < c.length → okN (c.getD j default)) : KZ c = some (sums c) := by
 unfold KZ
 have k := zE c.length (fun n (s : List Int) i => WO c n s i) (fun i s => s ++ [pre c (i + 1)]) (fun s => s) (fun i s => s = (List.range (i + 1)).map (pre c)) 0 (by omega) (by omega)
  (fun n i s hi hs => by
   have q := HH h (k := i + 1) (by omega)
   rw [SR] at q
   refine ⟨?_, by rw [hs, List.range_succ (n := i + 1), List.map_append]; rfl⟩
   have sl : s.length = i + 1 := by rw [hs]; simp
   rw [WO, decide_eq_true (by omega), qM (by omega) (by omega), qM (by omega) (by omega), zG (by omega) (by omega), qQ (by omega)]
   simp only [cond_true, Int.toNat_natCast]
   rw [show s.getD i default = pre c i by rw [hs]; exact ZY _ (by omega), qF (by omega) (by omega), SR])
  (fun n s _ => by rw [WO, decide_eq_false (by omega)]; rfl) [0] rfl
 rw [show ((0 : Nat) : Int) = 0 from rfl, Nat.sub_zero] at k
 rw [k.1, k.2]; rfl
theorem qEp {c : List Int} (hl : c.length ≤ 1000000) (h : ∀ j, j < c.length → okN (c.getD j default)) : KI c = some true := by
 unfold KI
 rw [KD c.length (yZ c) (by omega) (fun n i hi => ?_) (fun n => ?_)]
 ·rfl
 ·have o := h i hi
  unfold okN at o
  rw [yZ, decide_eq_true (by omega), qM (by omega) (by omega)]
  simp only [cond_true, Int.toNat_natCast, GX, qQ (show i < 4611686018427387904 by omega)]
  rw [decide_eq_false (show ¬ c.getD i default < -1125899906842624 by omega), decide_eq_false (show ¬ c.getD i default > 1125899906842624 by omega)]; rfl
 ·rw [yZ, decide_eq_false (by omega)]; rfl
theorem qOK {a : Line} (h : VL a) : BR a = some 0 := by
 have h1 := h.len
 have h2 := h.kerf
 have h3 := h.pitch
 have h4 := h.szl
 have h5 := h.gl
 have h6 := h.cl
 have h7 := h.dl
 unfold BR yR PC DB
 rw [decide_eq_false (show ¬ a.Len < 0 by omega), decide_eq_false (show ¬ a.Len > 2000 by omega), decide_eq_false (show ¬ a.Kerf < 0 by omega), decide_eq_false (show ¬ a.Kerf > 20 by omega), decide_eq_false (show ¬ a.Pitch < 1 by omega), decide_eq_false (show ¬ a.Pitch > 2000 by omega), decide_eq_false (show ¬ ((a.Sizes.length : Nat) : Int) > 32 by omega)]
 simp only [cond_false]
 rw [KD a.Sizes.length (yY a) (by omega) (fun n i hi => ?_) (fun n => ?_)]
 ·simp only [Option.bind_some, Sum.elim_inr]
  rw [show (((a.Gain.length : Nat) : Int) != ((a.Sizes.length : Nat) : Int)) = false by rw [bne_eq_false_iff_eq]; omega, show (((a.Chip.length : Nat) : Int) != a.Len) = false by rw [bne_eq_false_iff_eq]; omega, show (((a.Dust.length : Nat) : Int) != a.Len) = false by rw [bne_eq_false_iff_eq]; omega]
  simp only [cond_false]
  rw [KD a.Gain.length (JP a) (by omega) (fun n i hi => ?_) (fun n => ?_), qEp (by omega) h.cb, qEp (by omega) h.db]
  ·simp only [Option.bind_some, Sum.elim_inr, cond_true]
   have k := zE a.Gain.length (fun n (s : Bool) i => yT a n s i) (fun _ s => s) (fun s => s) (fun _ s => s = true) 0 (by omega) (by omega)
    (fun n i s hi hs => by
     refine ⟨?_, hs⟩
     have := h.sz i (by omega)
     rw [yT, decide_eq_true (by omega), qM (by omega) (by omega), hs, Int.toNat_natCast, qEp (by rw [h.gr i (by omega)]; omega) (h.gb i (by omega))]
     simp only [cond_true, Option.bind_some, DN, qQ (show i < 4611686018427387904 by omega)])
    (fun n s _ => by rw [yT, decide_eq_false (by omega)]; rfl) true rfl
   rw [show ((0 : Nat) : Int) = 0 from rfl, Nat.sub_zero] at k
   rw [k.1, k.2]; rfl
  ·have s := h.sz i (by omega)
   have g := h.gr i (by omega)
   rw [JP, decide_eq_true (by omega), qM (by omega) (by omega), qM (by omega) (by omega)]
   simp only [cond_true, Int.toNat_natCast, qQ (show i < 4611686018427387904 by omega)]
   rw [qF (n := a.Len - a.Sizes.getD i default) (by omega) (by omega), qF (by omega) (by omega), g]
   have m := ZB 0 (a.Len - a.Sizes.getD i default + 1)
   rw [show ((((a.Len - a.Sizes.getD i default + 1).toNat : Nat) : Int) != imax 0 (a.Len - a.Sizes.getD i default + 1)) = false by rw [bne_eq_false_iff_eq]; omega]
   rfl
  ·rw [JP, decide_eq_false (by omega)]; rfl
 ·have := h.sz i hi
  rw [yY, decide_eq_true (by omega), qM (by omega) (by omega)]
  simp only [cond_true, Int.toNat_natCast, DP, qQ (show i < 4611686018427387904 by omega)]
  rw [decide_eq_false (show ¬ a.Sizes.getD i default < 1 by omega), decide_eq_false (show ¬ a.Sizes.getD i default > 2000 by omega)]
  rfl
 ·rw [yY, decide_eq_false (by omega)]; rfl
/-! ### Steps -/
abbrev Sp := Ref17_step
def stp (c : Ch) : Sp := ⟨c.value, if isNo c then ⟨-1, 0⟩ else c.piece⟩
def inn (paid : Int) (o : Sp) (s : Ch) : Sp := bif !isNo s && decide (s.value + paid > o.value) then ⟨s.value + paid, s.piece⟩ else o
def qCV (a : Line) (best : Nat → Ch) (q : Nat) (paid : Int) (i : Nat) (o : Sp) : Sp :=
 if (q : Int) + szAt a i > a.Len ∨ gnAt a i q < 0 then o else if paid + candV a best q i > o.value then ⟨paid + candV a best q i, ⟨(i : Int), (q : Int)⟩⟩ else o
theorem qQs (a : Line) (best : Nat → Ch) (q : Nat) (paid : Int) (i : Nat) (o : Sp) (c : Ch) : inn paid o (JL a best q i c) = qCV a best q paid i (inn paid o c) := by
 unfold JL qCV
 by_cases c1 : (q : Int) + szAt a i > a.Len ∨ gnAt a i q < 0
 ·rw [if_pos c1, if_pos c1]
 rw [if_neg c1, if_neg c1]
 generalize candV a best q i = v
 have e1 : ∀ z, inn paid o ⟨⟨(i : Int), (q : Int)⟩, z⟩ = if z + paid > o.value then ⟨z + paid, ⟨(i : Int), (q : Int)⟩⟩ else o := fun z => by
  unfold inn
  rw [isNo_mk]
  by_cases h : z + paid > o.value
  ·rw [decide_eq_true (show (Cutting_choice.mk ⟨(i : Int), (q : Int)⟩ z).value + paid > o.value from h), if_pos h]; rfl
  ·rw [decide_eq_false (show ¬ (Cutting_choice.mk ⟨(i : Int), (q : Int)⟩ z).value + paid > o.value from h), if_neg h]; rfl
 rw [show paid + v = v + paid by omega]
 cases hn : isNo c with
 | true =>
  have e2 : inn paid o c = o := by unfold inn; rw [hn]; rfl
  rw [e2]
  simp only [Bool.true_or, cond_true]
  rw [e1]
 | false =>
  by_cases h2 : c.value + paid > o.value
  ·have e2 : inn paid o c = ⟨c.value + paid, c.piece⟩ := by unfold inn; rw [hn, decide_eq_true h2]; rfl
   rw [e2]
   by_cases h3 : v > c.value
   ·rw [decide_eq_true h3]
    simp only [Bool.or_true, cond_true]
    rw [e1, if_pos (by omega), if_pos (by omega)]
   ·rw [decide_eq_false h3]
    simp only [Bool.or_false, cond_false]
    rw [e2, if_neg (by omega)]
  ·have e2 : inn paid o c = o := by unfold inn; rw [hn, decide_eq_false h2]; rfl
   rw [e2]
   by_cases h3 : v > c.value
   ·rw [decide_eq_true h3]
    simp only [Bool.or_true, cond_true]
    rw [e1]
   ·rw [decide_eq_false h3]
    simp only [Bool.or_false, cond_false]
    rw [e2, if_neg (by omega)]
theorem qMV (a : Line) (best : Nat → Ch) (q : Nat) (paid : Int) (o : Sp) : ∀ k, foldN (qCV a best q paid) 0 k o = inn paid o (foldN (JL a best q) 0 k (noCh 0))
 | 0 => rfl
 | k + 1 => by rw [yM, yM, qMV a best q paid o k, qQs]
/-! ### The reference's functions -/
theorem qPD {a : Line} (h : VL a) {i q : Nat} (hi : i < a.Sizes.length) (hq : ¬ ((q : Int) + szAt a i > a.Len)) {l : List Sp} (hl : (l.length : Int) = a.Len + 1) (he : ∀ x : Nat, q < x → (x : Int) ≤ a.Len → l.getD x default = stp (bst a x)) : NI a ⟨(i : Int), (q : Int)⟩ (sums a.Dust) l = some (candV a (bst a) q i) := by
 have ln := h.len
 have kf := h.kerf
 have sz := h.sz i hi
 have gl := h.gl
 have dl := h.dl
 have gr := h.gr i hi
 have e : (endN a q i : Int) = q + a.Sizes.getD i default := by unfold endN szAt; omega
 have cb := qIe h hi (show (q : Int) + szAt a i ≤ a.Len by omega) (fun x h1 h2 => (qMs h h2).1)
 have hq' : (q : Int) + a.Sizes.getD i default ≤ a.Len := by unfold szAt at hq; omega
 unfold NI
 simp only [Int.toNat_natCast]
 rw [qM (by omega) (by omega), qM (by omega) (by omega), qM (by omega) (by omega)]
 simp only [cond_true, qF (n := (q : Int) + a.Sizes.getD i default) (by omega) (by omega)]
 rw [← e]
 have gb := h.gb i hi q (by omega)
 unfold okN at gb
 by_cases c3 : (endN a q i : Int) = a.Len
 ·rw [show ((endN a q i : Int) == a.Len) = true by rw [beq_iff_eq]; exact c3]
  unfold candV
  rw [if_pos c3]
  simp [gnAt]
 ·have nb := nxt_b h hi hq c3
  have m := wL ((endN a q i : Int) + a.Kerf) a.Len
  have en : imin ((endN a q i : Int) + a.Kerf) a.Len = (nxtN a (endN a q i) : Int) := by unfold nxtN; omega
  rw [show ((endN a q i : Int) == a.Len) = false by rw [beq_eq_false_iff_ne]; exact c3]
  simp only [cond_false, qF (n := (endN a q i : Int) + a.Kerf) (by omega) (by omega), en, KF]
  rw [qM (by omega) (by omega), qM (by omega) (by omega), qM (by omega) (by omega)]
  simp only [cond_true, Int.toNat_natCast, QY (c := a.Dust) (show nxtN a (endN a q i) ≤ a.Dust.length by omega), QY (c := a.Dust) (show endN a q i ≤ a.Dust.length by omega), he _ nb.1 nb.2.1, stp]
  have p1 := HH h.db (k := nxtN a (endN a q i)) (by omega)
  have p2 := HH h.db (k := endN a q i) (by omega)
  have b1 := (qMs h nb.2.1).1
  unfold BV at b1 cb
  unfold candV at cb ⊢
  rw [if_neg c3] at cb ⊢
  unfold gnAt at cb ⊢
  have pd := YH h.db (i := endN a q i) (k := nxtN a (endN a q i) - endN a q i) (by omega)
  rw [show endN a q i + (nxtN a (endN a q i) - endN a q i) = nxtN a (endN a q i) by omega] at pd
  rw [qF (n := (a.Gain.getD i default).getD q default + _) (by omega) (by omega), qF (n := (a.Gain.getD i default).getD q default + _ - _) (by omega) (by omega), qF (by omega) (by omega)]
  congr 1
  omega
theorem qG3 {a : Line} (h : VL a) {q : Nat} (hq : (q : Int) ≤ a.Len) {l : List Sp} (hl : (l.length : Int) = a.Len + 1) (he : ∀ x : Nat, q < x → (x : Int) ≤ a.Len → l.getD x default = stp (bst a x)) {paid : Int} (hp : -9000000000000000000 ≤ paid - 2251799813685248 * (a.Len - q) ∧ paid + 2251799813685248 * (a.Len - q) ≤ 9000000000000000000) (o : Sp) :
  jP a (sums a.Dust) l (q : Int) paid FUEL 0 o = some (inn paid o (stt a q)) := by
 have szl := h.szl
 have ln := h.len
 have gl := h.gl
 have k := zE a.Sizes.length (fun n (o : Sp) i => jP a (sums a.Dust) l (q : Int) paid n i o) (qCV a (bst a) q paid) (fun o => o) (fun _ _ => True) 0 (by omega) (by omega)
  (fun n i o hi _ => ⟨by
   have sz := h.sz i hi
   have gr := h.gr i hi
   rw [jP, decide_eq_true (by omega), qM (by omega) (by omega)]
   simp only [cond_true, Int.toNat_natCast, FB, TM, qQ (show i < 4611686018427387904 by omega), qF (n := a.Len - a.Sizes.getD i default) (by omega) (by omega)]
   unfold qCV
   by_cases c1 : (q : Int) > a.Len - a.Sizes.getD i default
   ·rw [decide_eq_true c1, if_pos (.inl (by unfold szAt; omega))]; rfl
   rw [decide_eq_false c1, qM (by omega) (by omega), qM (by omega) (by omega)]
   simp only [cond_true, cond_false]
   by_cases c2 : (a.Gain.getD i default).getD q default < 0
   ·rw [decide_eq_true c2, if_pos (.inr c2)]; rfl
   rw [decide_eq_false c2, if_neg (by unfold szAt gnAt; omega), qPD h hi (by unfold szAt; omega) hl he]
   simp only [cond_false, Option.bind_some]
   have cb := qIe h hi (show (q : Int) + szAt a i ≤ a.Len by unfold szAt; omega) (fun x h1 h2 => (qMs h h2).1)
   unfold BV at cb
   rw [qF (n := paid + candV a (bst a) q i) (by omega) (by omega)]
   by_cases c3 : paid + candV a (bst a) q i > o.value
   ·rw [decide_eq_true c3, if_pos c3]; rfl
   ·rw [decide_eq_false c3, if_neg c3]; rfl, trivial⟩)
  (fun n o _ => by rw [jP, decide_eq_false (by omega)]; rfl) o trivial
 rw [show ((0 : Nat) : Int) = 0 from rfl, Nat.sub_zero] at k
 rw [k.1, qMV, qOP h hq]
 rfl
theorem qOa (p : Piece) (v w : Int) : isNo ⟨p, v⟩ = isNo ⟨p, w⟩ := rfl
theorem qPL (a : Line) (st : Nat → Ch) (p x : Nat) (c : Ch) : inn (restV a p x) (stp c) (st x) = stp (WU a st p x c) := by
 rw [qEU]
 unfold inn
 rw [show (stp c).value = c.value from rfl]
 cases hn : isNo (st x) with
 | true => rfl
 | false =>
  cases decide ((st x).value + restV a p x > c.value) with
  | false => rfl
  | true =>
   simp only [Bool.not_false, Bool.and_self, cond_true]
   unfold stp
   rw [qOa _ _ (st x).value, show (⟨(st x).piece, (st x).value⟩ : Ch) = st x from rfl, hn]; rfl
theorem qPf (a : Line) (st : Nat → Ch) (p : Nat) : inn 0 (stp (noCh (pre a.Chip a.Len.toNat - pre a.Chip p))) (st p) = stp (CX a st p) := by
 unfold inn CX
 rw [show (stp (noCh (pre a.Chip a.Len.toNat - pre a.Chip p))).value = pre a.Chip a.Len.toNat - pre a.Chip p from rfl, Int.add_zero]
 cases hn : isNo (st p) with
 | true => rfl
 | false =>
  cases decide ((st p).value > pre a.Chip a.Len.toNat - pre a.Chip p) with
  | false => rfl
  | true =>
   simp only [Bool.not_false, Bool.and_self, cond_true]
   unfold stp
   rw [hn]; rfl
theorem from_eq {a : Line} (h : VL a) {p : Nat} (hp : (p : Int) ≤ a.Len) {l : List Sp} (hl : (l.length : Int) = a.Len + 1) (he : ∀ x : Nat, p < x → (x : Int) ≤ a.Len → l.getD x default = stp (bst a x)) :
  MF a (p : Int) (sums a.Chip) (sums a.Dust) l = some (stp (bst a p)) := by
 have ln := h.len
 have kf := h.kerf
 have pt := h.pitch
 have cl := h.cl
 have dl := h.dl
 have cr := qEr h hp
 unfold BV at cr
 unfold MF
 simp only [KF, Int.toNat_natCast]
 rw [qM (by omega) (by omega), qM (by omega) (by omega), QY (c := a.Chip) (by omega), QY (c := a.Chip) (by omega), qF (by omega) (by omega)]
 simp only [cond_true]
 have wst : ∀ k : Nat, ((((k + 1) * a.Pitch.toNat : Nat)) : Int) = ((k * a.Pitch.toNat : Nat) : Int) + a.Pitch := fun k => by rw [Nat.succ_mul]; omega
 -- the places behind the edge
 have key : ∀ (d k n : Nat) (c : Ch), k + d = jV a p → d < n → jO a (p : Int) (sums a.Chip) (sums a.Dust) l n (((k + 1) * a.Pitch.toNat : Nat) : Int) (stp c) = some (stp (foldN (fun k c => WU a (stt a) p (placeN a p k) c) k d c)) := by
  intro d
  induction d with
  | zero =>
   intro k n c hk hn
   obtain ⟨n, rfl⟩ : ∃ m, n = m + 1 := ⟨n - 1, by omega⟩
   have hx : ¬ ((placeN a p k : Nat) : Int) ≤ a.Len := fun q => by have := (VG h).2 q; omega
   unfold placeN at hx
   have pos : 1 ≤ (k + 1) * a.Pitch.toNat := Nat.mul_pos (by omega) (by omega)
   have kb : (k : Int) ≤ 2000 := by
    have : jV a p ≤ a.Len.toNat := by unfold jV; exact Nat.le_trans (Nat.div_le_self _ _) (by omega)
    omega
   have wb : (k + 1) * a.Pitch.toNat ≤ 2001 * 2000 := Nat.mul_le_mul (by omega) (by omega)
   rw [jO, qF (n := (p : Int) + _) (by omega) (by omega), qF (by omega) (by omega), decide_eq_true (show ((((k + 1) * a.Pitch.toNat : Nat)) : Int) > 0 by omega), decide_eq_true (show (p : Int) + (((k + 1) * a.Pitch.toNat : Nat) : Int) + a.Kerf > a.Len by omega)]
   cases decide ((p : Int) + (((k + 1) * a.Pitch.toNat : Nat) : Int) ≤ a.Len) <;> rfl
  | succ d ih =>
   intro k n c hk hn
   obtain ⟨n, rfl⟩ : ∃ m, n = m + 1 := ⟨n - 1, by omega⟩
   have hx := (VG h (k := k)).1 (show k < jV a p by omega)
   have lo := LG h p k
   have pe : placeN a p k = p + a.Kerf.toNat + (k + 1) * a.Pitch.toNat := rfl
   have pos : 1 ≤ (k + 1) * a.Pitch.toNat := Nat.mul_pos (by omega) (by omega)
   have ex : (p : Int) + (((k + 1) * a.Pitch.toNat : Nat) : Int) = ((placeN a p k - a.Kerf.toNat : Nat) : Int) := by omega
   have ex2 : ((placeN a p k - a.Kerf.toNat : Nat) : Int) + a.Kerf = (placeN a p k : Int) := by omega
   have nx := wst (k + 1)
   rw [jO, qF (n := (p : Int) + _) (by omega) (by omega), ex, qF (n := ((placeN a p k - a.Kerf.toNat : Nat) : Int) + a.Kerf) (by omega) (by omega), ex2, decide_eq_true (by omega), decide_eq_true (show ((((k + 1) * a.Pitch.toNat : Nat)) : Int) > 0 by omega), decide_eq_false (by omega)]
   simp only [KF, Int.toNat_natCast, cond_true, cond_false, RV]
   generalize hxe : placeN a p k = x at *
   rw [qM (by omega) (by omega), qM (by omega) (by omega), qM (by omega) (by omega), qM (by omega) (by omega), QY (c := a.Chip) (by omega), QY (c := a.Chip) (by omega), QY (c := a.Dust) (by omega), QY (c := a.Dust) (by omega)]
   have p1 := YH h.cb (i := p) (k := x - a.Kerf.toNat - p) (by omega)
   rw [show p + (x - a.Kerf.toNat - p) = x - a.Kerf.toNat by omega] at p1
   have p2 := YH h.db (i := x - a.Kerf.toNat) (k := a.Kerf.toNat) (by omega)
   rw [show x - a.Kerf.toNat + a.Kerf.toNat = x by omega] at p2
   have b3 := HH h.db (k := x) (by omega)
   have rv : pre a.Chip (x - a.Kerf.toNat) - pre a.Chip p + pre a.Dust x - pre a.Dust (x - a.Kerf.toNat) = restV a p x := rfl
   simp only [cond_true, qF (n := pre a.Chip (x - a.Kerf.toNat) - pre a.Chip p) (by omega) (by omega), qF (n := pre a.Chip (x - a.Kerf.toNat) - pre a.Chip p + pre a.Dust x) (by omega) (by omega), qF (n := pre a.Chip (x - a.Kerf.toNat) - pre a.Chip p + pre a.Dust x - pre a.Dust (x - a.Kerf.toNat)) (by omega) (by omega)]
   rw [rv, qG3 h hx hl (fun y h1 h2 => he y (by omega) h2) (by rw [← rv]; omega)]
   simp only [Option.bind_some]
   rw [qPL, qF (by omega) (by omega), ← nx, ih (k + 1) n _ (by omega) (by omega)]
   have pf : foldN (fun k c => WU a (stt a) p (placeN a p k) c) k (d + 1) c = foldN (fun k c => WU a (stt a) p (placeN a p k) c) (k + 1) d (WU a (stt a) p (placeN a p k) c) := rfl
   rw [pf, hxe]
 -- the edge itself
 obtain ⟨f, hf⟩ : ∃ f, FUEL = f + 1 := ⟨FUEL - 1, by rw [FUEL_eq]⟩
 have st0 : jO a (p : Int) (sums a.Chip) (sums a.Dust) l FUEL 0 (stp (noCh (pre a.Chip a.Len.toNat - pre a.Chip p))) = some (stp (bst a p)) := by
  conv => lhs; rw [hf]
  rw [jO, Int.add_zero, qF (n := (p : Int)) (by omega) (by omega), decide_eq_true hp, show decide ((0 : Int) > 0) = false from rfl]
  simp only [cond_true, cond_false, RV]
  rw [qG3 h hp hl he (by omega), qPf]
  simp only [Option.bind_some]
  have k0 := key (jV a p) 0 f (CX a (stt a) p) (by omega) (by
   have : jV a p ≤ a.Len.toNat := by unfold jV; exact Nat.le_trans (Nat.div_le_self _ _) (by omega)
   have := FUEL_eq
   omega)
  rw [show (((0 + 1) * a.Pitch.toNat : Nat) : Int) = a.Pitch by simp; omega] at k0
  rw [Int.zero_add, qF (n := a.Pitch) (by omega) (by omega), k0, qPe h hp]
  rfl
 rw [show (Ref17_step.mk (pre a.Chip a.Len.toNat - pre a.Chip p) ⟨-1, 0⟩) = stp (noCh (pre a.Chip a.Len.toNat - pre a.Chip p)) from rfl, st0]
 rfl
end Saw
end Go.SL
