/- Yields: the law's limits; the rates. -/
import Derived.Test.YtjobdnkaonbgnaaEMa5
import Derived.Test.YtjobdnkaonbgnaaEMod
import Derived.Test.YtjobdnkaonbgnaaEMa1
import Derived.Test.YtjobdnkaonbgnaaEMa3
set_option linter.unusedVariables false
set_option linter.unusedSimpArgs false
namespace Go.SL.Saw
theorem qA3 {σ β : Type} (N : Nat) (L : Nat → σ → Int → Option β) (hN : N ≤ 1000000000)
  (h0 : ∀ n i s, i < N → (∃ b, L (n + 1) s (i : Int) = some b) ∨ ∃ s', L (n + 1) s (i : Int) = L n s' ((i + 1 : Nat) : Int))
  (h1 : ∀ n s, ∃ b, L (n + 1) s (N : Int) = some b) (s : σ) : ∃ b, L FUEL s 0 = some b := by
 have key : ∀ (k i n : Nat) (s : σ), i + k = N → k < n → ∃ b, L n s (i : Int) = some b := by
  intro k
  induction k with
  | zero =>
   intro i n s hi hn
   obtain ⟨n, rfl⟩ : ∃ m, n = m + 1 := ⟨n - 1, by omega⟩
   have : i = N := by omega
   subst this; exact h1 n s
  | succ k ih =>
   intro i n s hi hn
   obtain ⟨n, rfl⟩ : ∃ m, n = m + 1 := ⟨n - 1, by omega⟩
   rcases h0 n i s (by omega) with h | ⟨s', h⟩
   ·exact h
   ·rw [h]; exact ih (i + 1) n s' (by omega) (by omega)
 exact key N 0 FUEL s (by omega) (by rw [XW]; omega)
theorem Work_ex (a : Law22_Given) (h1 : a.Solid.length ≤ 1000000) (h2 : a.Products.length ≤ 1000000) : ∃ b, BC a = some b := by
 obtain ⟨u1, e1⟩ := qA3 (min a.Solid.length 30) (fun n (s : Int) x => yU a n s x) (by omega) (fun n i s hi => by
   right
   refine ⟨imin 20000 (w64 (s + (imax 0 (imin 20000 ((a.Solid.getD i default).Len))))), ?_⟩
   rw [yU, decide_eq_true (by omega), decide_eq_true (by omega)]
   unfold KW
   rw [zA (by omega) (by omega), zJ (by omega)]
   rfl) (fun n s => by
   refine ⟨s, ?_⟩
   rw [yU]
   unfold KW
   by_cases c : a.Solid.length ≤ 30
   ·rw [decide_eq_false (by omega)]; rfl
   ·rw [decide_eq_true (by omega), decide_eq_false (by omega)]; rfl) 0
 obtain ⟨u2, e2⟩ := qA3 a.Products.length (fun n (s : Int) x => JH a n s x) (by omega) (fun n i s hi => by
   right
   refine ⟨imax s (imin 10 ((((a.Products.getD i default).Lengths).length : Nat) : Int)), ?_⟩
   rw [JH, decide_eq_true (by omega), zA (by omega) (by omega), zJ (by omega)]
   rfl) (fun n s => by
   refine ⟨s, ?_⟩
   rw [JH, decide_eq_false (by omega)]; rfl) 1
 unfold BC GF
 rw [e1, e2]
 simp only [Option.bind_some]
 by_cases c : a.Saw.Step > 0
 ·rw [decide_eq_true c, nz_t (by omega)]; exact ⟨_, rfl⟩
 ·rw [decide_eq_false c]; exact ⟨_, rfl⟩
theorem qHP (a : Law22_Given) : ∃ b, VH a = some b ∧ (b = true → a.Solid.length ≤ 30 ∧ a.Defects.length ≤ 70 ∧ a.Products.length ≤ 20 ∧ a.Pattern.Nodes.length ≤ 140) := by
 have kt : wW a true = some false := rfl
 unfold VH
 by_cases h1 : ((a.Solid.length : Nat) : Int) > 30
 ·rw [decide_eq_true h1]; exact ⟨false, rfl, fun h => by cases h⟩
 rw [decide_eq_false h1]
 by_cases h2 : ((a.Defects.length : Nat) : Int) > 70
 ·rw [decide_eq_true h2]; exact ⟨false, rfl, fun h => by cases h⟩
 rw [decide_eq_false h2]
 by_cases h3 : ((a.Products.length : Nat) : Int) > 20
 ·rw [decide_eq_true h3]; exact ⟨false, rfl, fun h => by cases h⟩
 rw [decide_eq_false h3]
 by_cases h4 : ((a.Pattern.Nodes.length : Nat) : Int) > 140
 ·rw [decide_eq_true h4]; exact ⟨false, rfl, fun h => by cases h⟩
 rw [decide_eq_false h4]
 obtain ⟨wk, ew⟩ := Work_ex a (by omega) (by omega)
 simp only [cond_false, ew, Option.bind_some]
 have hl : a.Solid.length ≤ 30 ∧ a.Defects.length ≤ 70 ∧ a.Products.length ≤ 20 ∧ a.Pattern.Nodes.length ≤ 140 := by omega
 suffices h : ∀ x, ∃ b, wW a x = some b by
  obtain ⟨b, e⟩ := h (decide (wk > 200000))
  exact ⟨b, e, fun _ => hl⟩
 intro x
 unfold wW
 cases x with
 | true => exact ⟨false, rfl⟩
 | false =>
  obtain ⟨u1, e1⟩ := qA3 a.Solid.length (fun n (_ : Unit) x => WG a n x) (by omega) (fun n i s hi => by
   rw [WG, decide_eq_true (by omega), zA (by omega) (by omega), zJ (by omega)]
   simp only [cond_true]
   cases decide ((((((a.Solid.getD ((i : Int)).toNat default).Sec).Rows).length : Nat) : Int) > 130)
   ·exact .inr ⟨(), rfl⟩
   ·exact .inl ⟨_, rfl⟩) (fun n s => by
   refine ⟨.inr (), ?_⟩
   rw [WG, decide_eq_false (by omega)]; rfl) ()
  obtain ⟨u2, e2⟩ := qA3 a.Products.length (fun n (_ : Unit) x => jB a n x) (by omega) (fun n i s hi => by
   rw [jB, decide_eq_true (by omega), zA (by omega) (by omega)]
   unfold XL
   rw [zJ (by omega)]
   simp only [cond_true, Int.toNat_natCast]
   cases decide (((((a.Products.getD i default).Lengths).length : Nat) : Int) > 10)
   ·cases decide (((((a.Products.getD i default).Prices).length : Nat) : Int) > 10)
    ·cases decide (((((a.Products.getD i default).Name).size : Nat) : Int) > 100)
     ·exact .inr ⟨(), rfl⟩
     ·exact .inl ⟨_, rfl⟩
    ·exact .inl ⟨_, rfl⟩
   ·exact .inl ⟨_, rfl⟩) (fun n s => by
   refine ⟨.inr (), ?_⟩
   rw [jB, decide_eq_false (by omega)]; rfl) ()
  rw [e1]
  simp only [cond_false, Option.bind_some]
  cases u1 with
  | inl v => exact ⟨v, rfl⟩
  | inr v =>
   rw [Sum.elim_inr, e2]
   simp only [Option.bind_some]
   cases u2 with
   | inl v => exact ⟨v, rfl⟩
   | inr v => exact ⟨true, rfl⟩
def VG (a : Law22_Given) : Prop := VY a.Solid a.Defects a.Products a.Pattern a.Saw a.Rates
def yG (a : Law22_Given) : Yield := qIl a.Solid a.Defects a.Products a.Pattern a.Saw a.Rates
theorem IN {a : Law22_Given} (h : VG a) : QL a = some (yG a, 0) := by
 unfold QL yG; rw [(Of_ok h).1]; rfl
theorem HZ {a : Law22_Given} (h : ¬ VG a) : ∃ e, e ≠ 0 ∧ QL a = some (⟨0, 0, 0, 0, 0⟩, e) := by
 refine ⟨_, (qIM h).2, ?_⟩
 unfold QL; rw [(qIM h).1]; rfl
end Go.SL.Saw

namespace Go.SL
namespace Saw
end Saw
end Go.SL

namespace Go.SL.Saw
end Go.SL.Saw

namespace Go.SL.Saw
variable {s : List qF} {d : List Defect} {p : List Product} {pt : Pattern} {w : Saw} {t : Rates}
end Go.SL.Saw

namespace Go.SL.Saw
variable {s : List qF} {d : List Defect} {p : List Product} {pt : Pattern} {w : Saw} {t : Rates}
theorem NR (kerf : Int) : ∀ (T : T) (r : Rect) (l m : Int), lvT kerf T ⟨r, l⟩ = lvT kerf T ⟨r, m⟩ ∧ ctT kerf T ⟨r, l⟩ = ctT kerf T ⟨r, m⟩
 | .leaf n, r, l, m => ⟨rfl, rfl⟩
 | .rip n a b, r, l, m => by
  have a1 := NR kerf a (fiP r n) (l + 1) (m + 1)
  have b1 := NR kerf b (seP r n kerf) (l + 1) (m + 1)
  unfold lvT ctT at *
  simp only [allT]
  rw [a1.1, a1.2, b1.1, b1.2]
  exact ⟨rfl, rfl⟩
theorem qBF (step fine : Int) : ∀ (l m : List Leaf) (i : Nat), bdsFrom s d p step fine i (l ++ m) = bdsFrom s d p step fine i l ++ bdsFrom s d p step fine (i + l.length) m
 | [], m, i => rfl
 | x :: l, m, i => by
  show bdOf s d p step fine i x ++ bdsFrom s d p step fine (i + 1) (l ++ m) = (bdOf s d p step fine i x ++ bdsFrom s d p step fine (i + 1) l) ++ _
  rw [qBF step fine l m (i + 1), List.append_assoc, show i + (x :: l).length = i + 1 + l.length by simp; omega]
theorem qE0 {F : Yield_Cut → Int} (hF : ∀ i j a b c, F ⟨i, a, b, c⟩ = F ⟨j, a, b, c⟩) (step fine : Int) : ∀ (l : List Leaf) (i j : Nat), sumL F (bdsFrom s d p step fine i l) = sumL F (bdsFrom s d p step fine j l)
 | [], _, _ => rfl
 | x :: l, i, j => by
  show sumL F (bdOf s d p step fine i x ++ bdsFrom s d p step fine (i + 1) l) = sumL F (bdOf s d p step fine j x ++ bdsFrom s d p step fine (j + 1) l)
  rw [NL, NL, qE0 hF step fine l (i + 1) (j + 1)]
  congr 1
  unfold bdOf
  split
  ·rfl
  ·cases (bestR s d (p.getD x.Product.toNat default) x.Rect step fine).2.1 with
   | false => rfl
   | true => simp only [cond_true, TM, qJQ]; rw [hF _ (j : Int)]
theorem qEG {F : Yield_Cut → Int} (hF : ∀ i j a b c, F ⟨i, a, b, c⟩ = F ⟨j, a, b, c⟩) (step fine : Int) (l m : List Leaf) : sumL F (bdsFrom s d p step fine 0 (l ++ m)) = sumL F (bdsFrom s d p step fine 0 l) + sumL F (bdsFrom s d p step fine 0 m) := by
 rw [qBF, NL, qE0 hF step fine m _ 0]
/-- The pattern of both parts. -/
theorem qIz {A at_ kerf top : Int} {X : Span} {nl nh : List Node} (hA : -600 ≤ A) (h1 : A < at_) (h2 : at_ ≤ 600) (hk : 0 ≤ kerf ∧ kerf ≤ 20) (h3 : at_ + kerf < top) (h4 : top ≤ 600)
  {bd bd' : Rect → Int → Int} {Tl Th : T} {xl xh : Pattern_place} (el : nl = jD Tl) (eh : nh = jD Th) (ol : okT bd kerf Tl xl) (oh : okT bd' kerf Th xh) :
  lvP ⟨⟨X, ⟨A, top⟩⟩, ([⟨3, at_⟩] ++ nl) ++ nh⟩ kerf = lvT kerf Tl ⟨⟨X, ⟨A, at_⟩⟩, 1⟩ ++ lvT kerf Th ⟨⟨X, ⟨at_ + kerf, top⟩⟩, 1⟩
  ∧ ctP ⟨⟨X, ⟨A, top⟩⟩, ([⟨3, at_⟩] ++ nl) ++ nh⟩ kerf = ⟨X, ⟨at_, at_ + kerf⟩⟩ :: (ctT kerf Tl ⟨⟨X, ⟨A, at_⟩⟩, 1⟩ ++ ctT kerf Th ⟨⟨X, ⟨at_ + kerf, top⟩⟩, 1⟩) := by
 have ef : fiP ⟨X, ⟨A, top⟩⟩ ⟨3, at_⟩ = ⟨X, ⟨A, at_⟩⟩ := rfl
 have em : enP ⟨X, ⟨A, top⟩⟩ ⟨3, at_⟩ kerf = at_ + kerf := by
  show imin (w64 (at_ + kerf)) top = _
  rw [qN (by omega) (by omega)]
  have := imin_or (at_ + kerf) top; omega
 have es : seP ⟨X, ⟨A, top⟩⟩ ⟨3, at_⟩ kerf = ⟨X, ⟨at_ + kerf, top⟩⟩ := by
  show (⟨X, ⟨enP ⟨X, ⟨A, top⟩⟩ ⟨3, at_⟩ kerf, top⟩⟩ : Rect) = _
  rw [em]
 have ec : cuP ⟨X, ⟨A, top⟩⟩ ⟨3, at_⟩ kerf = ⟨X, ⟨at_, at_ + kerf⟩⟩ := by
  show (⟨X, ⟨at_, enP ⟨X, ⟨A, top⟩⟩ ⟨3, at_⟩ kerf⟩⟩ : Rect) = _
  rw [em]
 have key : ∀ {α : Type} (g : Node → Pattern_place → List α), allP g kerf (([⟨3, at_⟩] ++ nl) ++ nh) [⟨⟨X, ⟨A, top⟩⟩, 1⟩] = g ⟨3, at_⟩ ⟨⟨X, ⟨A, top⟩⟩, 1⟩ ++ (allT g kerf Tl ⟨⟨X, ⟨A, at_⟩⟩, 2⟩ ++ allT g kerf Th ⟨⟨X, ⟨at_ + kerf, top⟩⟩, 2⟩) := by
  intro α g
  show g ⟨3, at_⟩ ⟨⟨X, ⟨A, top⟩⟩, 1⟩ ++ allP g kerf (nl ++ nh) [⟨fiP ⟨X, ⟨A, top⟩⟩ ⟨3, at_⟩, 2⟩, ⟨seP ⟨X, ⟨A, top⟩⟩ ⟨3, at_⟩ kerf, 2⟩] = _
  rw [ef, es, el, OK g kerf Tl _ _ _ (DB ol), eh, qBM g kerf _ (DB oh)]
 unfold lvP ctP
 rw [key, key]
 rw [(NR kerf Tl ⟨X, ⟨A, at_⟩⟩ 1 2).1, (NR kerf Th ⟨X, ⟨at_ + kerf, top⟩⟩ 1 2).1, (NR kerf Tl ⟨X, ⟨A, at_⟩⟩ 1 2).2, (NR kerf Th ⟨X, ⟨at_ + kerf, top⟩⟩ 1 2).2]
 refine ⟨rfl, ?_⟩
 show cuP ⟨X, ⟨A, top⟩⟩ ⟨3, at_⟩ kerf :: _ = _
 rw [ec]; rfl
theorem qBY (a : Law22_Given) (up : List Node) (top : Int) {w w1 w2 : Prop} (_ : w) (_ : w1) (_ : w2) : YV a up top = some true := by
 have kt : zI a up top true = some true := by unfold zI; rw [cond_true, DV]; rfl
 have kt2 : zO a up top true = some true := by unfold zO; rw [cond_true, DV]; rfl
 have kt3 : ∀ x y z, wE a x y z true = some true := fun x y z => by unfold wE; rw [cond_true, DV]; rfl
 obtain ⟨b, eb, hb⟩ := qHP a
 unfold YV
 rw [eb]
 simp only [Option.bind_some]
 cases b with
 | false => exact kt
 | true =>
  simp only [Bool.not_true, cond_false]
  by_cases h1 : ((up.length : Nat) : Int) > 60
  ·rw [decide_eq_true h1]; exact kt
  rw [decide_eq_false h1]
  by_cases h2 : ((a.Pattern.Nodes.length : Nat) : Int) > 60
  ·rw [decide_eq_true h2]; exact kt
  rw [decide_eq_false h2]
  by_cases h3 : top < -600
  ·rw [decide_eq_true h3]; exact kt
  rw [decide_eq_false h3]
  by_cases h4 : top > 600
  ·rw [decide_eq_true h4]; exact kt
  rw [decide_eq_false h4]
  simp only [cond_false]
  unfold zI
  rw [cond_false]
  by_cases h5 : a.Pattern.Frame.Y.B > 600
  ·rw [decide_eq_true h5]; exact kt2
  rw [decide_eq_false h5]
  by_cases h6 : a.Saw.Kerf < 0
  ·rw [decide_eq_true h6]; exact kt2
  rw [decide_eq_false h6]
  by_cases h7 : a.Saw.Kerf > 20
  ·rw [decide_eq_true h7]; exact kt2
  rw [decide_eq_false h7]
  by_cases h8 : w64 (a.Pattern.Frame.Y.B + a.Saw.Kerf) ≥ top
  ·rw [decide_eq_true h8]; exact kt2
  rw [decide_eq_false h8]
  simp only [cond_false]
  unfold zO
  rw [cond_false, KI (by omega) (by omega), KI (by omega) (by omega)]
  simp only [cond_true]
  by_cases v1 : ¬ VG a
  ·obtain ⟨e, he, ho⟩ := HZ v1
   have hx : ∀ g, ∃ v, QL g = some v := fun g => by
    by_cases v : VG g
    ·exact ⟨_, IN v⟩
    ·obtain ⟨e, _, ho⟩ := HZ v; exact ⟨_, ho⟩
   obtain ⟨u1, g1⟩ := hx ⟨a.Solid, a.Defects, a.Products, ⟨⟨a.Pattern.Frame.X, ⟨w64 (a.Pattern.Frame.Y.B + a.Saw.Kerf), top⟩⟩, up⟩, a.Saw, a.Rates⟩
   obtain ⟨u2, g2⟩ := hx ⟨a.Solid, a.Defects, a.Products, ⟨⟨a.Pattern.Frame.X, ⟨a.Pattern.Frame.Y.A, top⟩⟩, ([⟨3, a.Pattern.Frame.Y.B⟩] ++ a.Pattern.Nodes) ++ up⟩, a.Saw, a.Rates⟩
   rw [ho, g1, g2]
   have : (e != 0) = true := by simpa using he
   simp only [Option.bind_some, this, cond_true]
   exact kt3 _ _ _
  replace v1 := Classical.not_not.1 v1
  have fr := (YL.1 v1.pat).1
  have ew : w64 (a.Pattern.Frame.Y.B + a.Saw.Kerf) = a.Pattern.Frame.Y.B + a.Saw.Kerf := qN (by have := fr.2; omega) (by omega)
  rw [ew] at h8
  rw [ew, IN v1]
  by_cases v2 : ¬ VG ⟨a.Solid, a.Defects, a.Products, ⟨⟨a.Pattern.Frame.X, ⟨a.Pattern.Frame.Y.B + a.Saw.Kerf, top⟩⟩, up⟩, a.Saw, a.Rates⟩
  ·obtain ⟨e, he, ho⟩ := HZ v2
   have hx : ∀ g, ∃ v, QL g = some v := fun g => by
    by_cases v : VG g
    ·exact ⟨_, IN v⟩
    ·obtain ⟨e, _, ho⟩ := HZ v; exact ⟨_, ho⟩
   obtain ⟨u2, g2⟩ := hx ⟨a.Solid, a.Defects, a.Products, ⟨⟨a.Pattern.Frame.X, ⟨a.Pattern.Frame.Y.A, top⟩⟩, ([⟨3, a.Pattern.Frame.Y.B⟩] ++ a.Pattern.Nodes) ++ up⟩, a.Saw, a.Rates⟩
   rw [ho, g2]
   have : (e != 0) = true := by simpa using he
   simp only [Option.bind_some, bne_self_eq_false, cond_false, this, cond_true]
   exact kt3 _ _ _
  replace v2 := Classical.not_not.1 v2
  rw [IN v2]
  by_cases v3 : ¬ VG ⟨a.Solid, a.Defects, a.Products, ⟨⟨a.Pattern.Frame.X, ⟨a.Pattern.Frame.Y.A, top⟩⟩, ([⟨3, a.Pattern.Frame.Y.B⟩] ++ a.Pattern.Nodes) ++ up⟩, a.Saw, a.Rates⟩
  ·obtain ⟨e, he, ho⟩ := HZ v3
   rw [ho]
   have : (e != 0) = true := by simpa using he
   simp only [Option.bind_some, bne_self_eq_false, cond_false, this]
   exact kt3 _ _ _
  replace v3 := Classical.not_not.1 v3
  rw [IN v3]
  simp only [Option.bind_some, bne_self_eq_false, cond_false]
  unfold wE
  rw [cond_false, (qAH a.Solid).1, HH v1.sol]
  simp only [Option.bind_some, SU v1.sol, ew]
  obtain ⟨Tl, l1, l2, l3, l4⟩ := v1.tree
  obtain ⟨Th, k1, k2, k3, k4⟩ := v2.tree
  have sp := qIz (X := a.Pattern.Frame.X) (A := a.Pattern.Frame.Y.A) (at_ := a.Pattern.Frame.Y.B) (kerf := a.Saw.Kerf) (top := top) fr.2.1 fr.2.2.1 (by omega) (by omega) (by omega) (by omega) l1 k1 l2 k2
  simp only at k3 k4
  rw [← k3, ← k4] at sp
  have l3' : lvP a.Pattern a.Saw.Kerf = lvT a.Saw.Kerf Tl ⟨⟨a.Pattern.Frame.X, ⟨a.Pattern.Frame.Y.A, a.Pattern.Frame.Y.B⟩⟩, 1⟩ := l3
  have l4' : ctP a.Pattern a.Saw.Kerf = ctT a.Saw.Kerf Tl ⟨⟨a.Pattern.Frame.X, ⟨a.Pattern.Frame.Y.A, a.Pattern.Frame.Y.B⟩⟩, 1⟩ := l4
  rw [← l3', ← l4'] at sp
  have hB : (yG ⟨a.Solid, a.Defects, a.Products, ⟨⟨a.Pattern.Frame.X, ⟨a.Pattern.Frame.Y.A, top⟩⟩, ([⟨3, a.Pattern.Frame.Y.B⟩] ++ a.Pattern.Nodes) ++ up⟩, a.Saw, a.Rates⟩).Boards = (yG a).Boards + (yG ⟨a.Solid, a.Defects, a.Products, ⟨⟨a.Pattern.Frame.X, ⟨a.Pattern.Frame.Y.B + a.Saw.Kerf, top⟩⟩, up⟩, a.Saw, a.Rates⟩).Boards := by
   show yB _ _ _ _ _ _ = yB _ _ _ _ _ _ + yB _ _ _ _ _ _
   unfold yB bds
   rw [sp.1]
   exact qEG (F := brdV a.Solid) (fun _ _ _ _ _ => rfl) _ _ _ _
  have hD : (yG ⟨a.Solid, a.Defects, a.Products, ⟨⟨a.Pattern.Frame.X, ⟨a.Pattern.Frame.Y.A, top⟩⟩, ([⟨3, a.Pattern.Frame.Y.B⟩] ++ a.Pattern.Nodes) ++ up⟩, a.Saw, a.Rates⟩).Dust = (yG a).Dust + (yG ⟨a.Solid, a.Defects, a.Products, ⟨⟨a.Pattern.Frame.X, ⟨a.Pattern.Frame.Y.B + a.Saw.Kerf, top⟩⟩, up⟩, a.Saw, a.Rates⟩).Dust + FT a.Solid ⟨a.Pattern.Frame.X, ⟨a.Pattern.Frame.Y.B, a.Pattern.Frame.Y.B + a.Saw.Kerf⟩⟩ := by
   show yD _ _ _ _ _ _ = yD _ _ _ _ _ _ + yD _ _ _ _ _ _ + _
   unfold yD bds OY
   rw [sp.1, sp.2, TM, NL]
   have := qEG (s := a.Solid) (d := a.Defects) (p := a.Products) (F := trmV a.Solid a.Saw.Trim) (fun _ _ _ _ _ => rfl) a.Saw.Step a.Rates.Fine (lvP a.Pattern a.Saw.Kerf) (lvP ⟨⟨a.Pattern.Frame.X, ⟨a.Pattern.Frame.Y.B + a.Saw.Kerf, top⟩⟩, up⟩ a.Saw.Kerf)
   rw [this]
   simp only
   omega
  have b1 := (Of_ok v1).2
  have b2 := (Of_ok v2).2
  have c1 : 0 ≤ (yG a).Boards ∧ (yG a).Boards ≤ 28800000000 * 127 := b1.nB
  have c2 : 0 ≤ (yG ⟨a.Solid, a.Defects, a.Products, ⟨⟨a.Pattern.Frame.X, ⟨a.Pattern.Frame.Y.B + a.Saw.Kerf, top⟩⟩, up⟩, a.Saw, a.Rates⟩).Boards ∧ (yG ⟨a.Solid, a.Defects, a.Products, ⟨⟨a.Pattern.Frame.X, ⟨a.Pattern.Frame.Y.B + a.Saw.Kerf, top⟩⟩, up⟩, a.Saw, a.Rates⟩).Boards ≤ 28800000000 * 127 := b2.nB
  have c3 : 0 ≤ (yG a).Dust ∧ (yG a).Dust ≤ 28800000000 * 127 + 57600000000 * 127 := b1.nD
  have c4 : 0 ≤ (yG ⟨a.Solid, a.Defects, a.Products, ⟨⟨a.Pattern.Frame.X, ⟨a.Pattern.Frame.Y.B + a.Saw.Kerf, top⟩⟩, up⟩, a.Saw, a.Rates⟩).Dust ∧ (yG ⟨a.Solid, a.Defects, a.Products, ⟨⟨a.Pattern.Frame.X, ⟨a.Pattern.Frame.Y.B + a.Saw.Kerf, top⟩⟩, up⟩, a.Saw, a.Rates⟩).Dust ≤ 28800000000 * 127 + 57600000000 * 127 := b2.nD
  have c5 := qHy v1.sol ⟨a.Pattern.Frame.X, ⟨a.Pattern.Frame.Y.B, a.Pattern.Frame.Y.B + a.Saw.Kerf⟩⟩
  have c6 : volS a.Solid a.Pattern.Frame.X ⟨a.Pattern.Frame.Y.B, a.Pattern.Frame.Y.B + a.Saw.Kerf⟩ ⟨0, zX a.Solid⟩ = FT a.Solid ⟨a.Pattern.Frame.X, ⟨a.Pattern.Frame.Y.B, a.Pattern.Frame.Y.B + a.Saw.Kerf⟩⟩ := rfl
  rw [c6]
  generalize hy1 : yG a = y1 at *
  generalize hy2 : yG ⟨a.Solid, a.Defects, a.Products, ⟨⟨a.Pattern.Frame.X, ⟨a.Pattern.Frame.Y.B + a.Saw.Kerf, top⟩⟩, up⟩, a.Saw, a.Rates⟩ = y2 at *
  have hL : (yG ⟨a.Solid, a.Defects, a.Products, ⟨⟨a.Pattern.Frame.X, ⟨a.Pattern.Frame.Y.A, top⟩⟩, ([⟨3, a.Pattern.Frame.Y.B⟩] ++ a.Pattern.Nodes) ++ up⟩, a.Saw, a.Rates⟩).Log = y1.Log := by rw [← hy1]; rfl
  rw [hB, hD, hL, qN (n := y1.Boards + y2.Boards) (by omega) (by omega), qN (n := y1.Dust + y2.Dust) (by omega) (by omega), qN (by omega) (by omega)]
  simp only [beq_self_eq_true, cond_true, DV, Option.bind_some]
  rfl
end Go.SL.Saw
