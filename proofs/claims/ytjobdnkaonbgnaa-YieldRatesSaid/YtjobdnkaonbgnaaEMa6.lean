/- Yields: the law's limits; the rates. -/
import Derived.Test.YtjobdnkaonbgnaaEMa5
set_option linter.unusedVariables false
set_option linter.unusedSimpArgs false
namespace Go.SL.Saw
theorem qAR {σ β : Type} (N : Nat) (L : Nat → σ → Int → Option β) (hN : N ≤ 1000000000)
  (h0 : ∀ n i s, i < N → (∃ b, L (n + 1) s (i : Int) = some b) ∨ ∃ s', L (n + 1) s (i : Int) = L n s' ((i + 1 : Nat) : Int))
  (h1 : ∀ n s, ∃ b, L (n + 1) s (N : Int) = some b) (s : σ) : ∃ b, L FUEL s 0 = some b := by
 have key : ∀ (k i n : Nat) (s : σ), i + k = N → k < n → ∃ b, L n s (i : Int) = some b := by
  intro k
  induction k with
  | zero =>
   intro i n s hi hn
   obtain ⟨n, rfl⟩ : ∃ m, n = m + 1 := ⟨n - 1, by omega⟩
   have : i = N := by omega
   subst this; exact h1 n s
  | succ k ih =>
   intro i n s hi hn
   obtain ⟨n, rfl⟩ : ∃ m, n = m + 1 := ⟨n - 1, by omega⟩
   rcases h0 n i s (by omega) with h | ⟨s', h⟩
   ·exact h
   ·rw [h]; exact ih (i + 1) n s' (by omega) (by omega)
 exact key N 0 FUEL s (by omega) (by rw [YR]; omega)
theorem Work_ex (a : Law22_Given) (h1 : a.Solid.length ≤ 1000000) (h2 : a.Products.length ≤ 1000000) : ∃ b, DO a = some b := by
 obtain ⟨u1, e1⟩ := qAR (min a.Solid.length 30) (fun n (s : Int) x => yQ a n s x) (by omega) (fun n i s hi => by
   right
   refine ⟨imin 20000 (w64 (s + (imax 0 (imin 20000 ((a.Solid.getD i default).Len))))), ?_⟩
   rw [yQ, decide_eq_true (by omega), decide_eq_true (by omega)]
   unfold PD
   rw [qX (by omega) (by omega), zH (by omega)]
   rfl) (fun n s => by
   refine ⟨s, ?_⟩
   rw [yQ]
   unfold PD
   by_cases c : a.Solid.length ≤ 30
   ·rw [decide_eq_false (by omega)]; rfl
   ·rw [decide_eq_true (by omega), decide_eq_false (by omega)]; rfl) 0
 obtain ⟨u2, e2⟩ := qAR a.Products.length (fun n (s : Int) x => JJ a n s x) (by omega) (fun n i s hi => by
   right
   refine ⟨imax s (imin 10 ((((a.Products.getD i default).Lengths).length : Nat) : Int)), ?_⟩
   rw [JJ, decide_eq_true (by omega), qX (by omega) (by omega), zH (by omega)]
   rfl) (fun n s => by
   refine ⟨s, ?_⟩
   rw [JJ, decide_eq_false (by omega)]; rfl) 1
 unfold DO VZ
 rw [e1, e2]
 simp only [Option.bind_some]
 by_cases c : a.Saw.Step > 0
 ·rw [decide_eq_true c, nz_t (by omega)]; exact ⟨_, rfl⟩
 ·rw [decide_eq_false c]; exact ⟨_, rfl⟩
theorem qHS (a : Law22_Given) : ∃ b, VK a = some b ∧ (b = true → a.Solid.length ≤ 30 ∧ a.Defects.length ≤ 70 ∧ a.Products.length ≤ 20 ∧ a.Pattern.Nodes.length ≤ 140) := by
 have kt : wW a true = some false := rfl
 unfold VK
 by_cases h1 : ((a.Solid.length : Nat) : Int) > 30
 ·rw [decide_eq_true h1]; exact ⟨false, rfl, fun h => by cases h⟩
 rw [decide_eq_false h1]
 by_cases h2 : ((a.Defects.length : Nat) : Int) > 70
 ·rw [decide_eq_true h2]; exact ⟨false, rfl, fun h => by cases h⟩
 rw [decide_eq_false h2]
 by_cases h3 : ((a.Products.length : Nat) : Int) > 20
 ·rw [decide_eq_true h3]; exact ⟨false, rfl, fun h => by cases h⟩
 rw [decide_eq_false h3]
 by_cases h4 : ((a.Pattern.Nodes.length : Nat) : Int) > 140
 ·rw [decide_eq_true h4]; exact ⟨false, rfl, fun h => by cases h⟩
 rw [decide_eq_false h4]
 obtain ⟨wk, ew⟩ := Work_ex a (by omega) (by omega)
 simp only [cond_false, ew, Option.bind_some]
 have hl : a.Solid.length ≤ 30 ∧ a.Defects.length ≤ 70 ∧ a.Products.length ≤ 20 ∧ a.Pattern.Nodes.length ≤ 140 := by omega
 suffices h : ∀ x, ∃ b, wW a x = some b by
  obtain ⟨b, e⟩ := h (decide (wk > 200000))
  exact ⟨b, e, fun _ => hl⟩
 intro x
 unfold wW
 cases x with
 | true => exact ⟨false, rfl⟩
 | false =>
  obtain ⟨u1, e1⟩ := qAR a.Solid.length (fun n (_ : Unit) x => WF a n x) (by omega) (fun n i s hi => by
   rw [WF, decide_eq_true (by omega), qX (by omega) (by omega), zH (by omega)]
   simp only [cond_true]
   cases decide ((((((a.Solid.getD ((i : Int)).toNat default).Sec).Rows).length : Nat) : Int) > 130)
   ·exact .inr ⟨(), rfl⟩
   ·exact .inl ⟨_, rfl⟩) (fun n s => by
   refine ⟨.inr (), ?_⟩
   rw [WF, decide_eq_false (by omega)]; rfl) ()
  obtain ⟨u2, e2⟩ := qAR a.Products.length (fun n (_ : Unit) x => wV a n x) (by omega) (fun n i s hi => by
   rw [wV, decide_eq_true (by omega), qX (by omega) (by omega)]
   unfold XN
   rw [zH (by omega)]
   simp only [cond_true, Int.toNat_natCast]
   cases decide (((((a.Products.getD i default).Lengths).length : Nat) : Int) > 10)
   ·cases decide (((((a.Products.getD i default).Prices).length : Nat) : Int) > 10)
    ·cases decide (((((a.Products.getD i default).Name).size : Nat) : Int) > 100)
     ·exact .inr ⟨(), rfl⟩
     ·exact .inl ⟨_, rfl⟩
    ·exact .inl ⟨_, rfl⟩
   ·exact .inl ⟨_, rfl⟩) (fun n s => by
   refine ⟨.inr (), ?_⟩
   rw [wV, decide_eq_false (by omega)]; rfl) ()
  rw [e1]
  simp only [cond_false, Option.bind_some]
  cases u1 with
  | inl v => exact ⟨v, rfl⟩
  | inr v =>
   rw [Sum.elim_inr, e2]
   simp only [Option.bind_some]
   cases u2 with
   | inl v => exact ⟨v, rfl⟩
   | inr v => exact ⟨true, rfl⟩
def VG (a : Law22_Given) : Prop := VY a.Solid a.Defects a.Products a.Pattern a.Saw a.Rates
def yG (a : Law22_Given) : Yield := qIQ a.Solid a.Defects a.Products a.Pattern a.Saw a.Rates
theorem qHC {a : Law22_Given} (h : VG a) : YJ a = some (yG a, 0) := by
 unfold YJ yG; rw [(Of_ok h).1]; rfl
theorem qJV {a : Law22_Given} (h : ¬ VG a) : ∃ e, e ≠ 0 ∧ YJ a = some (⟨0, 0, 0, 0, 0⟩, e) := by
 refine ⟨_, (qIX h).2, ?_⟩
 unfold YJ; rw [(qIX h).1]; rfl
def bG (a : Law22_Given) : List Yield_Cut := bds a.Solid a.Defects a.Products a.Pattern a.Saw a.Rates.Fine
theorem qGT {a : Law22_Given} (h : VG a) : XM a = some (bG a, 0) := by
 unfold XM bG; rw [qEN h]; rfl
theorem qCD (a : Law22_Given) (chip dust : Int) {w w1 w2 : Prop} (_ : w) (_ : w1) (_ : w2) : KK a chip dust = some true := by
 have kt : zK a chip dust true = some true := by unfold zK; rw [cond_true, SG]; rfl
 obtain ⟨b, eb, hb⟩ := qHS a
 unfold KK
 rw [eb]
 simp only [Option.bind_some]
 cases b with
 | false => exact kt
 | true =>
  simp only [Bool.not_true, cond_false]
  by_cases h1 : chip < 0
  ·rw [decide_eq_true h1]; exact kt
  rw [decide_eq_false h1]
  by_cases h2 : chip > 1000
  ·rw [decide_eq_true h2]; exact kt
  rw [decide_eq_false h2]
  by_cases h3 : dust < 0
  ·rw [decide_eq_true h3]; exact kt
  rw [decide_eq_false h3]
  by_cases h4 : dust > 1000
  ·rw [decide_eq_true h4]; exact kt
  rw [decide_eq_false h4]
  simp only [cond_false]
  unfold zK
  rw [cond_false]
  by_cases hv : VG a
  ·have hv2 : VG ⟨a.Solid, a.Defects, a.Products, a.Pattern, a.Saw, ⟨chip, dust, a.Rates.Fine⟩⟩ :=
    ⟨hv.sol, hv.df, hv.pr, ⟨hv.vw.kerf, hv.vw.trim, hv.vw.pitch, hv.vw.step, by simp only; omega, by simp only; omega, hv.vw.fine⟩, hv.pat⟩
   rw [qHC hv, qHC hv2, qGT hv]
   simp only [Option.bind_some, bne_self_eq_false, cond_false]
   have hl := qHL hv a.Rates.Fine
   have k1 := DA (bG a) (fun n (q : Int) x => jI (bG a, 0) n q x) (fun x => (x : Int)) (fun _ c q => q + c.Worth) (fun q => q) (fun x q => 0 ≤ q ∧ q ≤ 1000000 * (x : Int)) (by unfold bG; omega)
    (fun n x q hx hi => by
     have g := (qFQ hv _ (XY hx)).wth
     have hx' : (x : Int) < ((bG a).length : Int) := by omega
     have hxl : x < 127 := by unfold bG at hx; omega
     refine ⟨?_, by unfold bG at *; omega⟩
     rw [jI, decide_eq_true (show (x : Int) < _ from hx'), qX (by omega) hx', zH (by omega)]
     simp only [cond_true, Int.toNat_natCast]
     unfold bG at *
     rw [qM (by omega) (by omega)])
    (fun n q _ => by rw [jI]; simp) (i := 0) rfl 0 (by omega)
   rw [OF (fun c : Yield_Cut => c.Worth), Int.zero_add] at k1
   rw [k1.1]
   simp only [Option.bind_some, beq_self_eq_true, cond_true]
   have e1 : (yG ⟨a.Solid, a.Defects, a.Products, a.Pattern, a.Saw, ⟨chip, dust, a.Rates.Fine⟩⟩).Log = (yG a).Log := rfl
   have e2 : (yG ⟨a.Solid, a.Defects, a.Products, a.Pattern, a.Saw, ⟨chip, dust, a.Rates.Fine⟩⟩).Boards = (yG a).Boards := rfl
   have e3 : (yG ⟨a.Solid, a.Defects, a.Products, a.Pattern, a.Saw, ⟨chip, dust, a.Rates.Fine⟩⟩).Chips = (yG a).Chips := rfl
   have e4 : (yG ⟨a.Solid, a.Defects, a.Products, a.Pattern, a.Saw, ⟨chip, dust, a.Rates.Fine⟩⟩).Dust = (yG a).Dust := rfl
   have bd := (Of_ok hv).2
   have bn := bd.nB
   have dn := bd.nD
   have wn := bd.nW
   have bv := qIj hv.sol
   have ew : yW a.Solid a.Defects a.Products a.Pattern a.Saw a.Rates.Fine = 1000000 * sumL (fun c : Yield_Cut => c.Worth) (bG a) := by unfold yW bG; rw [qGv]
   have hC : -28800000000 * 1000 ≤ yC a.Solid a.Defects a.Products a.Pattern a.Saw a.Rates.Fine ∧ yC a.Solid a.Defects a.Products a.Pattern a.Saw a.Rates.Fine ≤ 28800000000 * 1000 := by unfold yC; omega
   have m1 := DB (a := chip) (b := yC a.Solid a.Defects a.Products a.Pattern a.Saw a.Rates.Fine) (m := 1000) (n := 28800000000 * 1000) (by omega) (by omega) (by omega) hC.2 (by omega) (by omega)
   have m2 := DB (a := dust) (b := yD a.Solid a.Defects a.Products a.Pattern a.Saw a.Rates.Fine) (m := 1000) (n := 28800000000 * 1000) (by omega) (by omega) (by omega) (by omega) (by omega) (by omega)
   have e5 : (yG ⟨a.Solid, a.Defects, a.Products, a.Pattern, a.Saw, ⟨chip, dust, a.Rates.Fine⟩⟩).Value = w64 (w64 (w64 (1000000 * sumL (fun c : Yield_Cut => c.Worth) (bG a)) + w64 (chip * (yG a).Chips)) + w64 (dust * (yG a).Dust)) := by
    have c1 : (yG a).Chips = yC a.Solid a.Defects a.Products a.Pattern a.Saw a.Rates.Fine := rfl
    have c2 : (yG a).Dust = yD a.Solid a.Defects a.Products a.Pattern a.Saw a.Rates.Fine := rfl
    rw [← ew, c1, c2, qM (n := yW _ _ _ _ _ _) (by omega) (by omega), qM (n := chip * _) (by omega) (by omega), qM (n := dust * _) (by omega) (by omega), qM (n := _ + chip * _) (by omega) (by omega), qM (by omega) (by omega)]
    show yW _ _ _ _ _ _ + (chip * yC _ _ _ _ _ _ + dust * yD _ _ _ _ _ _) = _
    rw [Int.add_assoc]
   rw [e1, e2, e3, e4, e5]
   simp only [beq_self_eq_true, cond_true, SG, Option.bind_some]
   rfl
  ·obtain ⟨e, he, ho⟩ := qJV hv
   rw [ho]
   have : (e != 0) = true := by simpa using he
   simp only [Option.bind_some, this, cond_true, SG]
end Go.SL.Saw
