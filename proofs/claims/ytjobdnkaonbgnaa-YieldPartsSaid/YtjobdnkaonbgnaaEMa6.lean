/- Yields: the law's limits; the rates. -/
import Derived.Test.YtjobdnkaonbgnaaEMa5
import Derived.Test.YtjobdnkaonbgnaaEMod
import Derived.Test.YtjobdnkaonbgnaaEMa1
import Derived.Test.YtjobdnkaonbgnaaEMa3
set_option linter.unusedVariables false
set_option linter.unusedSimpArgs false
namespace Go.SL.Saw
theorem qBo {σ β : Type} (N : Nat) (L : Nat → σ → Int → Option β) (hN : N ≤ 1000000000)
  (h0 : ∀ n i s, i < N → (∃ b, L (n + 1) s (i : Int) = some b) ∨ ∃ s', L (n + 1) s (i : Int) = L n s' ((i + 1 : Nat) : Int))
  (h1 : ∀ n s, ∃ b, L (n + 1) s (N : Int) = some b) (s : σ) : ∃ b, L FUEL s 0 = some b := by
 have key : ∀ (k i n : Nat) (s : σ), i + k = N → k < n → ∃ b, L n s (i : Int) = some b := by
  intro k
  induction k with
  | zero =>
   intro i n s hi hn
   obtain ⟨n, rfl⟩ : ∃ m, n = m + 1 := ⟨n - 1, by omega⟩
   have : i = N := by omega
   subst this; exact h1 n s
  | succ k ih =>
   intro i n s hi hn
   obtain ⟨n, rfl⟩ : ∃ m, n = m + 1 := ⟨n - 1, by omega⟩
   rcases h0 n i s (by omega) with h | ⟨s', h⟩
   ·exact h
   ·rw [h]; exact ih (i + 1) n s' (by omega) (by omega)
 exact key N 0 FUEL s (by omega) (by rw [WM]; omega)
theorem Work_ex (a : Law22_Given) (h1 : a.Solid.length ≤ 1000000) (h2 : a.Products.length ≤ 1000000) : ∃ b, BJ a = some b := by
 obtain ⟨u1, e1⟩ := qBo (min a.Solid.length 30) (fun n (s : Int) x => yZ a n s x) (by omega) (fun n i s hi => by
   right
   refine ⟨imin 20000 (w64 (s + (imax 0 (imin 20000 ((a.Solid.getD i default).Len))))), ?_⟩
   rw [yZ, decide_eq_true (by omega), decide_eq_true (by omega)]
   unfold PU
   rw [qY (by omega) (by omega), zJ (by omega)]
   rfl) (fun n s => by
   refine ⟨s, ?_⟩
   rw [yZ]
   unfold PU
   by_cases c : a.Solid.length ≤ 30
   ·rw [decide_eq_false (by omega)]; rfl
   ·rw [decide_eq_true (by omega), decide_eq_false (by omega)]; rfl) 0
 obtain ⟨u2, e2⟩ := qBo a.Products.length (fun n (s : Int) x => JT a n s x) (by omega) (fun n i s hi => by
   right
   refine ⟨imax s (imin 10 ((((a.Products.getD i default).Lengths).length : Nat) : Int)), ?_⟩
   rw [JT, decide_eq_true (by omega), qY (by omega) (by omega), zJ (by omega)]
   rfl) (fun n s => by
   refine ⟨s, ?_⟩
   rw [JT, decide_eq_false (by omega)]; rfl) 1
 unfold BJ GQ
 rw [e1, e2]
 simp only [Option.bind_some]
 by_cases c : a.Saw.Step > 0
 ·rw [decide_eq_true c, nz_t (by omega)]; exact ⟨_, rfl⟩
 ·rw [decide_eq_false c]; exact ⟨_, rfl⟩
theorem qIN (a : Law22_Given) : ∃ b, GA a = some b ∧ (b = true → a.Solid.length ≤ 30 ∧ a.Defects.length ≤ 70 ∧ a.Products.length ≤ 20 ∧ a.Pattern.Nodes.length ≤ 140) := by
 have kt : jC a true = some false := rfl
 unfold GA
 by_cases h1 : ((a.Solid.length : Nat) : Int) > 30
 ·rw [decide_eq_true h1]; exact ⟨false, rfl, fun h => by cases h⟩
 rw [decide_eq_false h1]
 by_cases h2 : ((a.Defects.length : Nat) : Int) > 70
 ·rw [decide_eq_true h2]; exact ⟨false, rfl, fun h => by cases h⟩
 rw [decide_eq_false h2]
 by_cases h3 : ((a.Products.length : Nat) : Int) > 20
 ·rw [decide_eq_true h3]; exact ⟨false, rfl, fun h => by cases h⟩
 rw [decide_eq_false h3]
 by_cases h4 : ((a.Pattern.Nodes.length : Nat) : Int) > 140
 ·rw [decide_eq_true h4]; exact ⟨false, rfl, fun h => by cases h⟩
 rw [decide_eq_false h4]
 obtain ⟨wk, ew⟩ := Work_ex a (by omega) (by omega)
 simp only [cond_false, ew, Option.bind_some]
 have hl : a.Solid.length ≤ 30 ∧ a.Defects.length ≤ 70 ∧ a.Products.length ≤ 20 ∧ a.Pattern.Nodes.length ≤ 140 := by omega
 suffices h : ∀ x, ∃ b, jC a x = some b by
  obtain ⟨b, e⟩ := h (decide (wk > 200000))
  exact ⟨b, e, fun _ => hl⟩
 intro x
 unfold jC
 cases x with
 | true => exact ⟨false, rfl⟩
 | false =>
  obtain ⟨u1, e1⟩ := qBo a.Solid.length (fun n (_ : Unit) x => WP a n x) (by omega) (fun n i s hi => by
   rw [WP, decide_eq_true (by omega), qY (by omega) (by omega), zJ (by omega)]
   simp only [cond_true]
   cases decide ((((((a.Solid.getD ((i : Int)).toNat default).Sec).Rows).length : Nat) : Int) > 130)
   ·exact .inr ⟨(), rfl⟩
   ·exact .inl ⟨_, rfl⟩) (fun n s => by
   refine ⟨.inr (), ?_⟩
   rw [WP, decide_eq_false (by omega)]; rfl) ()
  obtain ⟨u2, e2⟩ := qBo a.Products.length (fun n (_ : Unit) x => wY a n x) (by omega) (fun n i s hi => by
   rw [wY, decide_eq_true (by omega), qY (by omega) (by omega)]
   unfold XV
   rw [zJ (by omega)]
   simp only [cond_true, Int.toNat_natCast]
   cases decide (((((a.Products.getD i default).Lengths).length : Nat) : Int) > 10)
   ·cases decide (((((a.Products.getD i default).Prices).length : Nat) : Int) > 10)
    ·cases decide (((((a.Products.getD i default).Name).size : Nat) : Int) > 100)
     ·exact .inr ⟨(), rfl⟩
     ·exact .inl ⟨_, rfl⟩
    ·exact .inl ⟨_, rfl⟩
   ·exact .inl ⟨_, rfl⟩) (fun n s => by
   refine ⟨.inr (), ?_⟩
   rw [wY, decide_eq_false (by omega)]; rfl) ()
  rw [e1]
  simp only [cond_false, Option.bind_some]
  cases u1 with
  | inl v => exact ⟨v, rfl⟩
  | inr v =>
   rw [Sum.elim_inr, e2]
   simp only [Option.bind_some]
   cases u2 with
   | inl v => exact ⟨v, rfl⟩
   | inr v => exact ⟨true, rfl⟩
def VG (a : Law22_Given) : Prop := VY a.Solid a.Defects a.Products a.Pattern a.Saw a.Rates
def yG (a : Law22_Given) : Yield := qDS a.Solid a.Defects a.Products a.Pattern a.Saw a.Rates
theorem of22_ok {a : Law22_Given} (h : VG a) : PI a = some (yG a, 0) := by
 unfold PI yG; rw [(Of_ok h).1]; rfl
theorem qJ1 {a : Law22_Given} (h : ¬ VG a) : ∃ e, e ≠ 0 ∧ PI a = some (⟨0, 0, 0, 0, 0⟩, e) := by
 refine ⟨_, (qJy h).2, ?_⟩
 unfold PI; rw [(qJy h).1]; rfl
def bG (a : Law22_Given) : List Yield_Cut := bds a.Solid a.Defects a.Products a.Pattern a.Saw a.Rates.Fine
theorem qHL {a : Law22_Given} (h : VG a) : ZN a = some (bG a, 0) := by
 unfold ZN bG; rw [qAs h]; rfl
end Go.SL.Saw

namespace Go.SL
namespace Saw
def TC (n : Int) : Bool := decide (n < 0) || decide (n > 2305843009213693952)
theorem qDC {α : Type} (a b : Bool) (x y : α) : (bif a then x else bif b then x else y) = bif a || b then x else y := by cases a <;> rfl
theorem bad61_f {n : Int} : TC n = false ↔ 0 ≤ n ∧ n ≤ 2305843009213693952 := by
 unfold TC; rw [Bool.or_eq_false_iff, decide_eq_false_iff_not, decide_eq_false_iff_not]; omega
theorem qDX (a : Yield) (n : Nat) : qZ a (n + 1) 0 = (bif TC a.Log then some (.inl false) else qZ a n 1)
  ∧ qZ a (n + 1) 1 = (bif TC a.Boards then some (.inl false) else qZ a n 2)
  ∧ qZ a (n + 1) 2 = (bif TC a.Chips then some (.inl false) else qZ a n 3)
  ∧ qZ a (n + 1) 3 = (bif TC a.Dust then some (.inl false) else qZ a n 4)
  ∧ qZ a (n + 1) 4 = some (.inr ()) := by
 unfold TC
 rw [← qDC, ← qDC, ← qDC, ← qDC]
 exact ⟨by kernel_rfl, by kernel_rfl, by kernel_rfl, by kernel_rfl, by kernel_rfl⟩
def badY (a : Yield) : Bool := TC a.Log || (TC a.Boards || (TC a.Chips || TC a.Dust))
def bal (a : Yield) : Bool := !badY a && (a.Log == a.Boards + a.Chips + a.Dust)
theorem fuel5 : ∃ k, FUEL = k + 12 := ⟨4611686018427387892, by rw [WM]⟩
theorem qGp {a : Yield} : badY a = false ↔ (0 ≤ a.Log ∧ a.Log ≤ 2305843009213693952) ∧ (0 ≤ a.Boards ∧ a.Boards ≤ 2305843009213693952) ∧ (0 ≤ a.Chips ∧ a.Chips ≤ 2305843009213693952) ∧ (0 ≤ a.Dust ∧ a.Dust ≤ 2305843009213693952) := by
 unfold badY; simp only [Bool.or_eq_false_iff, bad61_f]
theorem qBS (a : Yield) : QP a = some (bal a) := by
 obtain ⟨k, hk⟩ := fuel5
 unfold QP
 rw [hk, (qDX a _).1, (qDX a _).2.1, (qDX a _).2.2.1, (qDX a _).2.2.2.1, (qDX a _).2.2.2.2]
 cases h : badY a with
 | true =>
  unfold bal; rw [h]
  unfold badY at h
  cases h1 : TC a.Log
  ·rw [h1, Bool.false_or] at h
   cases h2 : TC a.Boards
   ·rw [h2, Bool.false_or] at h
    cases h3 : TC a.Chips
    ·rw [h3, Bool.false_or] at h; rw [h]; rfl
    ·rfl
   ·rfl
  ·rfl
 | false =>
  have hb := qGp.1 h
  have e : w64 (w64 (a.Boards + a.Chips) + a.Dust) = a.Boards + a.Chips + a.Dust := by
   rw [qN (n := a.Boards + a.Chips) (by omega) (by omega), qN (by omega) (by omega)]
  unfold bal; rw [h, e]
  unfold badY at h
  simp only [Bool.or_eq_false_iff] at h
  rw [h.1, h.2.1, h.2.2.1, h.2.2.2]
  rfl
theorem bal_t {a : Yield} : bal a = true ↔ badY a = false ∧ a.Log = a.Boards + a.Chips + a.Dust := by
 unfold bal; simp
end Saw
end Go.SL

namespace Go.SL.Saw
theorem fdiv_nn {a b : Int} (h : 0 ≤ b) : a.fdiv b = a / b := Int.fdiv_eq_ediv_of_nonneg a h
theorem shr32 (x : Int) : shrI .u64 x 32 = x / 4294967296 := by
 unfold shrI
 rw [show (min (32 : Int).toNat (IntKind.bits .u64)) = 32 from rfl, fdiv_nn (by decide)]
 rfl
theorem and32 {x : Int} (h0 : 0 ≤ x) (h1 : x < 18446744073709551616) : andI .u64 x 4294967295 = x % 4294967296 := by
 obtain ⟨n, rfl⟩ := Int.eq_ofNat_of_zero_le h0
 unfold andI
 rw [SZ]
 have e : ((BitVec.ofInt (IntKind.bits .u64) (n : Int) &&& BitVec.ofInt (IntKind.bits .u64) 4294967295).toNat) = n % 4294967296 := by
  show ((BitVec.ofInt 64 (n : Int) &&& BitVec.ofInt 64 4294967295).toNat) = _
  rw [BitVec.toNat_and]
  have e1 : (BitVec.ofInt 64 (n : Int)).toNat = n := by
   rw [BitVec.toNat_ofInt]
   have : ((n : Int) % ((2 ^ 64 : Nat) : Int)).toNat = n := by
    rw [show ((2 ^ 64 : Nat) : Int) = 18446744073709551616 from rfl, Int.emod_eq_of_lt (by omega) h1]; rfl
   exact this
  have e2 : (BitVec.ofInt 64 4294967295).toNat = 2 ^ 32 - 1 := by decide
  rw [e1, e2, Nat.and_two_pow_sub_one_eq_mod]
 rw [e]
 omega
theorem qJZ {a b : Int} (ha : 0 ≤ a) (ha' : a < 18446744073709551616) (hb : 0 ≤ b) (hb' : b < 18446744073709551616) : YP a b = some (a * b / 18446744073709551616, a * b % 18446744073709551616) := by
 have a1 : 0 ≤ a / 4294967296 ∧ a / 4294967296 ≤ 4294967295 := by omega
 have a0 : 0 ≤ a % 4294967296 ∧ a % 4294967296 ≤ 4294967295 := by omega
 have b1 : 0 ≤ b / 4294967296 ∧ b / 4294967296 ≤ 4294967295 := by omega
 have b0 : 0 ≤ b % 4294967296 ∧ b % 4294967296 ≤ 4294967295 := by omega
 have m11 := Int.mul_le_mul a1.2 b1.2 b1.1 (by omega)
 have m10 := Int.mul_le_mul a1.2 b0.2 b0.1 (by omega)
 have m01 := Int.mul_le_mul a0.2 b1.2 b1.1 (by omega)
 have m00 := Int.mul_le_mul a0.2 b0.2 b0.1 (by omega)
 have n11 := Int.mul_nonneg a1.1 b1.1
 have n10 := Int.mul_nonneg a1.1 b0.1
 have n01 := Int.mul_nonneg a0.1 b1.1
 have n00 := Int.mul_nonneg a0.1 b0.1
 have ab : a * b = (a / 4294967296 * (b / 4294967296)) * 18446744073709551616 + (a / 4294967296 * (b % 4294967296) + a % 4294967296 * (b / 4294967296)) * 4294967296 + a % 4294967296 * (b % 4294967296) := by
  have ea : a = a / 4294967296 * 4294967296 + a % 4294967296 := by omega
  have eb : b = b / 4294967296 * 4294967296 + b % 4294967296 := by omega
  generalize a / 4294967296 = x1 at *
  generalize a % 4294967296 = x0 at *
  generalize b / 4294967296 = y1 at *
  generalize b % 4294967296 = y0 at *
  subst ea eb
  simp only [Int.add_mul, Int.mul_add]
  have q1 : x1 * 4294967296 * (y1 * 4294967296) = x1 * y1 * 18446744073709551616 := by
   rw [Int.mul_assoc, Int.mul_left_comm 4294967296 y1, ← Int.mul_assoc x1 y1, ← Int.mul_assoc]
   rw [Int.mul_assoc (x1 * y1)]; rfl
  have q2 : x1 * 4294967296 * y0 = x1 * y0 * 4294967296 := by rw [Int.mul_assoc, Int.mul_comm 4294967296 y0, ← Int.mul_assoc]
  have q3 : x0 * (y1 * 4294967296) = x0 * y1 * 4294967296 := by rw [← Int.mul_assoc]
  rw [q1, q2, q3]; omega
 unfold YP
 simp only [shr32, SZ]
 have r0 : andI .u64 a 4294967295 = a % 4294967296 := and32 ha ha'
 have r1 : andI .u64 b 4294967295 = b % 4294967296 := and32 hb hb'
 rw [r0, r1]
 rw [and32 (x := (a / 4294967296 * (b % 4294967296) % 18446744073709551616 + a % 4294967296 * (b % 4294967296) % 18446744073709551616 / 4294967296) % 18446744073709551616) (by omega) (by omega)]
 rw [ab]
 generalize a / 4294967296 * (b / 4294967296) = p11 at *
 generalize a / 4294967296 * (b % 4294967296) = p10 at *
 generalize a % 4294967296 * (b / 4294967296) = p01 at *
 generalize a % 4294967296 * (b % 4294967296) = p00 at *
 refine congrArg some (Prod.ext ?_ rfl)
 simp only
 omega
theorem qGA {b c : Int} (hb : 0 ≤ b) (hbc : b ≤ c) (hc : 0 < c) (hc' : c ≤ 1000000000000) : ∃ q, TJ 1000 b c = some (q, 0) ∧ q ≤ 1000 ∧ q = 1000 * b / c := by
 refine ⟨1000 * b / c, ?_, ?_, rfl⟩
 ·unfold TJ YF
  rw [decide_eq_false (by omega), decide_eq_false (show ¬ b < 0 by omega)]
  simp only [SZ, cond_false, Option.bind_some]
  rw [show (1000 : Int) % 18446744073709551616 = 1000 from rfl, Int.emod_eq_of_lt hb (by omega), Int.emod_eq_of_lt (show 0 ≤ c by omega) (by omega)]
  rw [show decide ((1000 : Int) < 0) = false from rfl]
  simp only [cond_false, Option.bind_some]
  rw [qJZ (by omega) (by omega) hb (by omega)]
  have e0 : 1000 * b / 18446744073709551616 = 0 := by omega
  have e1 : 1000 * b % 18446744073709551616 = 1000 * b := by omega
  simp only [Option.bind_some, e0, e1]
  rw [decide_eq_false (by omega), cond_false]
  unfold RT
  have c0 : (c == 0) = false := by rw [beq_eq_false_iff_ne]; omega
  rw [c0, decide_eq_false (by omega), nz_t (by omega), Int.tdiv_eq_ediv_of_nonneg (by omega), SZ]
  have hq : 0 ≤ 1000 * b / c := Int.ediv_nonneg (by omega) (by omega)
  have hq2 : 1000 * b / c ≤ 1000 := Int.ediv_le_of_le_mul hc (by omega)
  simp only [cond_false, cond_true, beq_self_eq_true, Option.bind_some]
  rw [Int.emod_eq_of_lt hq (by omega), decide_eq_false (by omega), cond_false, qN (by omega) (by omega)]
 ·exact Int.ediv_le_of_le_mul hc (by omega)
theorem qD1 {y : Yield} (h : bal y = true) (hb : y.Log ≤ 1000000000000) : ∃ q, QV y = some q ∧ q ≤ 1000 := by
 have h' := bal_t.1 h
 have hy := qGp.1 h'.1
 unfold QV XD
 rw [qBS, h]
 simp only [Option.bind_some, Bool.not_true, cond_false]
 by_cases c : y.Log = 0
 ·have : (y.Log == 0) = true := by simpa using c
  rw [this]; exact ⟨0, rfl, by omega⟩
 ·have : (y.Log == 0) = false := by simpa using c
  obtain ⟨q, e, hq, _⟩ := qGA (b := y.Boards) (c := y.Log) hy.2.1.1 (by omega) (by omega) hb
  rw [this, cond_false, e]
  exact ⟨q, rfl, hq⟩
end Go.SL.Saw

namespace Go.SL.Saw
variable {s : List qF} {d : List Defect} {p : List Product} {pt : Pattern} {w : Saw} {t : Rates}
theorem brd_trm (_hs : VSol s) {trim : Int} (ht : 0 ≤ trim) {c : Yield_Cut} (hc : qDc s c) : brdV s c + trmV s trim c ≤ WW s ⟨c.Box.X, c.Box.Y⟩ := by
 obtain ⟨z1, z2, z3⟩ := hc.z
 unfold brdV trmV qA8 qCR WW
 have m1 := PY 0 (c.Box.Z.A - trim)
 have m2 := imin_or (c.Box.Z.B + trim) (zN s)
 have e1 := qDt s c.Box.X c.Box.Y (A := imax 0 (c.Box.Z.A - trim)) (m := c.Box.Z.A) (B := c.Box.Z.B) (by omega) (by omega)
 have e2 := qDt s c.Box.X c.Box.Y (A := imax 0 (c.Box.Z.A - trim)) (m := c.Box.Z.B) (B := imin (c.Box.Z.B + trim) (zN s)) (by omega) (by omega)
 have e3 := qKo s c.Box.X c.Box.Y (A := imax 0 (c.Box.Z.A - trim)) (B := imin (c.Box.Z.B + trim) (zN s)) (C := 0) (D := zN s) (by omega) (by omega)
 have ez : c.Box.Z = ⟨c.Box.Z.A, c.Box.Z.B⟩ := rfl
 rw [ez]
 simp only
 omega
theorem qIg (hs : VSol s) (hp : yH p = 0) {step fine trim : Int} (hf : 0 ≤ fine) (ht : 0 ≤ trim) : ∀ {lv : List Leaf} {i : Nat}, (∀ x ∈ lv, OS p x) → sumL (fun c => brdV s c + trmV s trim c) (bdsFrom s d p step fine i lv) ≤ sumL (fun x => WW s x.Rect) lv
 | [], _, _ => Int.le_refl _
 | x :: l, i, hg => by
  have ih := qIg hs hp (step := step) hf ht (i := i + 1) (fun y hy => hg y (List.mem_cons_of_mem _ hy))
  show sumL _ (bdOf s d p step fine i x ++ bdsFrom s d p step fine (i + 1) l) ≤ _
  rw [qCi, KO]
  have h1 : sumL (fun c => brdV s c + trmV s trim c) (bdOf s d p step fine i x) ≤ WW s x.Rect := by
   have hl := qCF (s := s) (d := d) (p := p) step fine i x
   match hm : bdOf s d p step fine i x with
   | [] => exact qKS _ _
   | [a] =>
    obtain ⟨g, _, e3, e4, _⟩ := qB4 (s := s) (d := d) hp hf (hg x List.mem_cons_self) (c := a) (by rw [hm]; exact List.mem_cons_self)
    have := brd_trm hs ht g
    rw [e3, e4] at this
    rw [KO, qKQ]
    simp only [Int.add_zero]
    exact this
   | a :: b :: l => rw [hm] at hl; simp at hl
  omega
theorem yC_nn (h : VY s d p pt w t) : 0 ≤ yC s d p pt w t.Fine := by
 have h1 := qIg h.sol h.pr (d := d) (step := w.Step) (trim := w.Trim) h.vw.fine.1 h.vw.trim.1 (i := 0) (OI h)
 rw [qGX] at h1
 have h2 := h.parts.sum (WW s) (qJD s)
 have h3 := qKM h.sol pt.Frame
 unfold yC yB yD CF bds
 omega
theorem bal_y (h : VY s d p pt w t) : bal (qDS s d p pt w t) = true := by
 have h1 := yC_nn h
 have b := (Of_ok h).2
 have bv := qGE h.sol
 have hb := b.nB
 have hd := b.nD
 rw [bal_t, qGp]
 unfold qDS
 simp only
 unfold yC at *
 omega
theorem qIS {ε : Type} (N : Nat) (L : Nat → Int → Option (ε ⊕ Unit)) (hN : N ≤ 1000000000) (h0 : ∀ n i, i < N → L (n + 1) (i : Int) = L n ((i + 1 : Nat) : Int)) (h1 : ∀ n, L (n + 1) (N : Int) = some (.inr ())) : L FUEL 0 = some (.inr ()) := by
 have key : ∀ (k i n : Nat), i + k = N → k < n → L n (i : Int) = some (.inr ()) := by
  intro k
  induction k with
  | zero =>
   intro i n hi hn
   obtain ⟨n, rfl⟩ : ∃ m, n = m + 1 := ⟨n - 1, by omega⟩
   have : i = N := by omega
   subst this; exact h1 n
  | succ k ih =>
   intro i n hi hn
   obtain ⟨n, rfl⟩ : ∃ m, n = m + 1 := ⟨n - 1, by omega⟩
   rw [h0 n i (by omega)]; exact ih (i + 1) n (by omega) (by omega)
 exact key N 0 FUEL (by omega) (by rw [WM]; omega)
theorem qIZ {a b : Box} (h : UJ ⟨a.X, a.Y⟩ ⟨b.X, b.Y⟩) : GG a b = some true := by
 unfold GG jZ
 unfold UJ at h
 simp only at h
 by_cases h1 : a.X.B ≤ b.X.A
 ·rw [decide_eq_true h1]; rfl
 rw [decide_eq_false h1]
 by_cases h2 : b.X.B ≤ a.X.A
 ·rw [decide_eq_true h2]; rfl
 rw [decide_eq_false h2]
 by_cases h3 : a.Y.B ≤ b.Y.A
 ·rw [decide_eq_true h3]; rfl
 rw [decide_eq_false h3]
 by_cases h4 : b.Y.B ≤ a.Y.A
 ·rw [decide_eq_true h4]; rfl
 omega
theorem qJl {α : Type} [Inhabited α] {R : α → α → Prop} {l : List α} (h : l.Pairwise R) {i j : Nat} (hj : j < l.length) (hij : i < j) : R (l.getD i default) (l.getD j default) := by
 have hi : i < l.length := by omega
 have := List.pairwise_iff_getElem.1 h i j hi hj hij
 simpa [List.getD_eq_getElem?_getD, List.getElem?_eq_getElem hi, List.getElem?_eq_getElem hj] using this
theorem qKv {b : List Yield_Cut} (hl : b.length ≤ 1000) (hp : b.Pairwise fun a b => a.Leaf < b.Leaf ∧ UJ ⟨a.Box.X, a.Box.Y⟩ ⟨b.Box.X, b.Box.Y⟩) {x : Nat} (hx : x < b.length) (e : Int) : zP (b, e) (x : Int) FUEL 0 = some (.inr ()) := by
 refine qIS x (fun n i => zP (b, e) (x : Int) n i) (by omega) (fun n i hi => ?_) (fun n => ?_)
 ·obtain ⟨h1, h2⟩ := qJl hp hx hi
  rw [zP, decide_eq_true (by omega), qY (by omega) (by simp only; omega), qY (by omega) (by simp only; omega)]
  simp only [cond_true, Int.toNat_natCast]
  rw [decide_eq_false (by omega), cond_false, qIZ h2]
  unfold JO
  simp only [Option.bind_some, Bool.not_true, cond_false, zJ (show i < 4611686018427387904 by omega)]
 ·rw [zP, decide_eq_false (by omega)]; rfl
theorem qCO (a : Law22_Given) {w : Prop} (_ : w) : KW a = some true := by
 obtain ⟨b, eb, hb⟩ := qIN a
 unfold KW
 rw [eb]
 simp only [Option.bind_some]
 cases b with
 | false => simp only [Bool.not_false, cond_true, SH, Option.bind_some]
 | true =>
  simp only [Bool.not_true, cond_false]
  by_cases hv : VG a
  ·have hl := qHZ hv a.Rates.Fine
   have hbal := bal_y hv
   have bv := qGE hv.sol
   obtain ⟨q, eq, hq⟩ := qD1 hbal (by show volT a.Solid ≤ _; omega)
   have hpt := hv.parts
   have hprs := qGI (s := a.Solid) (d := a.Defects) hv.pr (step := a.Saw.Step) hv.vw.fine.1 (i := 0) (OI hv) hpt.ap
   have bd := (Of_ok hv).2
   rw [of22_ok hv, qHL hv]
   simp only [Option.bind_some, bne_self_eq_false, cond_false]
   rw [qBS, show bal (yG a) = true from hbal, qFa hv.sol]
   have el : ((yG a).Log != volT a.Solid) = false := by show (volT a.Solid != volT a.Solid) = false; simp
   simp only [Option.bind_some, Bool.not_true, cond_false, el]
   rw [show QV (yG a) = some q from eq]
   simp only [Option.bind_some]
   rw [decide_eq_false (by omega)]
   unfold jK
   rw [cond_false]
   have k1 := DZ (bG a) (fun n (q : Int) x => qX a (bG a, 0) n q x) (fun x => (x : Int)) (fun _ c q => q + brdV a.Solid c) (fun q => (.inr q : Bool ⊕ Int)) (fun x q => 0 ≤ q ∧ q ≤ 28800000000 * (x : Int)) (by unfold bG; omega)
    (fun n x q hx hi => by
     have hm := qBj (s := a.Solid) (d := a.Defects) hv.pr (step := a.Saw.Step) hv.vw.fine.1 (i := 0) (OI hv) _ (KJ hx)
     obtain ⟨g, _, y, hy, ex, ey, _⟩ := hm
     have hxl : x < 127 := by unfold bG at hx; omega
     have hx' : (x : Int) < ((bG a).length : Int) := by omega
     obtain ⟨z1, z2, z3⟩ := g.z
     have gw := g.wth
     have sb := (hpt.wl y hy).2.1
     have v := qC4 hv.sol ((bG a).getD x default).Box.X ((bG a).getD x default).Box.Y ((bG a).getD x default).Box.Z
     have L5 := qKv (b := bG a) (by unfold bG; omega) hprs hx 0
     have g' : (bds a.Solid a.Defects a.Products a.Pattern a.Saw a.Rates.Fine).getD x default = (bG a).getD x default := rfl
     unfold bds at g'
     rw [g'] at ex ey z1 z2 z3 gw
     have eb' : brdV a.Solid ((bG a).getD x default) = volS a.Solid ((bG a).getD x default).Box.X ((bG a).getD x default).Box.Y ((bG a).getD x default).Box.Z := rfl
     refine ⟨?_, by rw [eb']; omega⟩
     rw [qX, decide_eq_true (show (x : Int) < _ from hx'), qY (by omega) hx']
     simp only [cond_true, Int.toNat_natCast]
     have s1 : subS ((bG a).getD x default).Box.X a.Pattern.Frame.X := by rw [ex]; exact sb.1
     have s2 : subS ((bG a).getD x default).Box.Y a.Pattern.Frame.Y := by rw [ey]; exact sb.2
     rw [decide_eq_false (show ¬ ((bG a).getD x default).Box.X.A < _ by have := s1.1; omega), decide_eq_false (show ¬ ((bG a).getD x default).Box.X.B > _ by have := s1.2; omega), decide_eq_false (show ¬ ((bG a).getD x default).Box.Y.A < _ by have := s2.1; omega), decide_eq_false (show ¬ ((bG a).getD x default).Box.Y.B > _ by have := s2.2; omega)]
     rw [decide_eq_false (show ¬ ((bG a).getD x default).Box.Z.A < 0 by omega), (qAt a.Solid).1, HW hv.sol]
     simp only [cond_false, Option.bind_some]
     rw [decide_eq_false (show ¬ ((bG a).getD x default).Box.Z.B > zN a.Solid by omega), decide_eq_false (show ¬ ((bG a).getD x default).Worth < 0 by omega)]
     unfold zQ
     simp only [cond_false, Int.toNat_natCast]
     rw [L5]
     simp only [Option.bind_some, Sum.elim_inr, ST hv.sol]
     rw [zJ (by omega), eb', qN (by omega) (by omega)])
    (fun n q _ => by rw [qX]; simp) (i := 0) rfl 0 (by omega)
   rw [OO (brdV a.Solid), Int.zero_add] at k1
   rw [k1.1]
   simp only [Option.bind_some, Sum.elim_inr]
   have ef : (sumL (brdV a.Solid) (bG a) == (yG a).Boards) = true := by
    show (sumL (brdV a.Solid) (bG a) == sumL (brdV a.Solid) (bG a)) = true
    simp
   rw [ef, cond_true, SH]
   rfl
  ·obtain ⟨e, he, ho⟩ := qJ1 hv
   have hbd : ∃ v, ZN a = some v := by
    unfold ZN
    by_cases h2 : VY a.Solid a.Defects a.Products a.Pattern a.Saw ⟨0, 0, a.Rates.Fine⟩
    ·rw [show a.Rates.Fine = (⟨0, 0, a.Rates.Fine⟩ : Rates).Fine from rfl, qAs h2]; exact ⟨_, rfl⟩
    ·obtain ⟨e2, _, e3, _⟩ := qIr h2
     rw [e3]; exact ⟨_, rfl⟩
   obtain ⟨v, ev⟩ := hbd
   rw [ho, ev]
   have : (e != 0) = true := by simpa using he
   simp only [Option.bind_some, this, cond_true, SH]
   rfl
end Go.SL.Saw
