/- Edge's plain mathematics, part 24: what the finished table says. -/
import Derived.Test.YtgpgnlllieekbaaDoorEMa4
set_option linter.unusedVariables false
set_option linter.unusedSimpArgs false
namespace Go.SL
namespace Saw

def bst (a : Line) (p : Nat) : Ch := (tab a (a.Len.toNat + 1) p).1
def stt (a : Line) (p : Nat) : Ch := (tab a (a.Len.toNat + 1) p).2
theorem tab_stable (a : Line) (j : Nat) : ∀ (d k : Nat), a.Len.toNat < j + k → k + d ≤ a.Len.toNat + 1 → tab a (k + d) j = tab a k j
  | 0, k, _, _ => rfl
  | d + 1, k, h1, h2 => by
    rw [show k + (d + 1) = (k + d) + 1 from rfl]
    simp only [tab]
    rw [if_neg (by omega), tab_stable a j d k h1 (by omega)]
theorem tab_fin (a : Line) {j k : Nat} (h1 : a.Len.toNat < j + k) (h2 : k ≤ a.Len.toNat + 1) : tab a (a.Len.toNat + 1) j = tab a k j := by
  have := tab_stable a j (a.Len.toNat + 1 - k) k h1 (by omega)
  rwa [show k + (a.Len.toNat + 1 - k) = a.Len.toNat + 1 by omega] at this
theorem nxt_b {a : Line} (h : VL a) {p i : Nat} (hi : i < a.Sizes.length) (hq : ¬ ((p : Int) + szAt a i > a.Len)) (hn : ¬ (endN a p i : Int) = a.Len) : p < nxtN a (endN a p i) ∧ (nxtN a (endN a p i) : Int) ≤ a.Len ∧ endN a p i ≤ nxtN a (endN a p i) := by
  have s := h.sz i hi
  have kf := h.kerf
  have e : (endN a p i : Int) = p + szAt a i := by unfold endN; unfold szAt at *; omega
  have m := imin_or ((endN a p i : Int) + a.Kerf) a.Len
  have en : (nxtN a (endN a p i) : Int) = imin ((endN a p i : Int) + a.Kerf) a.Len := by unfold nxtN; omega
  unfold szAt at *
  omega
theorem candV_congr {a : Line} (h : VL a) {p i : Nat} (hi : i < a.Sizes.length) (hq : ¬ ((p : Int) + szAt a i > a.Len)) {f g : Nat → Ch} (e : ∀ x, p < x → (x : Int) ≤ a.Len → f x = g x) : candV a f p i = candV a g p i := by
  unfold candV
  by_cases c : (endN a p i : Int) = a.Len
  · rw [if_pos c, if_pos c]
  · have := nxt_b h hi hq c
    rw [if_neg c, if_neg c, e _ this.1 this.2.1]
theorem startS_congr {a : Line} (h : VL a) {p : Nat} {f g : Nat → Ch} (e : ∀ x, p < x → (x : Int) ≤ a.Len → f x = g x) : startS a f p = startS a g p := by
  unfold startS
  refine foldN_congr (fun i _ hi c => ?_)
  unfold startStep
  by_cases c1 : (p : Int) + szAt a i > a.Len ∨ gnAt a i p < 0
  · rw [if_pos c1, if_pos c1]
  · rw [if_neg c1, if_neg c1, candV_congr h (by omega) (by omega) e]
theorem bestS_congr {a : Line} (h : VL a) {p : Nat} (hp : (p : Int) ≤ a.Len) {f g : Nat → Ch} (e : ∀ x, p ≤ x → (x : Int) ≤ a.Len → f x = g x) : bestS a f p = bestS a g p := by
  unfold bestS best0
  rw [e p (Nat.le_refl _) hp]
  refine foldN_congr (fun k _ hk c => ?_)
  have hx := (places_lt h).1 (show k < placesN a p by omega)
  have lo := place_lo h p k
  unfold bestStep
  rw [e _ (by omega) hx]
theorem stt_eq {a : Line} (h : VL a) {p : Nat} (hp : (p : Int) ≤ a.Len) : stt a p = startS a (bst a) p := by
  have ln := h.len
  unfold stt
  rw [tab_fin a (j := p) (k := (a.Len.toNat - p) + 1) (by omega) (by omega)]
  simp only [tab]
  rw [if_pos (by omega), show a.Len.toNat - (a.Len.toNat - p) = p by omega]
  refine startS_congr h (fun x h1 h2 => ?_)
  unfold bst
  rw [tab_fin a (j := x) (k := a.Len.toNat - p) (by omega) (by omega)]
theorem bst_eq {a : Line} (h : VL a) {p : Nat} (hp : (p : Int) ≤ a.Len) : bst a p = bestS a (stt a) p := by
  have ln := h.len
  unfold bst
  rw [tab_fin a (j := p) (k := (a.Len.toNat - p) + 1) (by omega) (by omega)]
  simp only [tab]
  rw [if_pos (by omega), show a.Len.toNat - (a.Len.toNat - p) = p by omega]
  refine bestS_congr h hp (fun x h1 h2 => ?_)
  by_cases c : x = p
  · subst c
    rw [if_pos rfl]
    unfold stt
    rw [tab_fin a (j := x) (k := (a.Len.toNat - x) + 1) (by omega) (by omega)]
    simp only [tab]
    rw [if_pos (by omega), show a.Len.toNat - (a.Len.toNat - x) = x by omega]
  · rw [if_neg c]
    unfold stt
    rw [tab_fin a (j := x) (k := a.Len.toNat - p) (by omega) (by omega)]

/-! ### A start is the best of the pieces that fit there -/
def LeC (c d : Ch) : Prop := isNo c = true ∨ (isNo d = false ∧ c.value ≤ d.value)
theorem LeC.rfl' (c : Ch) : LeC c c := by
  unfold LeC
  cases isNo c with
  | true => exact .inl rfl
  | false => exact .inr ⟨rfl, Int.le_refl _⟩
theorem LeC.trans {c d e : Ch} (h : LeC c d) (k : LeC d e) : LeC c e := by
  unfold LeC at *
  rcases h with h | ⟨h1, h2⟩
  · exact .inl h
  · rcases k with k | ⟨k1, k2⟩
    · rw [k] at h1; cases h1
    · exact .inr ⟨k1, by omega⟩
theorem isNo_mk (i p : Nat) (v : Int) : isNo ⟨⟨(i : Int), (p : Int)⟩, v⟩ = false := by
  unfold isNo
  rw [show (((i : Int)) == (-1 : Int)) = false by rw [beq_eq_false_iff_ne]; omega]; rfl
theorem startStep_le {a : Line} {best : Nat → Ch} {p i : Nat} (c : Ch) : LeC c (startStep a best p i c) := by
  unfold startStep
  split
  · exact LeC.rfl' c
  · cases h1 : isNo c with
    | true => exact .inl h1
    | false =>
      by_cases c2 : candV a best p i > c.value
      · rw [decide_eq_true c2]; exact .inr ⟨isNo_mk _ _ _, by simp only [Bool.false_or, cond_true]; omega⟩
      · rw [decide_eq_false c2]; exact .inr ⟨h1, Int.le_refl _⟩
theorem foldN_LeC {f : Nat → Ch → Ch} (h : ∀ i c, LeC c (f i c)) : ∀ (k x : Nat) (s : Ch), LeC s (foldN f x k s)
  | 0, _, s => LeC.rfl' s
  | k + 1, x, s => by unfold foldN; exact LeC.trans (h x s) (foldN_LeC h k (x + 1) _)
theorem startS_ge {a : Line} {best : Nat → Ch} {p i : Nat} (hi : i < a.Sizes.length) (hq : ¬ ((p : Int) + szAt a i > a.Len)) (hg : ¬ gnAt a i p < 0) : isNo (startS a best p) = false ∧ candV a best p i ≤ (startS a best p).value := by
  have key : ∀ k, i < k → isNo (foldN (startStep a best p) 0 k (noCh 0)) = false ∧ candV a best p i ≤ (foldN (startStep a best p) 0 k (noCh 0)).value := by
    intro k
    induction k with
    | zero => intro h; omega
    | succ k ih =>
      intro h
      rw [foldN_succ, Nat.zero_add]
      by_cases c : i = k
      · subst c
        generalize foldN (startStep a best p) 0 i (noCh 0) = d
        unfold startStep
        rw [if_neg (by omega)]
        cases h1 : isNo d with
        | true => exact ⟨isNo_mk _ _ _, Int.le_refl _⟩
        | false =>
          by_cases c2 : candV a best p i > d.value
          · rw [decide_eq_true c2]; exact ⟨isNo_mk _ _ _, Int.le_refl _⟩
          · rw [decide_eq_false c2]; exact ⟨h1, by simp only [Bool.false_or, cond_false]; omega⟩
      · have k1 := ih (by omega)
        have := startStep_le (a := a) (best := best) (p := p) (i := k) (foldN (startStep a best p) 0 k (noCh 0))
        unfold LeC at this
        rcases this with t | ⟨t1, t2⟩
        · rw [t] at k1; exact absurd k1.1 (by decide)
        · exact ⟨t1, by omega⟩
  exact key _ hi
/-- What a start is. -/
def IsSt (a : Line) (best : Nat → Ch) (p : Nat) (c : Ch) : Prop := c = noCh 0 ∨ ∃ i : Nat, i < a.Sizes.length ∧ ¬ ((p : Int) + szAt a i > a.Len) ∧ ¬ gnAt a i p < 0 ∧ c = ⟨⟨(i : Int), (p : Int)⟩, candV a best p i⟩
theorem startS_is (a : Line) (best : Nat → Ch) (p : Nat) : IsSt a best p (startS a best p) := by
  unfold startS
  refine foldN_inv (P := IsSt a best p) (.inl rfl) (fun i c _ hi hc => ?_)
  unfold startStep
  by_cases c1 : (p : Int) + szAt a i > a.Len ∨ gnAt a i p < 0
  · rw [if_pos c1]; exact hc
  · rw [if_neg c1]
    cases isNo c || decide (candV a best p i > c.value) with
    | false => exact hc
    | true => exact .inr ⟨i, by omega, by omega, by omega, rfl⟩

/-! ### A best choice -/
def restV (a : Line) (p x : Nat) : Int := pre a.Chip (x - a.Kerf.toNat) - pre a.Chip p + pre a.Dust x - pre a.Dust (x - a.Kerf.toNat)
theorem bestStep_def (a : Line) (st : Nat → Ch) (p x : Nat) (c : Ch) : bestStep a st p x c = bif !isNo (st x) && decide ((st x).value + restV a p x > c.value) then ⟨(st x).piece, (st x).value + restV a p x⟩ else c := rfl
theorem bestStep_ge (a : Line) (st : Nat → Ch) (p x : Nat) (c : Ch) : c.value ≤ (bestStep a st p x c).value ∧ (isNo (st x) = false → (st x).value + restV a p x ≤ (bestStep a st p x c).value) := by
  rw [bestStep_def]
  cases isNo (st x) with
  | true => exact ⟨Int.le_refl _, fun h => by cases h⟩
  | false =>
    by_cases c1 : (st x).value + restV a p x > c.value
    · rw [decide_eq_true c1]; simp only [Bool.not_false, Bool.and_self, cond_true]; exact ⟨by omega, fun _ => Int.le_refl _⟩
    · rw [decide_eq_false c1]; simp only [Bool.and_false, cond_false]; exact ⟨Int.le_refl _, fun _ => by omega⟩
theorem foldN_ge {f : Nat → Ch → Ch} (h : ∀ i c, c.value ≤ (f i c).value) : ∀ (k x : Nat) (s : Ch), s.value ≤ (foldN f x k s).value
  | 0, _, s => Int.le_refl _
  | k + 1, x, s => by unfold foldN; exact Int.le_trans (h x s) (foldN_ge h k (x + 1) _)
theorem foldN_ge_at {f : Nat → Ch → Ch} (h : ∀ i c, c.value ≤ (f i c).value) {i : Nat} {v : Int} (hv : ∀ c, v ≤ (f i c).value) : ∀ (k x : Nat) (s : Ch), x ≤ i → i < x + k → v ≤ (foldN f x k s).value
  | 0, x, s, h1, h2 => by omega
  | k + 1, x, s, h1, h2 => by
    unfold foldN
    by_cases c : i = x
    · subst c; exact Int.le_trans (hv s) (foldN_ge h k _ _)
    · exact foldN_ge_at h hv k (x + 1) _ (by omega) (by omega)
theorem best0_ge (a : Line) (st : Nat → Ch) (p : Nat) : pre a.Chip a.Len.toNat - pre a.Chip p ≤ (best0 a st p).value ∧ (isNo (st p) = false → (st p).value ≤ (best0 a st p).value) := by
  unfold best0
  cases isNo (st p) with
  | true => exact ⟨Int.le_refl _, fun h => by cases h⟩
  | false =>
    by_cases c1 : (st p).value > pre a.Chip a.Len.toNat - pre a.Chip p
    · rw [decide_eq_true c1]; simp only [Bool.not_false, Bool.and_self, cond_true]; exact ⟨by omega, fun _ => Int.le_refl _⟩
    · rw [decide_eq_false c1]; simp only [Bool.and_false, cond_false]; exact ⟨Int.le_refl _, fun _ => by unfold noCh; simp only; omega⟩
theorem bestS_ge (a : Line) (st : Nat → Ch) (p : Nat) : pre a.Chip a.Len.toNat - pre a.Chip p ≤ (bestS a st p).value ∧ (isNo (st p) = false → (st p).value ≤ (bestS a st p).value) ∧ ∀ k, k < placesN a p → isNo (st (placeN a p k)) = false → (st (placeN a p k)).value + restV a p (placeN a p k) ≤ (bestS a st p).value := by
  have b := best0_ge a st p
  have m : ∀ k c, c.value ≤ (bestStep a st p (placeN a p k) c).value := fun k c => (bestStep_ge a st p _ c).1
  have g := foldN_ge m (placesN a p) 0 (best0 a st p)
  refine ⟨Int.le_trans b.1 g, fun h => Int.le_trans (b.2 h) g, fun k hk hn => ?_⟩
  exact foldN_ge_at m (fun c => (bestStep_ge a st p (placeN a p k) c).2 hn) (placesN a p) 0 _ (Nat.zero_le _) (by omega)
/-- What a best choice is. -/
def IsBs (a : Line) (st : Nat → Ch) (p : Nat) (c : Ch) : Prop :=
  c = noCh (pre a.Chip a.Len.toNat - pre a.Chip p) ∨ (isNo (st p) = false ∧ c = st p) ∨ ∃ k, k < placesN a p ∧ isNo (st (placeN a p k)) = false ∧ c = ⟨(st (placeN a p k)).piece, (st (placeN a p k)).value + restV a p (placeN a p k)⟩
theorem bestS_is (a : Line) (st : Nat → Ch) (p : Nat) : IsBs a st p (bestS a st p) := by
  unfold bestS
  refine foldN_inv (P := IsBs a st p) ?_ (fun k c _ hk hc => ?_)
  · unfold best0
    cases h1 : isNo (st p) with
    | true => exact .inl rfl
    | false =>
      cases decide ((st p).value > pre a.Chip a.Len.toNat - pre a.Chip p) with
      | true => exact .inr (.inl ⟨h1, rfl⟩)
      | false => exact .inl rfl
  · rw [bestStep_def]
    cases h1 : isNo (st (placeN a p k)) with
    | true => exact hc
    | false =>
      cases decide ((st (placeN a p k)).value + restV a p (placeN a p k) > c.value) with
      | false => exact hc
      | true => exact .inr (.inr ⟨k, by omega, h1, rfl⟩)
end Saw
end Go.SL

namespace Go.SL
namespace Saw

theorem choices_L1_eq {a : Line} (h : VL a) : ∀ (d k n : Nat) (s : List Ch × List Ch), k + d = a.Len.toNat + 1 → d < n → TI a k s →
    ∃ s', cutting_choices_L1 a (sums a.Chip) (sums a.Dust) n s.1 s.2 (a.Len - k) = some s'.1 ∧ TI a (a.Len.toNat + 1) s'
  | 0, k, n, s, hk, hn, t => by
    have ln := h.len
    obtain ⟨n, rfl⟩ : ∃ m, n = m + 1 := ⟨n - 1, by omega⟩
    have e : k = a.Len.toNat + 1 := by omega
    subst e
    refine ⟨s, ?_, t⟩
    rw [cutting_choices_L1, decide_eq_false (by omega)]; rfl
  | d + 1, k, n, s, hk, hn, t => by
    have ln := h.len
    have kf := h.kerf
    have pt := h.pitch
    have cl := h.cl
    have dl := h.dl
    obtain ⟨n, rfl⟩ : ∃ m, n = m + 1 := ⟨n - 1, by omega⟩
    have hkl : (k : Int) ≤ a.Len := by omega
    have ep : a.Len - (k : Int) = ((a.Len.toNat - k : Nat) : Int) := by omega
    have l1 := t.l1
    have l2 := t.l2
    have t' := tabStep_TI h hkl t
    obtain ⟨s', e', r'⟩ := choices_L1_eq h d (k + 1) n (tabStep a k s) (by omega) (by omega) t'
    refine ⟨s', ?_, r'⟩
    rw [← e']
    have f1 : (fun y => s.1.getD y default) = fun y => (tab a k y).1 := funext t.e1
    have hb1 : ∀ x : Nat, a.Len.toNat - k < x → (x : Int) ≤ a.Len → BV a x (s.1.getD x default).value := fun x h1 h2 => by rw [t.e1]; exact (t.b1 x (by omega) h2).1
    have es := start_eq h (p := a.Len.toNat - k) (by omega) l1 hb1
    generalize hv : startS a (fun x => s.1.getD x default) (a.Len.toNat - k) = v at *
    have hb2 : ∀ x : Nat, a.Len.toNat - k < x → (x : Int) ≤ a.Len → BV a x ((s.2.set (a.Len.toNat - k) v).getD x default).value := fun x h1 h2 => by
      rw [getD_set_ne _ (by omega), t.e2]; exact (t.b1 x (by omega) h2).2
    have e4 := choices_L4_eq h (p := a.Len.toNat - k) (by omega) l2 v hb2
    have chp := chip_rest h (p := a.Len.toNat - k) (by omega)
    unfold BV at chp
    rw [cutting_choices_L1, ep]
    rw [es]
    simp only [Option.bind_some, Int.toNat_natCast, isNo_def, cutting_choices_k2, cutting_choices_k3]
    rw [decide_eq_true (by omega), inb_t (show (0 : Int) ≤ ((a.Len.toNat - k : Nat) : Int) by omega) (show ((a.Len.toNat - k : Nat) : Int) < ((s.2.length : Nat) : Int) by omega), inb_t (show (0 : Int) ≤ a.Len by omega) (show a.Len < (((sums a.Chip).length : Nat) : Int) by rw [sums_length]; omega), inb_t (show (0 : Int) ≤ ((a.Len.toNat - k : Nat) : Int) by omega) (show ((a.Len.toNat - k : Nat) : Int) < (((sums a.Chip).length : Nat) : Int) by rw [sums_length]; omega), inb_t (show (0 : Int) ≤ ((a.Len.toNat - k : Nat) : Int) by omega) (show ((a.Len.toNat - k : Nat) : Int) < ((s.1.length : Nat) : Int) by omega)]
    have ew : w64 (w64 (((a.Len.toNat - k : Nat) : Int) + a.Pitch) + a.Kerf) = ((placeN a (a.Len.toNat - k) 0 : Nat) : Int) := by
      rw [w64_id (n := ((a.Len.toNat - k : Nat) : Int) + a.Pitch) (by omega) (by omega), w64_id (by omega) (by omega)]
      unfold placeN
      rw [show (0 + 1) * a.Pitch.toNat = a.Pitch.toNat by simp]
      omega
    have em : w64 (((a.Len.toNat - k : Nat) : Int) - 1) = a.Len - ((k + 1 : Nat) : Int) := by rw [w64_id (by omega) (by omega)]; omega
    simp only [cond_true, ew, em, e4, Option.bind_some, sums_at (c := a.Chip) (show a.Len.toNat ≤ a.Chip.length by omega), sums_at (c := a.Chip) (show a.Len.toNat - k ≤ a.Chip.length by omega), w64_id (n := pre a.Chip a.Len.toNat - pre a.Chip (a.Len.toNat - k)) (by omega) (by omega)]
    have gs : tabStep a k s = (s.1.set (a.Len.toNat - k) (bestS a (fun x => (s.2.set (a.Len.toNat - k) v).getD x default) (a.Len.toNat - k)), s.2.set (a.Len.toNat - k) v) := by
      unfold tabStep; rw [hv]
    rw [gs]
    unfold bestS best0
    simp only [noCh]
    cases isNo ((s.2.set (a.Len.toNat - k) v).getD (a.Len.toNat - k) default) <;> cases decide (((s.2.set (a.Len.toNat - k) v).getD (a.Len.toNat - k) default).value > pre a.Chip a.Len.toNat - pre a.Chip (a.Len.toNat - k)) <;> rfl
theorem TI0 {a : Line} (h : VL a) : TI a 0 (List.replicate (a.Len.toNat + 1) ⟨⟨0, 0⟩, 0⟩, List.replicate (a.Len.toNat + 1) ⟨⟨0, 0⟩, 0⟩) := by
  have ln := h.len
  refine ⟨by simp; omega, by simp; omega, fun j => ?_, fun j => ?_, fun j h1 h2 => by omega⟩ <;>
  · show (List.replicate (a.Len.toNat + 1) (⟨⟨0, 0⟩, 0⟩ : Ch)).getD j default = ⟨⟨0, 0⟩, 0⟩
    by_cases c : j < a.Len.toNat + 1
    · rw [List.getD_eq_getElem?_getD, List.getElem?_replicate, if_pos c]; rfl
    · rw [List.getD_eq_getElem?_getD, List.getElem?_replicate, if_neg c]; rfl
/-- The code's choices. -/
theorem choices_eq {a : Line} (h : VL a) : ∃ c : List Ch, cutting_choices a = some c ∧ (c.length : Int) = a.Len + 1 ∧ ∀ j, c.getD j default = bst a j := by
  have ln := h.len
  have cl := h.cl
  have dl := h.dl
  obtain ⟨s, e, t⟩ := choices_L1_eq h (a.Len.toNat + 1) 0 FUEL _ (by omega) (by rw [FUEL_eq]; omega) (TI0 h)
  refine ⟨s.1, ?_, t.l1, t.e1⟩
  unfold cutting_choices
  rw [sums_eq (by omega) h.cb, sums_eq (by omega) h.db]
  simp only [Option.bind_some]
  rw [w64_id (n := a.Len + 1) (by omega) (by omega), show a.Len + 1 = ((a.Len.toNat + 1 : Nat) : Int) by omega, mkOk_t (by omega) (by omega), Int.toNat_natCast]
  simp only [cond_true]
  rw [show a.Len - ((0 : Nat) : Int) = a.Len by omega] at e
  simp only at e
  rw [e]; rfl

/-! ### The walk along the best choices -/
def walk (a : Line) : Nat → Nat → List Piece
  | 0, _ => []
  | n + 1, p => bif isNo (bst a p) then [] else (bst a p).piece :: (if (endN a (bst a p).piece.At.toNat (bst a p).piece.Size.toNat : Int) = a.Len then [] else walk a n (nxtN a (endN a (bst a p).piece.At.toNat (bst a p).piece.Size.toNat)))
/-- The choice at a place that is a piece: its size and its place. -/
theorem bst_piece {a : Line} (h : VL a) {p : Nat} (hp : (p : Int) ≤ a.Len) (hn : isNo (bst a p) = false) :
    ∃ i q : Nat, (bst a p).piece = ⟨(i : Int), (q : Int)⟩ ∧ i < a.Sizes.length ∧ ¬ ((q : Int) + szAt a i > a.Len) ∧ ¬ gnAt a i q < 0 ∧ (q = p ∨ ∃ k, k < placesN a p ∧ q = placeN a p k) := by
  rw [bst_eq h hp] at hn ⊢
  have st : ∀ q : Nat, (q : Int) ≤ a.Len → isNo (stt a q) = false → ∃ i : Nat, (stt a q).piece = ⟨(i : Int), (q : Int)⟩ ∧ i < a.Sizes.length ∧ ¬ ((q : Int) + szAt a i > a.Len) ∧ ¬ gnAt a i q < 0 := fun q hq hn => by
    rw [stt_eq h hq] at hn ⊢
    rcases startS_is a (bst a) q with e | ⟨i, h1, h2, h3, e⟩
    · rw [e] at hn; cases hn
    · exact ⟨i, by rw [e], h1, h2, h3⟩
  rcases bestS_is a (stt a) p with e | ⟨h1, e⟩ | ⟨k, hk, h1, e⟩
  · rw [e] at hn; cases hn
  · rw [e]
    obtain ⟨i, a1, a2, a3, a4⟩ := st p hp h1
    exact ⟨i, p, a1, a2, a3, a4, .inl rfl⟩
  · rw [e]
    obtain ⟨i, a1, a2, a3, a4⟩ := st _ ((places_lt h).1 hk) h1
    exact ⟨i, _, a1, a2, a3, a4, .inr ⟨k, hk, rfl⟩⟩
theorem walk_step {a : Line} (h : VL a) {p i q : Nat} (hi : i < a.Sizes.length) (hq : ¬ ((q : Int) + szAt a i > a.Len)) (hpq : p ≤ q) (c : ¬ (endN a q i : Int) = a.Len) : p < nxtN a (endN a q i) ∧ (nxtN a (endN a q i) : Int) ≤ a.Len := by
  have := nxt_b h hi hq c
  omega
theorem Best_L1_eq {a : Line} (h : VL a) {c : List Ch} (hl : (c.length : Int) = a.Len + 1) (hc : ∀ j, c.getD j default = bst a j) :
    ∀ (d n m p : Nat) (l : List Piece), a.Len.toNat - p < d → d < n → d < m → (p : Int) ≤ a.Len → l.length + d ≤ 5000 → cutting_Best_L1 a c n l (p : Int) = some (l ++ walk a m p)
  | 0, n, m, p, l, hd, _, _, _, _ => by omega
  | d + 1, n, m, p, l, hd, hn, hm, hp, hll => by
    have ln := h.len
    obtain ⟨n, rfl⟩ : ∃ k, n = k + 1 := ⟨n - 1, by omega⟩
    obtain ⟨m, rfl⟩ : ∃ k, m = k + 1 := ⟨m - 1, by omega⟩
    rw [cutting_Best_L1, decide_eq_true (by omega), inb_t (by omega) (by omega), walk]
    simp only [cond_true, Int.toNat_natCast, hc, isNo_def]
    cases hn' : isNo (bst a p) with
    | true => simp
    | false =>
      obtain ⟨i, q, e, hi, hq, hg, hw⟩ := bst_piece h hp hn'
      have sz := h.sz i hi
      have hpq : p ≤ q := by
        rcases hw with rfl | ⟨k, hk, rfl⟩
        · exact Nat.le_refl _
        · have := place_lo h p k; omega
      clear hw
      have en : (endN a q i : Int) = q + szAt a i := by unfold endN szAt; omega
      simp only [cond_false, e, Int.toNat_natCast]
      rw [room_small (by omega) (by omega), inb_t (by omega) (by omega), w64_id (n := (q : Int) + a.Sizes.getD i default) (by unfold szAt at *; omega) (by unfold szAt at *; omega)]
      simp only [cond_true, cutting_behind]
      rw [show (q : Int) + a.Sizes.getD i default = (endN a q i : Int) by rw [en]; rfl]
      by_cases c1 : (endN a q i : Int) = a.Len
      · rw [if_pos c1, show ((endN a q i : Int) == a.Len) = true by rw [beq_iff_eq]; exact c1]
        simp only [cond_true, Option.bind_some]
        obtain ⟨n, rfl⟩ : ∃ k, n = k + 1 := ⟨n - 1, by omega⟩
        rw [cutting_Best_L1]
        rfl
      · rw [if_neg c1, show ((endN a q i : Int) == a.Len) = false by rw [beq_eq_false_iff_ne]; exact c1]
        have kf := h.kerf
        have ws := walk_step h hi hq hpq c1
        have mm := imin_or ((endN a q i : Int) + a.Kerf) a.Len
        have en2 : imin ((endN a q i : Int) + a.Kerf) a.Len = (nxtN a (endN a q i) : Int) := by unfold nxtN; omega
        simp only [cond_false, Option.bind_some, w64_id (n := (endN a q i : Int) + a.Kerf) (by unfold szAt at *; omega) (by unfold szAt at *; omega), en2]
        rw [Best_L1_eq h hl hc d n m (nxtN a (endN a q i)) _ (by omega) (by omega) (by omega) ws.2 (by simp; omega)]
        simp
/-- The best pieces of a good line, and their value. -/
def bestP (a : Line) : List Piece := walk a 3000 0
theorem cutBest_eq {a : Line} (h : VL a) : cutting_Best a = some (bestP a, (bst a 0).value, 0) := by
  have ln := h.len
  unfold cutting_Best
  obtain ⟨c, e1, e2, e3⟩ := choices_eq h
  rw [cutCheck_ok h, e1]
  simp only [Option.bind_some, bne_self_eq_false, cond_false]
  have := Best_L1_eq h e2 e3 2500 FUEL 3000 0 [] (by omega) (by rw [FUEL_eq]; omega) (by omega) (by omega) (by simp)
  rw [show ((0 : Nat) : Int) = 0 from rfl] at this
  rw [this, inb_t (by omega) (by omega)]
  simp only [Option.bind_some, cond_true, show (0 : Int).toNat = 0 from rfl, e3]
  rfl
end Saw
end Go.SL

namespace Go.SL
namespace Saw

abbrev Pt := Span × List Node
def ndC (l : List Pt) : Nat := (l.map (fun x => 3 + x.2.length)).sum
/-- The nodes that cut parts out of a frame, from an edge on, without the waste at the end; and whether the end is reached. -/
def rowB (axis kerf B : Int) : Int → List Pt → List Node × Bool
  | _, [] => ([], false)
  | e, x :: r =>
    let p : List Node := if x.1.A > e then [⟨axis, x.1.A - kerf⟩, ⟨0, 0⟩] else []
    if x.1.B < B then (p ++ ⟨axis, x.1.B⟩ :: x.2 ++ (rowB axis kerf B (imin (x.1.B + kerf) B) r).1, (rowB axis kerf B (imin (x.1.B + kerf) B) r).2) else (p ++ x.2, true)
theorem rowB_cons (axis kerf B e : Int) (x : Pt) (r : List Pt) : rowB axis kerf B e (x :: r) = if x.1.B < B then ((if x.1.A > e then [⟨axis, x.1.A - kerf⟩, ⟨0, 0⟩] else []) ++ ⟨axis, x.1.B⟩ :: x.2 ++ (rowB axis kerf B (imin (x.1.B + kerf) B) r).1, (rowB axis kerf B (imin (x.1.B + kerf) B) r).2) else ((if x.1.A > e then [⟨axis, x.1.A - kerf⟩, ⟨0, 0⟩] else []) ++ x.2, true) := rfl
def goodL (kerf B : Int) : Int → List Pt → Prop
  | _, [] => True
  | e, x :: r => x.1.A < x.1.B ∧ (x.1.A = e ∨ e + kerf + 1 ≤ x.1.A) ∧ x.1.B ≤ B ∧ (if x.1.B < B then goodL kerf B (imin (x.1.B + kerf) B) r else r = [])
theorem add_eq {l nodes T : List Node} {c : Int} (hc : c = T.length) (hn : T.length ≤ 127 → nodes = T) (hb : T.length + l.length ≤ 1000000000) :
    ∃ nodes', pattern_Row_1_s1 l c nodes = some (((T ++ l).length : Int), nodes') ∧ ((T ++ l).length ≤ 127 → nodes' = T ++ l) := by
  unfold pattern_Row_1_s1
  subst hc
  rw [w64_id (n := (T.length : Int) + ((l.length : Nat) : Int)) (by omega) (by omega), List.length_append]
  by_cases c : T.length + l.length ≤ 127
  · have e := hn (by omega)
    subst e
    rw [decide_eq_true (by omega), room_small (by omega) (by omega)]
    exact ⟨nodes ++ l, by simp, fun _ => rfl⟩
  · rw [decide_eq_false (by omega)]
    exact ⟨nodes, by simp, fun h => absurd h c⟩
theorem Row_L3_eq {axis kerf : Int} (hk : 0 ≤ kerf ∧ kerf ≤ 20) {s : Span} (hs : -600 ≤ s.A ∧ s.B ≤ 600) {L : List Pt} (hL : L.length ≤ 1000000) :
    ∀ (rest : List Pt) (i n : Nat) (e : Int) (nodes T : List Node), L.drop i = rest → i ≤ L.length → rest.length < n → -600 ≤ e → e ≤ 600 → goodL kerf s.B e rest → (T.length ≤ 127 → nodes = T) → T.length + ndC rest ≤ 1000000000 →
    ∃ nodes', pattern_Row_L3 axis kerf (L.map Prod.fst) (L.map Prod.snd) s n e false (i : Int) nodes (T.length : Int) = some (.inr ((rowB axis kerf s.B e rest).2, nodes', ((T ++ (rowB axis kerf s.B e rest).1).length : Int))) ∧ ((T ++ (rowB axis kerf s.B e rest).1).length ≤ 127 → nodes' = T ++ (rowB axis kerf s.B e rest).1)
  | [], i, n, e, nodes, T, hd, hi, hn, he1, he2, hg, hT, hb => by
    obtain ⟨n, rfl⟩ : ∃ m, n = m + 1 := ⟨n - 1, by omega⟩
    have hi' : i = L.length := by have := List.drop_eq_nil_iff.1 hd; omega
    refine ⟨nodes, ?_, fun h => ?_⟩
    · rw [pattern_Row_L3, List.length_map, decide_eq_false (by omega)]
      simp [rowB]
    · simp [rowB] at h ⊢; exact hT h
  | x :: r, i, n, e, nodes, T, hd, hi, hn, he1, he2, hg, hT, hb => by
    obtain ⟨n, rfl⟩ : ∃ m, n = m + 1 := ⟨n - 1, by omega⟩
    have hi' : i < L.length := by
      by_cases c : i < L.length
      · exact c
      · rw [List.drop_eq_nil_of_le (by omega)] at hd; cases hd
    have hx : L.getD i default = x := by rw [drop_getD L i hi'] at hd; exact (List.cons.inj hd).1
    have hr : L.drop (i + 1) = r := by rw [drop_getD L i hi'] at hd; exact (List.cons.inj hd).2
    have hxa : (L.map Prod.fst).getD i default = x.1 := by rw [getD_map'' Prod.fst hi', hx]
    have hxb : (L.map Prod.snd).getD i default = x.2 := by rw [getD_map'' Prod.snd hi', hx]
    obtain ⟨g1, g2, g3, g4⟩ := hg
    have hc : ndC (x :: r) = 3 + x.2.length + ndC r := by simp [ndC]
    rw [hc] at hb
    rw [pattern_Row_L3, List.length_map, decide_eq_true (by omega), inb_t (by omega) (by omega)]
    simp only [cond_true, cond_false, Int.toNat_natCast, hxa, pattern_Row_k4]
    rw [decide_eq_false (show ¬ x.1.A ≥ x.1.B by omega), w64_id (n := e + kerf) (by omega) (by omega), w64_id (n := e + kerf + 1) (by omega) (by omega), decide_eq_false (show ¬ x.1.B > s.B by omega)]
    simp only [cond_false]
    have gA : ∀ {β : Type} (u v : β), (bif x.1.A != e then (bif decide (x.1.A < e + kerf + 1) then u else v) else (bif false then u else v)) = v := fun u v => by
      by_cases c : x.1.A = e
      · rw [show (x.1.A != e) = false by rw [bne_eq_false_iff_eq]; exact c]; rfl
      · rw [show (x.1.A != e) = true by rw [bne_iff_ne]; exact c, decide_eq_false (show ¬ x.1.A < e + kerf + 1 by omega)]; rfl
    simp only [cond_false] at gA
    rw [gA]
    -- behind the first nodes
    have key : ∀ (T2 nodes2 : List Node), (T2.length ≤ 127 → nodes2 = T2) → T2.length + 1 + x.2.length + ndC r ≤ 1000000000 → ∃ nodes', pattern_Row_k5 axis kerf (L.map Prod.fst) (L.map Prod.snd) s e false (i : Int) (pattern_Row_L3 axis kerf (L.map Prod.fst) (L.map Prod.snd) s n) nodes2 (T2.length : Int)
        = some (.inr ((if x.1.B < s.B then (rowB axis kerf s.B (imin (x.1.B + kerf) s.B) r).2 else true), nodes', ((T2 ++ (if x.1.B < s.B then (⟨axis, x.1.B⟩ :: x.2 ++ (rowB axis kerf s.B (imin (x.1.B + kerf) s.B) r).1) else x.2)).length : Int))) ∧ ((T2 ++ (if x.1.B < s.B then (⟨axis, x.1.B⟩ :: x.2 ++ (rowB axis kerf s.B (imin (x.1.B + kerf) s.B) r).1) else x.2)).length ≤ 127 → nodes' = T2 ++ (if x.1.B < s.B then (⟨axis, x.1.B⟩ :: x.2 ++ (rowB axis kerf s.B (imin (x.1.B + kerf) s.B) r).1) else x.2)) := by
      intro T2 nodes2 h2 hb2
      unfold pattern_Row_k5 pattern_Row_k6
      simp only [Int.toNat_natCast, hxa, hxb, List.length_map, inc_eq (show i < 4611686018427387904 by omega)]
      rw [inb_t (show (0 : Int) ≤ (i : Int) by omega) (show (i : Int) < ((L.length : Nat) : Int) by omega)]
      simp only [cond_true]
      by_cases c : x.1.B < s.B
      · rw [decide_eq_true c, if_pos c, if_pos c]
        rw [if_pos c] at g4
        simp only [cond_true]
        obtain ⟨m1, q1, q2⟩ := add_eq (l := [(⟨axis, x.1.B⟩ : Node)]) (nodes := nodes2) (T := T2) rfl h2 (by simp; omega)
        rw [q1]
        simp only [Option.bind_some]
        obtain ⟨m2, r1, r2⟩ := add_eq (l := x.2) (nodes := m1) (T := T2 ++ [(⟨axis, x.1.B⟩ : Node)]) rfl q2 (by simp; omega)
        rw [r1]
        simp only [Option.bind_some]
        have mi := imin_or (x.1.B + kerf) s.B
        rw [w64_id (n := x.1.B + kerf) (by omega) (by omega)]
        obtain ⟨m3, s1, s2⟩ := Row_L3_eq hk hs hL r (i + 1) n (imin (x.1.B + kerf) s.B) m2 (T2 ++ [(⟨axis, x.1.B⟩ : Node)] ++ x.2) hr (by omega) (by simp at hn; omega) (by omega) (by omega) g4 r2 (by simp; omega)
        refine ⟨m3, ?_, ?_⟩
        · rw [s1]; simp
        · intro hh
          have : T2 ++ (⟨axis, x.1.B⟩ :: x.2 ++ (rowB axis kerf s.B (imin (x.1.B + kerf) s.B) r).1) = T2 ++ [(⟨axis, x.1.B⟩ : Node)] ++ x.2 ++ (rowB axis kerf s.B (imin (x.1.B + kerf) s.B) r).1 := by simp
          rw [this] at hh ⊢
          exact s2 hh
      · rw [decide_eq_false c, if_neg c, if_neg c]
        rw [if_neg c] at g4
        subst g4
        simp only [cond_false]
        obtain ⟨m2, r1, r2⟩ := add_eq (l := x.2) (nodes := nodes2) (T := T2) rfl h2 (by omega)
        rw [r1]
        simp only [Option.bind_some]
        obtain ⟨n, rfl⟩ : ∃ m, n = m + 1 := ⟨n - 1, by simp at hn; omega⟩
        have hi2 : i + 1 = L.length := by have := List.drop_eq_nil_iff.1 hr; omega
        refine ⟨m2, ?_, r2⟩
        rw [pattern_Row_L3, List.length_map, decide_eq_false (by omega)]
        rfl
    by_cases c : x.1.A > e
    · rw [decide_eq_true c, w64_id (n := x.1.A - kerf) (by omega) (by omega)]
      simp only [cond_true]
      obtain ⟨m1, q1, q2⟩ := add_eq (l := [(⟨axis, x.1.A - kerf⟩ : Node), ⟨0, 0⟩]) (nodes := nodes) (T := T) rfl hT (by simp; omega)
      rw [q1]
      simp only [Option.bind_some]
      obtain ⟨m2, k1, k2⟩ := key (T ++ [(⟨axis, x.1.A - kerf⟩ : Node), ⟨0, 0⟩]) m1 q2 (by simp; omega)
      refine ⟨m2, ?_, ?_⟩
      · rw [k1]
        rw [rowB_cons]
        simp only [if_pos c]
        split <;> simp
      · intro hh
        rw [rowB_cons] at hh ⊢
        simp only [if_pos c] at hh ⊢
        by_cases c2 : x.1.B < s.B
        · rw [if_pos c2] at k2
          simp only [if_pos c2] at hh ⊢
          rw [k2 (by simpa using hh)]; simp
        · rw [if_neg c2] at k2
          simp only [if_neg c2] at hh ⊢
          rw [k2 (by simpa using hh)]; simp
    · rw [decide_eq_false c]
      simp only [cond_false]
      obtain ⟨m2, k1, k2⟩ := key T nodes hT (by omega)
      refine ⟨m2, ?_, ?_⟩
      · rw [k1]
        rw [rowB_cons]
        simp only [if_neg c]
        split <;> simp
      · intro hh
        rw [rowB_cons] at hh ⊢
        simp only [if_neg c] at hh ⊢
        by_cases c2 : x.1.B < s.B
        · rw [if_pos c2] at k2
          simp only [if_pos c2] at hh ⊢
          rw [k2 (by simpa using hh)]; simp
        · rw [if_neg c2] at k2
          simp only [if_neg c2] at hh ⊢
          rw [k2 (by simpa using hh)]; simp
where
  getD_map'' {α β : Type} [Inhabited α] [Inhabited β] (f : α → β) {l : List α} {i : Nat} (h : i < l.length) : (l.map f).getD i default = f (l.getD i default) := by
    rw [List.getD_eq_getElem?_getD, List.getElem?_map, List.getD_eq_getElem?_getD, List.getElem?_eq_getElem h]; rfl
/-- All nodes of a row. -/
def rowN (axis kerf : Int) (s : Span) (L : List Pt) : List Node := (rowB axis kerf s.B s.A L).1 ++ (if (rowB axis kerf s.B s.A L).2 then [] else [⟨0, 0⟩])
def rowR (l : List Node) : List Node × Int := if l.length ≤ 127 then (l, 0) else ([], 4)
theorem frame_ok {r : Rect} (h : VR r) : pattern_isFrame r = some true := by
  unfold VR at h
  unfold pattern_isFrame
  rw [loop_none 2 (pattern_isFrame_L1 r) (by omega) (fun n i hi => ?_) (fun n => ?_)]
  · rfl
  · rw [pattern_isFrame_L1, decide_eq_true (by omega), inb_t (by omega) (by omega)]
    simp only [cond_true, Int.toNat_natCast, pattern_isFrame_k2, inc_eq (show i < 4611686018427387904 by omega)]
    match i, hi with
    | 0, _ => rw [decide_eq_false (show ¬ ([r.X.A, r.X.B, r.Y.A, r.Y.B] : List Int).getD (0 * 2 + 0) 0 < -600 from fun q => by have : r.X.A < -600 := q; omega), decide_eq_false (show ¬ ([r.X.A, r.X.B, r.Y.A, r.Y.B] : List Int).getD (0 * 2 + 1) 0 > 600 from fun q => by have : r.X.B > 600 := q; omega), decide_eq_false (show ¬ ([r.X.A, r.X.B, r.Y.A, r.Y.B] : List Int).getD (0 * 2 + 0) 0 ≥ ([r.X.A, r.X.B, r.Y.A, r.Y.B] : List Int).getD (0 * 2 + 1) 0 from fun q => by have : r.X.A ≥ r.X.B := q; omega)]; rfl
    | 1, _ => rw [decide_eq_false (show ¬ ([r.X.A, r.X.B, r.Y.A, r.Y.B] : List Int).getD (1 * 2 + 0) 0 < -600 from fun q => by have : r.Y.A < -600 := q; omega), decide_eq_false (show ¬ ([r.X.A, r.X.B, r.Y.A, r.Y.B] : List Int).getD (1 * 2 + 1) 0 > 600 from fun q => by have : r.Y.B > 600 := q; omega), decide_eq_false (show ¬ ([r.X.A, r.X.B, r.Y.A, r.Y.B] : List Int).getD (1 * 2 + 0) 0 ≥ ([r.X.A, r.X.B, r.Y.A, r.Y.B] : List Int).getD (1 * 2 + 1) 0 from fun q => by have : r.Y.A ≥ r.Y.B := q; omega)]; rfl
  · rw [pattern_isFrame_L1, decide_eq_false (by omega)]; rfl
theorem rowB_len (axis kerf B : Int) : ∀ (L : List Pt) (e : Int), (rowB axis kerf B e L).1.length ≤ ndC L
  | [], _ => by simp [rowB, ndC]
  | x :: r, e => by
    have ih := rowB_len axis kerf B r (imin (x.1.B + kerf) B)
    have hc : ndC (x :: r) = 3 + x.2.length + ndC r := by simp [ndC]
    rw [hc]
    unfold rowB
    simp only
    split
    · split <;> simp <;> omega
    · split <;> simp <;> omega
def axS (r : Rect) (axis : Int) : Span := if axis = 2 then r.X else r.Y
theorem Row_eq {r : Rect} (hr : VR r) {axis kerf : Int} (ha : axis = 2 ∨ axis = 3) (hk : 0 ≤ kerf ∧ kerf ≤ 20) {L : List Pt} (hL : L.length ≤ 1000000) (hg : goodL kerf (axS r axis).B (axS r axis).A L) (hb : ndC L + 1 ≤ 1000000000) :
    pattern_Row r axis kerf (L.map Prod.fst) (L.map Prod.snd) = some (rowR (rowN axis kerf (axS r axis) L)) := by
  have hs : -600 ≤ (axS r axis).A ∧ (axS r axis).B ≤ 600 ∧ (axS r axis).A < (axS r axis).B := by
    unfold VR at hr
    unfold axS
    split <;> omega
  have e1 : pattern_isRip axis = some true := by rcases ha with rfl | rfl <;> rfl
  have e2 : pattern_along r axis = some (axS r axis) := by rcases ha with rfl | rfl <;> rfl
  unfold pattern_Row pattern_Row_k1 pattern_Row_k2
  rw [e1, frame_ok hr, e2]
  simp only [Option.bind_some, Bool.not_true, cond_false, List.length_map, bne_self_eq_false]
  rw [decide_eq_false (show ¬ kerf < 0 by omega), decide_eq_false (show ¬ kerf > 20 by omega)]
  simp only [cond_false]
  obtain ⟨m, k1, k2⟩ := Row_L3_eq (axis := axis) hk ⟨hs.1, hs.2.1⟩ hL L 0 FUEL (axS r axis).A [] [] (by simp) (by omega) (by rw [FUEL_eq]; omega) hs.1 (by omega) hg (fun _ => rfl) (by simp; omega)
  rw [show ((0 : Nat) : Int) = 0 from rfl] at k1
  rw [show (([] : List Node).length : Int) = 0 from rfl] at k1
  rw [k1]
  simp only [Option.bind_some, Sum.elim_inr, List.nil_append] at k2 ⊢
  unfold rowN
  have bl := rowB_len axis kerf (axS r axis).B L (axS r axis).A
  generalize rowB axis kerf (axS r axis).B (axS r axis).A L = B at *
  obtain ⟨b1, b2⟩ := B
  simp only at k2 bl ⊢
  have fin : ∀ (T nodes : List Node), (T.length ≤ 127 → nodes = T) → pattern_Row_k7 (T.length : Int) nodes = some (rowR T) := fun T nodes h => by
    unfold pattern_Row_k7 rowR
    by_cases c : T.length ≤ 127
    · rw [decide_eq_false (by omega), if_pos c, h c]; rfl
    · rw [decide_eq_true (by omega), if_neg c]; rfl
  cases b2 with
  | true =>
    simp only [Bool.not_true, cond_false, if_true, List.append_nil]
    exact fin _ _ k2
  | false =>
    simp only [Bool.not_false, cond_true, Bool.false_eq_true, if_false]
    obtain ⟨m1, q1, q2⟩ := add_eq (l := [(⟨0, 0⟩ : Node)]) (nodes := m) (T := b1) rfl k2 (by simp; omega)
    rw [q1]
    exact fin _ _ q2
end Saw
end Go.SL

namespace Go.SL
namespace Saw

theorem walk_mem {a : Line} (h : VL a) : ∀ (m p : Nat), (p : Int) ≤ a.Len → ∀ x ∈ walk a m p, ∃ i q : Nat, x = ⟨(i : Int), (q : Int)⟩ ∧ i < a.Sizes.length ∧ ¬ ((q : Int) + szAt a i > a.Len) ∧ ¬ gnAt a i q < 0
  | 0, _, _, x, hx => by cases hx
  | m + 1, p, hp, x, hx => by
    rw [walk] at hx
    cases hn : isNo (bst a p) with
    | true => rw [hn] at hx; cases hx
    | false =>
      obtain ⟨i, q, e, hi, hq, hg, hw⟩ := bst_piece h hp hn
      rw [hn, e] at hx
      simp only [cond_false, Int.toNat_natCast, List.mem_cons] at hx
      rcases hx with rfl | hx
      · exact ⟨i, q, rfl, hi, hq, hg⟩
      · have hpq : p ≤ q := by
          rcases hw with rfl | ⟨k, hk, rfl⟩
          · exact Nat.le_refl _
          · have := place_lo h p k; omega
        by_cases c : (endN a q i : Int) = a.Len
        · rw [if_pos c] at hx; cases hx
        · rw [if_neg c] at hx
          exact walk_mem h m _ (walk_step h hi hq hpq c).2 x hx
theorem walk_len (a : Line) : ∀ (m p : Nat), (walk a m p).length ≤ m
  | 0, _ => by simp [walk]
  | m + 1, p => by
    rw [walk]
    cases isNo (bst a p) with
    | true => simp
    | false =>
      simp only [cond_false, List.length_cons]
      split
      · simp
      · have := walk_len a m (nxtN a (endN a (bst a p).piece.At.toNat (bst a p).piece.Size.toNat)); omega
theorem goodL_cons {kerf B e : Int} {x : Pt} {r : List Pt} (h1 : x.1.A < x.1.B) (h2 : x.1.A = e ∨ e + kerf + 1 ≤ x.1.A) (h3 : x.1.B ≤ B) (h4 : (x.1.B < B ∧ goodL kerf B (imin (x.1.B + kerf) B) r) ∨ (x.1.B = B ∧ r = [])) : goodL kerf B e (x :: r) := by
  unfold goodL
  refine ⟨h1, h2, h3, ?_⟩
  rcases h4 with ⟨a, b⟩ | ⟨a, b⟩
  · rw [if_pos a]; exact b
  · rw [if_neg (by omega)]; exact b
/-- The parts of a row that pieces of a line are. -/
def ptOf (a : Line) (A : Int) (g : Piece → List Node) (x : Piece) : Pt := (⟨A + x.At, A + (x.At + a.Sizes.getD x.Size.toNat default)⟩, g x)
theorem walk_good {a : Line} (h : VL a) (A : Int) (g : Piece → List Node) : ∀ (m p : Nat), (p : Int) ≤ a.Len → goodL a.Kerf (A + a.Len) (A + p) ((walk a m p).map (ptOf a A g))
  | 0, _, _ => trivial
  | m + 1, p, hp => by
    rw [walk]
    cases hn : isNo (bst a p) with
    | true => exact trivial
    | false =>
      obtain ⟨i, q, e, hi, hq, hg, hw⟩ := bst_piece h hp hn
      have sz := h.sz i hi
      have pt := h.pitch
      have kf := h.kerf
      have hpq : q = p ∨ p + a.Kerf.toNat + 1 ≤ q := by
        rcases hw with rfl | ⟨k, hk, rfl⟩
        · exact .inl rfl
        · exact .inr (place_lo h p k)
      clear hw
      have en : (endN a q i : Int) = q + szAt a i := by unfold endN szAt; omega
      rw [e]
      simp only [cond_false, Int.toNat_natCast, List.map_cons]
      unfold szAt at en hq
      refine goodL_cons (show A + (q : Int) < A + ((q : Int) + a.Sizes.getD ((i : Int)).toNat default) by rw [Int.toNat_natCast]; omega) (show A + (q : Int) = A + p ∨ A + (p : Int) + a.Kerf + 1 ≤ A + q by omega) (show A + ((q : Int) + a.Sizes.getD ((i : Int)).toNat default) ≤ A + a.Len by rw [Int.toNat_natCast]; omega) ?_
      show (A + ((q : Int) + a.Sizes.getD ((i : Int)).toNat default) < A + a.Len ∧ goodL a.Kerf (A + a.Len) (imin (A + ((q : Int) + a.Sizes.getD ((i : Int)).toNat default) + a.Kerf) (A + a.Len)) _) ∨ (A + ((q : Int) + a.Sizes.getD ((i : Int)).toNat default) = A + a.Len ∧ _)
      rw [Int.toNat_natCast]
      by_cases c : (endN a q i : Int) = a.Len
      · rw [if_pos c]; exact .inr ⟨by omega, rfl⟩
      · rw [if_neg c]
        have ws := walk_step h (p := p) hi (by unfold szAt; omega) (by omega) c
        have mm := imin_or ((endN a q i : Int) + a.Kerf) a.Len
        have en2 : (nxtN a (endN a q i) : Int) = imin ((endN a q i : Int) + a.Kerf) a.Len := by unfold nxtN; omega
        have m2 := imin_or (A + ((q : Int) + a.Sizes.getD i default) + a.Kerf) (A + a.Len)
        rw [show imin (A + ((q : Int) + a.Sizes.getD i default) + a.Kerf) (A + a.Len) = A + (nxtN a (endN a q i) : Int) by omega]
        exact .inl ⟨by omega, walk_good h A g m _ ws.2⟩
theorem ndC_one (a : Line) (A : Int) (g : Piece → List Node) (M : Nat) : ∀ (l : List Piece), (∀ x ∈ l, (g x).length ≤ M) → ndC (l.map (ptOf a A g)) ≤ (3 + M) * l.length
  | [], _ => by simp [ndC]
  | x :: l, h => by
    have := ndC_one a A g M l (fun y hy => h y (by simp [hy]))
    have hx := h x (by simp)
    unfold ndC at *
    simp only [List.map_cons, List.sum_cons, List.length_cons, ptOf] at *
    rw [Nat.mul_succ]; omega
/-! ### The strip -/
def bdN (ps : List Product) (z : Int) (x : Piece) : List Node := [⟨1, (sizes ps z).2.getD x.Size.toNat default⟩]
def edgePts (ps : List Product) (r : Rect) (a : Line) : List Pt := (bestP a).map (ptOf a r.X.A (bdN ps (r.Y.B - r.Y.A)))
/-- What the best of a strip with a good line is. -/
def edgeB (ps : List Product) (r : Rect) (a : Line) : List Node × Int × Int := if (rowN 2 a.Kerf r.X (edgePts ps r a)).length ≤ 127 then (rowN 2 a.Kerf r.X (edgePts ps r a), (bst a 0).value, 0) else ([], 0, 4)
open Classical in
noncomputable def edgeR (l : List Slice) (ds : List Defect) (ps : List Product) (r : Rect) (w : Saw) (t : Rates) : List Node × Int × Int := if chkE l ds ps r w t = 0 then edgeB ps r (lineS l ds ps r w t) else ([], 0, chkE l ds ps r w t)
theorem clone_node {l : List Node} (h : l.length ≤ 1000000) : slices_Clone_SNode l = some l := by
  unfold slices_Clone_SNode
  rw [room_small h (by omega)]; rfl
theorem sizes_len2 {ps : List Product} (z : Int) : (sizes ps z).2.length = (sizes ps z).1.length := by
  unfold sizes
  split
  · rfl
  · have : ∀ k, (foldN (sizStep ps z) 0 k ([], [])).2.length = (foldN (sizStep ps z) 0 k ([], [])).1.length := by
      intro k
      induction k with
      | zero => rfl
      | succ k ih =>
        rw [foldN_succ]
        generalize foldN (sizStep ps z) 0 k ([], []) = s at *
        unfold sizStep
        cases (green (ps.getD (0 + k) default)).1 == z <;> cases (green (ps.getD (0 + k) default)).2 == z <;> simp [ih]
    exact this _
theorem edgeBest_eq (l : List Slice) (ds : List Defect) (ps : List Product) (r : Rect) (w : Saw) (t : Rates) : edge_Best l ds ps r w t = some (edgeR l ds ps r w t) := by
  unfold edge_Best edgeR
  rw [Line_eq]
  unfold lineR
  by_cases c : chkE l ds ps r w t = 0
  · have h := chkE_zero.1 c
    have hr := h.vr
    have hr' := hr
    unfold VR at hr'
    have vl := lineS_VL h
    rw [if_pos c, if_pos c]
    have sl := sizes_len ps (r.Y.B - r.Y.A)
    have sl2 := sizes_len2 (ps := ps) (r.Y.B - r.Y.A)
    have kf := vl.kerf
    have hsz : (lineS l ds ps r w t).Sizes = (sizes ps (r.Y.B - r.Y.A)).1 := rfl
    have hlen : (lineS l ds ps r w t).Len = r.X.B - r.X.A := rfl
    simp only [Option.bind_some, bne_self_eq_false, cond_false]
    rw [show (Line.mk (lineS l ds ps r w t).Len (lineS l ds ps r w t).Kerf (lineS l ds ps r w t).Pitch (lineS l ds ps r w t).Sizes (lineS l ds ps r w t).Gain (lineS l ds ps r w t).Chip (lineS l ds ps r w t).Dust) = lineS l ds ps r w t from rfl, cutBest_eq vl]
    simp only [Option.bind_some, bne_self_eq_false, cond_false]
    rw [w64_id (n := r.Y.B - r.Y.A) (by omega) (by omega), (Sizes_eq ps _).1]
    simp only [Option.bind_some]
    generalize ha : lineS l ds ps r w t = a at *
    have ek : w.Kerf = a.Kerf := by rw [← ha]; rfl
    have bl : (bestP a).length ≤ 3000 := walk_len a 3000 0
    have bm := walk_mem vl 3000 0 (by have := vl.len; omega)
    have k := loop_foldN (bestP a).length (fun n (s : List Span × List (List Node)) x => edge_Best_L1 r (bestP a, (bst a 0).value, 0) (sizes ps (r.Y.B - r.Y.A)) n s.1 s.2 x)
      (fun j s => (s.1 ++ [(ptOf a r.X.A (bdN ps (r.Y.B - r.Y.A)) ((bestP a).getD j default)).1], s.2 ++ [(ptOf a r.X.A (bdN ps (r.Y.B - r.Y.A)) ((bestP a).getD j default)).2])) (fun s => s)
      (fun j s => s.1 = ((bestP a).take j).map (fun x => (ptOf a r.X.A (bdN ps (r.Y.B - r.Y.A)) x).1) ∧ s.2 = ((bestP a).take j).map (fun x => (ptOf a r.X.A (bdN ps (r.Y.B - r.Y.A)) x).2)) 0 (by omega) (by omega)
      (fun n j s hj hs => by
        obtain ⟨s1, s2⟩ := s
        obtain ⟨e1, e2⟩ := hs
        simp only at e1 e2
        have tk : (bestP a).take (j + 1) = (bestP a).take j ++ [(bestP a).getD j default] := by rw [List.take_add_one, List.getD_eq_getElem?_getD, List.getElem?_eq_getElem hj]; rfl
        refine ⟨?_, by simp only [e1, tk, List.map_append]; rfl, by simp only [e2, tk, List.map_append]; rfl⟩
        obtain ⟨i, q, ex, hi, hq, hg⟩ := bm _ (getD_mem' hj)
        have sz := vl.sz i hi
        rw [hsz] at sz hi
        have hq' : (q : Int) + (sizes ps (r.Y.B - r.Y.A)).1.getD i default ≤ r.X.B - r.X.A := by
          unfold szAt at hq; rw [hsz, hlen] at hq; omega
        simp only
        rw [edge_Best_L1]
        simp only [Int.toNat_natCast, show (bestP a).getD j default = ⟨(i : Int), (q : Int)⟩ from ex]
        rw [decide_eq_true (by omega), inb_t (by omega) (by omega), inb_t (by omega) (by omega), inb_t (by omega) (by omega), w64_id (n := (q : Int) + _) (by omega) (by omega), part_eq hr (by omega) (by omega), room_small (by rw [e1]; simp; omega) (by omega)]
        simp only [cond_true, Option.bind_some, edge_collect_s1, inc_eq (show j < 4611686018427387904 by omega)]
        rw [clone_node (by simp)]
        simp only [Option.bind_some]
        rw [room_small (by rw [e2]; simp; omega) (by omega)]
        simp only [cond_true, Option.bind_some, ptOf, bdN, Int.toNat_natCast, partR, hsz])
      (fun n s _ => by rw [edge_Best_L1]; simp only; rw [decide_eq_false (by omega)]; rfl) ([], []) ⟨rfl, rfl⟩
    rw [show ((0 : Nat) : Int) = 0 from rfl, Nat.sub_zero] at k
    rw [k.1]
    obtain ⟨k2, k3⟩ := k.2
    rw [List.take_length] at k2 k3
    simp only [Option.bind_some]
    rw [k2, k3, show (bestP a).map (fun x => (ptOf a r.X.A (bdN ps (r.Y.B - r.Y.A)) x).1) = (edgePts ps r a).map Prod.fst by unfold edgePts; rw [List.map_map]; rfl, show (bestP a).map (fun x => (ptOf a r.X.A (bdN ps (r.Y.B - r.Y.A)) x).2) = (edgePts ps r a).map Prod.snd by unfold edgePts; rw [List.map_map]; rfl, ek]
    have gd := walk_good vl r.X.A (bdN ps (r.Y.B - r.Y.A)) 3000 0 (by have := vl.len; omega)
    have nc := ndC_one a r.X.A (bdN ps (r.Y.B - r.Y.A)) 1 (bestP a) (fun x _ => by simp [bdN])
    rw [hlen, show r.X.A + (r.X.B - r.X.A) = r.X.B by omega, show r.X.A + ((0 : Nat) : Int) = r.X.A by omega] at gd
    replace gd : goodL a.Kerf (axS r 2).B (axS r 2).A (edgePts ps r a) := gd
    rw [Row_eq hr (.inl rfl) kf (by unfold edgePts; simp; omega) gd (by unfold edgePts; omega)]
    unfold edgeB rowR
    rw [show axS r 2 = r.X from rfl]
    simp only [Option.bind_some]
    split
    · rfl
    · rfl
  · rw [if_neg c, if_neg c]
    simp only [Option.bind_some]
    rw [show (chkE l ds ps r w t != 0) = true by rw [bne_iff_ne]; exact c]; rfl
end Saw
end Go.SL

namespace Go.SL
namespace Saw

def more (a : Line) (s : List Int) (g : List (List Int)) : Line := ⟨a.Len, a.Kerf, a.Pitch, s, g, a.Chip, a.Dust⟩
theorem bst_more {a : Line} {s : List Int} {g : List (List Int)} (ha : VL a) (hb : VL (more a s g)) (hs : a.Sizes.length ≤ s.length)
    (he : ∀ i, i < a.Sizes.length → s.getD i default = a.Sizes.getD i default ∧ g.getD i default = a.Gain.getD i default) :
    ∀ d p : Nat, a.Len.toNat - p ≤ d → (p : Int) ≤ a.Len → (bst a p).value ≤ (bst (more a s g) p).value ∧ (isNo (stt a p) = false → isNo (stt (more a s g) p) = false ∧ (stt a p).value ≤ (stt (more a s g) p).value) := by
  intro d
  induction d with
  | zero => exact fun p h1 h2 => bst_more_step ha hb hs he (fun x h3 h4 => by omega) h2
  | succ d ih => exact fun p h1 h2 => bst_more_step ha hb hs he (fun x h3 h4 => ih x (by omega) h4) h2
where
  bst_more_step {a : Line} {s : List Int} {g : List (List Int)} (ha : VL a) (hb : VL (more a s g)) (hs : a.Sizes.length ≤ s.length)
    (he : ∀ i, i < a.Sizes.length → s.getD i default = a.Sizes.getD i default ∧ g.getD i default = a.Gain.getD i default) {p : Nat}
    (ih : ∀ x : Nat, p < x → (x : Int) ≤ a.Len → (bst a x).value ≤ (bst (more a s g) x).value ∧ (isNo (stt a x) = false → isNo (stt (more a s g) x) = false ∧ (stt a x).value ≤ (stt (more a s g) x).value)) (hp : (p : Int) ≤ a.Len) :
    (bst a p).value ≤ (bst (more a s g) p).value ∧ (isNo (stt a p) = false → isNo (stt (more a s g) p) = false ∧ (stt a p).value ≤ (stt (more a s g) p).value) := by
    have st : isNo (stt a p) = false → isNo (stt (more a s g) p) = false ∧ (stt a p).value ≤ (stt (more a s g) p).value := by
      intro hn
      rw [stt_eq ha hp] at hn ⊢
      rw [stt_eq hb (show (p : Int) ≤ (more a s g).Len from hp)]
      rcases startS_is a (bst a) p with e | ⟨i, hi, hq, hg, e⟩
      · rw [e] at hn; cases hn
      · have ei := he i hi
        have e1 : szAt (more a s g) i = szAt a i := ei.1
        have e2 : gnAt (more a s g) i p = gnAt a i p := by show (g.getD i default).getD p default = _; rw [ei.2]; rfl
        have ge := startS_ge (a := more a s g) (best := bst (more a s g)) (p := p) (i := i) (Nat.lt_of_lt_of_le hi hs) (by rw [e1]; exact hq) (by rw [e2]; exact hg)
        refine ⟨ge.1, ?_⟩
        rw [e]
        refine Int.le_trans ?_ ge.2
        have en : endN (more a s g) p i = endN a p i := by unfold endN; rw [e1]
        show candV a (bst a) p i ≤ _
        unfold candV
        rw [e2, en]
        show _ ≤ gnAt a i p + (if (endN a p i : Int) = a.Len then 0 else (pre a.Dust (nxtN a (endN a p i)) - pre a.Dust (endN a p i)) + (bst (more a s g) (nxtN a (endN a p i))).value)
        by_cases c : (endN a p i : Int) = a.Len
        · rw [if_pos c, if_pos c]; exact Int.le_refl _
        · have nb := nxt_b ha hi hq c
          have := (ih _ nb.1 nb.2.1).1
          rw [if_neg c, if_neg c]; omega
    refine ⟨?_, st⟩
    rw [bst_eq ha hp, bst_eq hb (show (p : Int) ≤ (more a s g).Len from hp)]
    have ge := bestS_ge (more a s g) (stt (more a s g)) p
    rcases bestS_is a (stt a) p with e | ⟨hn, e⟩ | ⟨k, hk, hn, e⟩
    · rw [e]; exact ge.1
    · rw [e]; have := st hn; exact Int.le_trans this.2 (ge.2.1 this.1)
    · rw [e]
      have hx := (places_lt ha).1 hk
      have lo := place_lo ha p k
      have := (ih _ (by omega) hx).2 hn
      have g3 := ge.2.2 k hk this.1
      refine Int.le_trans ?_ g3
      show (stt a (placeN a p k)).value + restV a p (placeN a p k) ≤ (stt (more a s g) (placeN a p k)).value + restV a p (placeN a p k)
      omega
end Saw
end Go.SL

namespace Go.SL
namespace Saw

def mvX (dx : Int) (x : Span) : Span := ⟨x.A + dx, x.B + dx⟩
def mvR (dx : Int) (r : Rect) : Rect := ⟨mvX dx r.X, r.Y⟩
def mvD (dx : Int) (d : Defect) : Defect := ⟨d.Kind, ⟨mvX dx d.Box.X, d.Box.Y, d.Box.Z⟩⟩
theorem ml_mv (dx : Int) (x y : Span) : ml (shS dx x) (mvX dx y) = ml x y := by
  by_cases c : x.B ≤ x.A
  · have e : empS x = true := decide_eq_true c
    rw [ml_emp _ (by rw [sh_emp]; exact e), ml_emp _ e]
  · have e : shS dx x = mvX dx x := by unfold shS empS mvX; rw [decide_eq_false c]; rfl
    rw [e, ml_def, ml_def]
    unfold mvX
    have a1 := imin_or x.B y.B
    have a2 := imax_or x.A y.A
    have a3 := imin_or (x.B + dx) (y.B + dx)
    have a4 := imax_or (x.A + dx) (y.A + dx)
    simp only
    split <;> split <;> omega
theorem emp_mv (dx : Int) (x y : Span) : empS (mxS (mvX dx x) (mvX dx y)) = empS (mxS x y) := by
  unfold mvX mxS empS
  have a1 := imin_or x.B y.B
  have a2 := imax_or x.A y.A
  have a3 := imin_or (x.B + dx) (y.B + dx)
  have a4 := imax_or (x.A + dx) (y.A + dx)
  simp only
  rw [decide_eq_decide]; omega
theorem row_sh {s : Section} (dx : Int) (r : Int) : row ⟨s.Low, s.Rows.map (shS dx)⟩ r = shS dx (row s r) := by
  have z : shS dx ⟨0, 0⟩ = ⟨0, 0⟩ := rfl
  unfold row
  simp only
  by_cases c : r < s.Low
  · rw [if_pos c, if_pos c, z]
  · rw [if_neg c, if_neg c]
    by_cases k : (r - s.Low).toNat < s.Rows.length
    · rw [List.getD_eq_getElem?_getD, List.getElem?_map, List.getD_eq_getElem?_getD, List.getElem?_eq_getElem k]; rfl
    · rw [getD_ge (by simpa using k), getD_ge (by omega)]; rfl
theorem within_mv (dx : Int) (s : Section) (x y : Span) : withinS ⟨s.Low, s.Rows.map (shS dx)⟩ (mvX dx x) y = withinS s x y := by
  unfold withinS
  exact sumR_congr (fun r _ _ => by rw [row_sh, ml_mv])
/-- The log's moved one. -/
structure Mv (dx : Int) (l l' : List Slice) : Prop where
  len : l'.length = l.length
  at' : ∀ i, i < l.length → (l'.getD i default).Len = (l.getD i default).Len ∧ (l'.getD i default).Sec = ⟨(l.getD i default).Sec.Low, (l.getD i default).Sec.Rows.map (shS dx)⟩
theorem Mv.lenTo {dx : Int} {l l' : List Slice} (h : Mv dx l l') {k : Nat} (hk : k ≤ l.length) : lenTo l' k = lenTo l k := by
  unfold Saw.lenTo
  exact sumN_congr (fun i hi => (h.at' i (by omega)).1)
theorem Mv.solLen {dx : Int} {l l' : List Slice} (h : Mv dx l l') : solLen l' = solLen l := by
  unfold Saw.solLen
  rw [h.len, h.lenTo (Nat.le_refl _)]
theorem Mv.ext {dx : Int} {l l' : List Slice} (h : Mv dx l l') {i : Nat} (hi : i < l.length) : Saw.ext l' i = Saw.ext l i := by
  unfold Saw.ext
  rw [h.lenTo (by omega), h.lenTo (by omega)]
theorem Mv.vol {dx : Int} {l l' : List Slice} (h : Mv dx l l') (x y z : Span) : volS l' (mvX dx x) y z = volS l x y z := by
  unfold volS
  rw [h.len]
  exact sumN_congr (fun i hi => by rw [h.ext hi, (h.at' i hi).2, within_mv])
theorem Mv.zones {dx : Int} {l l' : List Slice} (h : Mv dx l l') (r : Rect) : zones l' (mvR dx r) = zones l r := by
  unfold Saw.zones
  rw [h.len]
  refine List.map_congr_left (fun i hi => ?_)
  have hi' : i < l.length := by simpa using hi
  have a : areaR (mvR dx r) = areaR r := by unfold areaR mvR mvX; simp only; rw [show r.X.B + dx - (r.X.A + dx) = r.X.B - r.X.A by omega]
  have e : withinS (l'.getD i default).Sec (mvR dx r).X (mvR dx r).Y = withinS (l.getD i default).Sec r.X r.Y := by
    rw [(h.at' i hi').2]; exact within_mv dx _ r.X r.Y
  rw [h.ext hi', e, a]
theorem tch_mv (dx : Int) (d b : Box) : tch ⟨mvX dx d.X, d.Y, d.Z⟩ ⟨mvX dx b.X, b.Y, b.Z⟩ = tch d b := by
  unfold tch
  rw [emp_mv]
theorem getD_map' {α β : Type} [Inhabited α] [Inhabited β] (f : α → β) {l : List α} {i : Nat} (h : i < l.length) : (l.map f).getD i default = f (l.getD i default) := by
  rw [List.getD_eq_getElem?_getD, List.getElem?_map, List.getD_eq_getElem?_getD, List.getElem?_eq_getElem h]; rfl
theorem near_mv (dx : Int) (ds : List Defect) (b : Box) : near (ds.map (mvD dx)) ⟨mvX dx b.X, b.Y, b.Z⟩ = (near ds b).map (mvD dx) := by
  unfold near
  have key : ∀ k, k ≤ ds.length → foldN (fun i t => bif tch ((ds.map (mvD dx)).getD i default).Box ⟨mvX dx b.X, b.Y, b.Z⟩ then t ++ [(ds.map (mvD dx)).getD i default] else t) 0 k ([] : List Defect) = (foldN (fun i t => bif tch (ds.getD i default).Box b then t ++ [ds.getD i default] else t) 0 k ([] : List Defect)).map (mvD dx) := by
    intro k
    induction k with
    | zero => intro _; rfl
    | succ k ih =>
      intro hk
      rw [foldN_succ, foldN_succ, ih (by omega), Nat.zero_add, getD_map' _ (by omega), show tch (mvD dx (ds.getD k default)).Box ⟨mvX dx b.X, b.Y, b.Z⟩ = tch (ds.getD k default).Box b from tch_mv dx _ b]
      cases tch (ds.getD k default).Box b with
      | true => simp only [cond_true, List.map_append, List.map_cons, List.map_nil]
      | false => rfl
  rw [List.length_map]
  exact key _ (Nat.le_refl _)
theorem worthD_mv (dx : Int) (ds : List Defect) (b : Box) (fine v : Int) : worthD (ds.map (mvD dx)) ⟨mvX dx b.X, b.Y, b.Z⟩ fine v = worthD ds b fine v := by
  unfold worthD
  rw [List.length_map]
  have key : ∀ k x w, x + k = ds.length → runN (dstep (ds.map (mvD dx)) ⟨mvX dx b.X, b.Y, b.Z⟩ fine) x k w = runN (dstep ds b fine) x k w := by
    intro k
    induction k with
    | zero => intro x w _; rfl
    | succ k ih =>
      intro x w hx
      have e : dstep (ds.map (mvD dx)) ⟨mvX dx b.X, b.Y, b.Z⟩ fine x w = dstep ds b fine x w := by
        unfold dstep
        rw [getD_map' _ (by omega), show tch (mvD dx (ds.getD x default)).Box ⟨mvX dx b.X, b.Y, b.Z⟩ = tch (ds.getD x default).Box b from tch_mv dx _ b]
        rfl
      unfold runN
      rw [e]
      cases dstep ds b fine x w with
      | inl r => rfl
      | inr s => exact ih _ _ (by omega)
  rw [key _ 0 _ (by omega)]
theorem Mv.view {dx : Int} {l l' : List Slice} (h : Mv dx l l') (ds : List Defect) (p : Product) (r : Rect) : viewOf l' (ds.map (mvD dx)) p (mvR dx r) = ⟨p, mvR dx r, Saw.solLen l, Saw.zones l r, (near ds ⟨r.X, r.Y, ⟨0, Saw.solLen l⟩⟩).map (mvD dx)⟩ := by
  unfold viewOf
  rw [h.solLen, h.zones, ← near_mv]
  rfl
theorem Mv.worthV {dx : Int} {l l' : List Slice} (h : Mv dx l l') (ds : List Defect) (p : Product) (r : Rect) (s : Span) (fine : Int) : worthV (viewOf l' (ds.map (mvD dx)) p (mvR dx r)) s fine = worthV (viewOf l ds p r) s fine := by
  rw [h.view]
  unfold Saw.worthV
  have e : ∀ v, worthD ((near ds ⟨r.X, r.Y, ⟨0, Saw.solLen l⟩⟩).map (mvD dx)) ⟨(mvR dx r).X, (mvR dx r).Y, s⟩ fine v = worthD (near ds ⟨r.X, r.Y, ⟨0, Saw.solLen l⟩⟩) ⟨r.X, r.Y, s⟩ fine v := fun v => worthD_mv dx _ ⟨r.X, r.Y, s⟩ fine v
  simp only [e]
  rfl
theorem Mv.bestR {dx : Int} {l l' : List Slice} (h : Mv dx l l') (ds : List Defect) (p : Product) (r : Rect) (step fine : Int) : bestR l' (ds.map (mvD dx)) p (mvR dx r) step fine = bestR l ds p r step fine := by
  unfold Saw.bestR
  have d : dimOk (mvR dx r) p = dimOk r p := by unfold dimOk mvR mvX; simp only; rw [show r.X.B + dx - (r.X.A + dx) = r.X.B - r.X.A by omega]
  rw [d]
  cases dimOk r p with
  | false => rfl
  | true =>
    simp only [cond_true]
    unfold bestV
    have e1 : (viewOf l' (ds.map (mvD dx)) p (mvR dx r)).length = (viewOf l ds p r).length := h.solLen
    rw [e1]
    refine foldN_congr (fun k _ _ st => ?_)
    unfold bestAt
    refine foldN_congr (fun i _ _ st => ?_)
    rw [show (viewOf l' (ds.map (mvD dx)) p (mvR dx r)).product = (viewOf l ds p r).product from rfl, h.worthV]
theorem Mv.gain {dx : Int} {l l' : List Slice} (h : Mv dx l l') (ds : List Defect) (p : Product) (r : Rect) (w : Saw) (t : Rates) : gainS l' (ds.map (mvD dx)) p (mvR dx r) w t = gainS l ds p r w t := by
  unfold gainS
  rw [h.bestR, h.solLen]
  show (bif _ then 1000000 * _ + t.Dust * (volS l' (mvX dx r.X) r.Y _ + volS l' (mvX dx r.X) r.Y _) + t.Chip * (volS l' (mvX dx r.X) r.Y _ - volS l' (mvX dx r.X) r.Y _ - (volS l' (mvX dx r.X) r.Y _ + volS l' (mvX dx r.X) r.Y _)) else -1) = _
  simp only [h.vol]
theorem part_mv (dx : Int) (r : Rect) (a b : Int) : partR (mvR dx r) a b = mvR dx (partR r a b) := by
  unfold partR mvR mvX
  simp only
  rw [show r.X.A + dx + a = r.X.A + a + dx by omega, show r.X.A + dx + b = r.X.A + b + dx by omega]
theorem Mv.line {dx : Int} {l l' : List Slice} (h : Mv dx l l') (ds : List Defect) (ps : List Product) (r : Rect) (w : Saw) (t : Rates) : lineS l' (ds.map (mvD dx)) ps (mvR dx r) w t = lineS l ds ps r w t := by
  have hw : wid (mvR dx r) = wid r := by unfold wid mvR mvX; simp only; omega
  have sl : ∀ x, sliv l' (mvR dx r) x = sliv l r x := fun x => by
    unfold sliv
    rw [part_mv, h.solLen]
    exact h.vol _ _ _
  have gr : ∀ p s, gainRow l' (ds.map (mvD dx)) p (mvR dx r) w t s = gainRow l ds p r w t s := fun p s => by
    unfold gainRow
    rw [hw]
    refine List.map_congr_left (fun x _ => ?_)
    unfold gainAt
    rw [part_mv, h.gain]
  unfold lineS gains
  simp only [hw, sl, gr]
  rfl
end Saw
end Go.SL
