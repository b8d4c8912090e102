/- Poly's plain mathematics, part 4: the sorted points. -/
import Derived.Test.YtcppgjcniljkcaaDoorPMath3
import Derived.Test.YtcppgjcniljkcaaDoorPCmp
import Derived.Test.YtcppgjcniljkcaaDoorMBase2
set_option linter.unusedVariables false
set_option linter.unusedSimpArgs false
namespace Go.SL
namespace Saw

/-- Points in the order of X, then Y. -/
def pLt (p q : Point) : Prop := p.X < q.X ∨ (p.X = q.X ∧ p.Y < q.Y)
instance (p q : Point) : Decidable (pLt p q) := inferInstanceAs (Decidable (_ ∨ _))
def pLe (p q : Point) : Bool := !decide (pLt q p)
theorem pt_ext {p q : Point} (h1 : p.X = q.X) (h2 : p.Y = q.Y) : p = q := by cases p; cases q; simp_all
theorem pLt_irrefl (p : Point) : ¬ pLt p p := by unfold pLt; omega
theorem pLt_trans {p q r : Point} (h1 : pLt p q) (h2 : pLt q r) : pLt p r := by unfold pLt at *; omega
theorem pLt_tri (p q : Point) : pLt p q ∨ p = q ∨ pLt q p := by
  by_cases h1 : pLt p q
  · exact .inl h1
  by_cases h2 : pLt q p
  · exact .inr (.inr h2)
  unfold pLt at *
  exact .inr (.inl (pt_ext (by omega) (by omega)))
theorem pLt_asymm {p q : Point} (h1 : pLt p q) : ¬ pLt q p := fun h2 => pLt_irrefl _ (pLt_trans h1 h2)
theorem pLe_iff {p q : Point} : pLe p q = true ↔ pLt p q ∨ p = q := by
  unfold pLe
  simp only [Bool.not_eq_true', decide_eq_false_iff_not]
  refine ⟨fun h => ?_, fun h => ?_⟩
  · rcases pLt_tri p q with h1 | h1 | h1
    · exact .inl h1
    · exact .inr h1
    · exact absurd h1 h
  · rcases h with h | rfl
    · exact pLt_asymm h
    · exact pLt_irrefl _
theorem cmp_lt (p q : Point) : (poly_Hull_1 p q).getD 0 < 0 ↔ pLt p q := by
  rw [poly_Hull_1_eq]
  have := ltPt p q
  unfold Go.Proofs.ltOf at this
  have h2 := decide_eq_decide.1 this
  exact h2
theorem sort_eq (a : List Point) : sortBy poly_Hull_1 a = sortB pLe a := by
  unfold sortBy
  congr 1
  funext x y
  unfold pLe
  congr 1
  exact decide_eq_decide.2 (cmp_lt y x)

abbrev StrictS (l : List Point) : Prop := l.Pairwise pLt
/-- Two strictly ascending lists with the same members are one. -/
theorem strict_unique : ∀ {l t : List Point}, StrictS l → StrictS t → (∀ p, p ∈ l ↔ p ∈ t) → l = t
  | [], [], _, _, _ => rfl
  | [], q :: t, _, _, h => by have := (h q).2 List.mem_cons_self; cases this
  | p :: l, [], _, _, h => by have := (h p).1 List.mem_cons_self; cases this
  | p :: l, q :: t, hl, ht, h => by
    obtain ⟨l1, l2⟩ := List.pairwise_cons.1 hl
    obtain ⟨t1, t2⟩ := List.pairwise_cons.1 ht
    have e : p = q := by
      rcases List.mem_cons.1 ((h p).1 List.mem_cons_self) with h1 | h1
      · exact h1
      · rcases List.mem_cons.1 ((h q).2 List.mem_cons_self) with h2 | h2
        · exact h2.symm
        · exact absurd (t1 p h1) (pLt_asymm (l1 q h2))
    subst e
    congr 1
    refine strict_unique l2 t2 (fun r => ⟨fun hr => ?_, fun hr => ?_⟩)
    · rcases List.mem_cons.1 ((h r).1 (List.mem_cons_of_mem _ hr)) with rfl | h1
      · exact absurd (l1 r hr) (pLt_irrefl _)
      · exact h1
    · rcases List.mem_cons.1 ((h r).2 (List.mem_cons_of_mem _ hr)) with rfl | h1
      · exact absurd (t1 r hr) (pLt_irrefl _)
      · exact h1

/-- As the code compares points. -/
def peq (p q : Point) : Bool := (p.X == q.X) && ((p.Y == q.Y) && true)
theorem peq_iff {p q : Point} : peq p q = true ↔ p = q := by
  unfold peq
  simp only [Bool.and_eq_true, beq_iff_eq, and_true]
  exact ⟨fun h => pt_ext h.1 h.2, fun h => by subst h; exact ⟨rfl, rfl⟩⟩
/-- The first m of l, without those that are like the one ahead of them. -/
def ddT (l : List Point) : Nat → List Point
  | 0 => []
  | m + 1 => ddT l m ++ (bif !(Nat.beq m 0) && peq (l.getD m default) (l.getD (m - 1) default) then [] else [l.getD m default])
theorem ddT_len (l : List Point) : ∀ m, (ddT l m).length ≤ m
  | 0 => Nat.le_refl _
  | m + 1 => by
    have := ddT_len l m
    unfold ddT
    rw [List.length_append]
    cases (!(Nat.beq m 0) && peq (l.getD m default) (l.getD (m - 1) default)) <;> simp <;> omega
theorem ddT_mem (l : List Point) : ∀ m, m ≤ l.length → ∀ p, p ∈ ddT l m ↔ p ∈ l.take m
  | 0, _, p => by simp [ddT]
  | m + 1, hm, p => by
    have hx : m < l.length := by omega
    have ht : l.take (m + 1) = l.take m ++ [l.getD m default] := by
      rw [List.take_add_one, List.getElem?_eq_getElem hx, List.getD_eq_getElem?_getD, List.getElem?_eq_getElem hx]; rfl
    unfold ddT
    rw [List.mem_append, ddT_mem l m (by omega), ht, List.mem_append]
    cases h : (!(Nat.beq m 0) && peq (l.getD m default) (l.getD (m - 1) default)) with
    | false => simp
    | true =>
      rw [Bool.and_eq_true] at h
      have h0 : m ≠ 0 := fun e => by rw [e] at h; cases h.1
      have he := peq_iff.1 h.2
      simp only [cond_true, List.not_mem_nil, or_false, List.mem_singleton]
      refine ⟨.inl, fun h' => h'.elim id fun e => ?_⟩
      rw [e, he, List.mem_take_iff_getElem]
      exact ⟨m - 1, by omega, by rw [List.getD_eq_getElem?_getD, List.getElem?_eq_getElem (by omega)]; rfl⟩
theorem ddT_strict (l : List Point) (hs : l.Pairwise (fun a b => pLe a b = true)) : ∀ m, m ≤ l.length → StrictS (ddT l m)
  | 0, _ => List.Pairwise.nil
  | m + 1, hm => by
    have hx : m < l.length := by omega
    unfold ddT
    cases h : (!(Nat.beq m 0) && peq (l.getD m default) (l.getD (m - 1) default)) with
    | true => simp only [cond_true, List.append_nil]; exact ddT_strict l hs m (by omega)
    | false =>
      simp only [cond_false]
      refine List.pairwise_append.2 ⟨ddT_strict l hs m (by omega), List.pairwise_singleton _ _, fun p hp q hq => ?_⟩
      rw [List.mem_singleton] at hq
      subst hq
      rw [ddT_mem l m (by omega)] at hp
      have hm0 : m ≠ 0 := fun e => by subst e; simp at hp
      obtain ⟨j, hj, rfl⟩ := List.mem_take_iff_getElem.1 hp
      have hj' : j < m := by omega
      have g : ∀ i (hi : i < l.length), l.getD i default = l[i] := fun i hi => by rw [List.getD_eq_getElem?_getD, List.getElem?_eq_getElem hi]; rfl
      have hb : Nat.beq m 0 = false := by cases m with | zero => exact absurd rfl hm0 | succ m => rfl
      rw [hb, Bool.not_false, Bool.true_and] at h
      have hne : ¬ l.getD m default = l.getD (m - 1) default := fun e => by rw [peq_iff.2 e] at h; cases h
      rw [List.pairwise_iff_getElem] at hs
      have s1 := pLe_iff.1 (hs (m - 1) m (by omega) hx (by omega))
      rw [g m hx, g (m - 1) (by omega)] at hne
      rw [g m hx]
      have s2 : pLt l[m - 1] l[m] := s1.resolve_right (fun e => hne e.symm)
      by_cases hjm : j = m - 1
      · subst hjm; exact s2
      · rcases pLe_iff.1 (hs j (m - 1) (by omega) (by omega) (by omega)) with h1 | h1
        · exact pLt_trans h1 s2
        · rw [h1]; exact s2

theorem compact_L2 (l : List Point) (x : Nat) (hl : l.length ≤ 1000000) (hx : 0 < x) (hxl : x < l.length) : ∀ (n k i : Nat) (t : List Point), l.length - x < k + n → 0 < k → k ≤ l.length - x → t.length = l.length → i ≤ x + k - 1 → t.take i = ddT l (x + k) → i = (ddT l (x + k)).length →
    (∀ j, x + k - 1 ≤ j → j < l.length → t.getD j default = l.getD j default) → ∃ t' : List Point, slices_Compact_SPoint_L2 l (x : Int) n t (i : Int) (k : Int) = some (t', (((ddT l l.length).length : Nat) : Int)) ∧ t'.length = l.length ∧ t'.take (ddT l l.length).length = ddT l l.length
  | 0, k, i, t, h1, _, h2, _, _, _, _, _ => by omega
  | n + 1, k, i, t, h1, hk, h2, h3, h4, h5, h5', h6 => by
    unfold slices_Compact_SPoint_L2
    simp only [Int.toNat_natCast]
    by_cases hkl : k < l.length - x
    · have e1 : w64 ((k : Int) - 1) = ((k - 1 : Nat) : Int) := by rw [w64_id (by omega) (by omega)]; omega
      have hb : Nat.ble (x + (l.length - x)) t.length = true := by rw [Nat.ble_eq]; omega
      rw [lt_t (by omega), inb_t (by omega) (by omega), hb, e1, inb_t (by omega) (by omega)]
      simp only [cond_true, Int.toNat_natCast, slices_Compact_SPoint_k3, inc_eq (show k < 4611686018427387904 by omega), inc_eq (show i < 4611686018427387904 by omega)]
      have g1 : t.getD (x + k) default = l.getD (x + k) default := h6 _ (by omega) (by omega)
      have g2 : t.getD (x + (k - 1)) default = l.getD (x + k - 1) default := by rw [show x + (k - 1) = x + k - 1 by omega]; exact h6 _ (by omega) (by omega)
      have hbq : Nat.beq (x + k) 0 = false := by rw [show x + k = (x + k - 1) + 1 by omega]; rfl
      have hdd : ddT l (x + (k + 1)) = ddT l (x + k) ++ (bif peq (l.getD (x + k) default) (l.getD (x + k - 1) default) then [] else [l.getD (x + k) default]) := by
        rw [show x + (k + 1) = (x + k) + 1 by omega, ddT, hbq]; rfl
      rw [g1, g2]
      cases hp : peq (l.getD (x + k) default) (l.getD (x + k - 1) default) with
      | true =>
        have hp' := hp
        unfold peq at hp'
        rw [hp] at hdd
        simp only [cond_true, List.append_nil] at hdd
        rw [hp']
        simp only [Bool.not_true, cond_false]
        exact compact_L2 l x hl hx hxl n (k + 1) i t (by omega) (by omega) (by omega) h3 (by omega) (by rw [hdd]; exact h5) (by rw [hdd]; exact h5') (fun j hj1 hj2 => h6 j (by omega) hj2)
      | false =>
        have hp' := hp
        unfold peq at hp'
        rw [hp] at hdd
        simp only [cond_false] at hdd
        rw [hp', inb_t (by omega) (by omega)]
        simp only [Bool.not_false, cond_true]
        refine compact_L2 l x hl hx hxl n (k + 1) (i + 1) _ (by omega) (by omega) (by omega) (by rw [List.length_set]; exact h3) (by omega) ?_ (by rw [hdd, List.length_append, ← h5']; rfl) (fun j hj1 hj2 => by rw [getD_set_ne _ (by omega)]; exact h6 j (by omega) hj2)
        rw [hdd, ← h5, List.take_add_one, List.getElem?_set_self (by omega), List.take_set_of_le (Nat.le_refl _)]
        rfl
    · have hkk : x + k = l.length := by omega
      rw [lt_f (by omega)]
      rw [hkk] at h5 h5'
      exact ⟨t, by simp only [cond_false]; rw [h5'], h3, by rw [← h5']; exact h5⟩
theorem compact_L1 (l : List Point) (hl : l.length ≤ 1000000) : ∀ (n x : Nat), l.length < x + n → 0 < x → x ≤ l.length → ddT l x = l.take x → (slices_Compact_SPoint_L1 n l (x : Int) = some (.inl (ddT l l.length, ddT l l.length))) ∨ (slices_Compact_SPoint_L1 n l (x : Int) = some (.inr l) ∧ ddT l l.length = l)
  | 0, x, h1, _, h2, _ => by omega
  | n + 1, x, h1, h0, h2, h3 => by
    unfold slices_Compact_SPoint_L1
    by_cases hx : x < l.length
    · have e1 : w64 ((x : Int) - 1) = ((x - 1 : Nat) : Int) := by rw [w64_id (by omega) (by omega)]; omega
      have hbq : Nat.beq x 0 = false := by rw [show x = (x - 1) + 1 by omega]; rfl
      have hlen : (ddT l x).length = x := by rw [h3]; simp; omega
      rw [lt_t (by omega), e1, inb_t (by omega) (by omega), inb_t (by omega) (by omega)]
      simp only [cond_true, Int.toNat_natCast, inc_eq (show x < 4611686018427387904 by omega)]
      cases hp : peq (l.getD x default) (l.getD (x - 1) default) with
      | true =>
        have hp' := hp
        unfold peq at hp'
        have hdd : ddT l (x + 1) = ddT l x := by rw [ddT, hbq, hp]; simp
        have hsl : slOk (x : Int) ((l.length : Nat) : Int) l.length = true := by unfold slOk; exact decide_eq_true ⟨by omega, by omega, by omega⟩
        obtain ⟨t', e2, e3, e4⟩ := compact_L2 l x hl h0 hx FUEL 1 x l (by rw [FUEL_eq]; omega) (by omega) (by omega) rfl (by omega) (by rw [hdd, h3]) (by rw [hdd, hlen]) (fun j _ _ => rfl)
        have hle := ddT_len l l.length
        have s1 : slOk (((ddT l l.length).length : Nat) : Int) ((t'.length : Nat) : Int) t'.length = true := by unfold slOk; exact decide_eq_true ⟨by omega, by omega, by omega⟩
        have s2 : slOk 0 (((ddT l l.length).length : Nat) : Int) t'.length = true := by unfold slOk; exact decide_eq_true ⟨by omega, by omega, by omega⟩
        rw [show ((1 : Nat) : Int) = 1 from rfl] at e2
        rw [hp', hsl, e2]
        simp only [cond_true, Option.bind_some, s1, s2, Int.toNat_natCast, e4]
        exact .inl trivial
      | false =>
        have hp' := hp
        unfold peq at hp'
        rw [hp']
        simp only [cond_false]
        refine compact_L1 l hl n (x + 1) (by omega) (by omega) (by omega) ?_
        rw [ddT, hbq, hp, h3, List.take_add_one, List.getElem?_eq_getElem hx, List.getD_eq_getElem?_getD, List.getElem?_eq_getElem hx]
        rfl
    · rw [lt_f (by omega)]
      have : x = l.length := by omega
      rw [this, List.take_length] at h3
      exact .inr ⟨rfl, h3⟩
theorem compact_eq (l : List Point) (hl : l.length ≤ 1000000) : slices_Compact_SPoint l = some (ddT l l.length, ddT l l.length) := by
  unfold slices_Compact_SPoint
  by_cases h : ((l.length : Nat) : Int) < 2
  · rw [decide_eq_true h]
    have : ddT l l.length = l := by
      match l, h with
      | [], _ => rfl
      | [p], _ => rfl
      | p :: q :: r, h => simp at h; omega
    rw [this]; rfl
  · rw [decide_eq_false h]
    have h1 : ddT l 1 = l.take 1 := by
      match l, h with
      | [], h => exact absurd (by decide) h
      | p :: r, _ => rfl
    rcases compact_L1 l hl FUEL 1 (by rw [FUEL_eq]; omega) (by omega) (by omega) h1 with h2 | ⟨h2, h3⟩
    · rw [show ((1 : Nat) : Int) = 1 from rfl] at h2
      rw [h2]; rfl
    · rw [show ((1 : Nat) : Int) = 1 from rfl] at h2
      rw [h2, h3]; rfl
end Saw
end Go.SL
