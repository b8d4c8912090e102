/- The ring laws' plain mathematics, part 7: merging, read place by place; turning and merging. -/
import Derived.Test.YtfpgdgmcmkileaaDoorRMath6
set_option linter.unusedVariables false
set_option linter.unusedSimpArgs false
namespace Go.SL
namespace Saw

def pickR (x y : Reading) : Reading := bif x.Ok then x else y
def merged (a b : Ring) : Ring := ⟨a.Z, (List.range a.Read.length).map fun i => pickR (a.Read.getD i default) (b.Read.getD i default)⟩
theorem merged_len (a b : Ring) : (merged a b).Read.length = a.Read.length := by simp [merged]
theorem merged_get (a b : Ring) {i : Nat} (h : i < a.Read.length) : (merged a b).Read.getD i default = pickR (a.Read.getD i default) (b.Read.getD i default) := by
  unfold merged
  show ((List.range a.Read.length).map _).getD i default = _
  rw [List.getD_eq_getElem?_getD, List.getElem?_map, List.getElem?_range h]; rfl

theorem merge_at (a b : Ring) (hab : a.Read.length = b.Read.length) (h3 : a.Read.length ≤ 1000) : ∀ (n x : Nat) (l : List Reading), a.Read.length < x + n → x ≤ a.Read.length → l.length = a.Read.length →
    (∀ j, j < x → l.getD j default = pickR (a.Read.getD j default) (b.Read.getD j default)) → (∀ j, x ≤ j → l.getD j default = a.Read.getD j default) → ring_Merge_L2 a b n (x : Int) l = some (merged a b).Read
  | 0, x, l, h1, h2, _, _, _ => by omega
  | n + 1, x, l, h1, h2, hl, hj1, hj => by
    unfold ring_Merge_L2
    by_cases hx : x < a.Read.length
    · have e1 : w64 ((x : Int) + 1) = ((x + 1 : Nat) : Int) := by rw [w64_id (by omega) (by omega)]; omega
      rw [lt_t hx, inb_t (by omega) (by omega), inb_t (n := b.Read.length) (by omega) (by omega), inb_t (n := l.length) (by omega) (by omega)]
      simp only [cond_true, Int.toNat_natCast, ring_Merge_k3, e1]
      cases ho : (a.Read.getD x default).Ok with
      | true =>
        refine merge_at a b hab h3 n (x + 1) l (by omega) (by omega) hl (fun j h => ?_) (fun j h => hj j (by omega))
        by_cases he : j = x
        · subst he; rw [hj j (Nat.le_refl _)]; unfold pickR; rw [ho]; rfl
        · exact hj1 j (by omega)
      | false =>
        refine merge_at a b hab h3 n (x + 1) _ (by omega) (by omega) (by rw [List.length_set]; exact hl) (fun j h => ?_) (fun j h => ?_)
        · by_cases he : x = j
          · subst he; rw [getD_set_eq _ (by omega)]; unfold pickR; rw [ho]; rfl
          · rw [getD_set_ne _ he]; exact hj1 j (by omega)
        · rw [getD_set_ne _ (by omega)]; exact hj j (by omega)
    · rw [lt_f hx]
      have : l = (merged a b).Read := ext_getD (by rw [merged_len, hl]) (fun j h => by rw [hj1 j (by omega), merged_get a b (by omega)])
      rw [this]; rfl

def fit (a b : Ring) : Prop := Good a ∧ Good b ∧ a.Z = b.Z ∧ a.Read.length = b.Read.length

theorem merge_fit (a b : Ring) (h : fit a b) : ring_Merge a b = some (merged a b, 0) := by
  obtain ⟨ga, gb, hz, hl⟩ := h
  have hn := ga.hi
  unfold ring_Merge ring_Merge_k1
  have hm : ring_Merge_L2 a b FUEL 0 a.Read = some (merged a b).Read := merge_at a b hl (by omega) FUEL 0 a.Read (by rw [FUEL_eq]; omega) (by omega) rfl (fun j h => by omega) (fun _ _ => rfl)
  have z1 : (a.Z != b.Z) = false := by simp [hz]
  have z2 : (((a.Read.length : Nat) : Int) != ((b.Read.length : Nat) : Int)) = false := by simp [hl]
  simp only [ring_check, (good_iff a).2 ga, (good_iff b).2 gb, Option.bind_some, bne_self_eq_false, cond_false, z1, z2, clone_eq a (show a.Read.length ≤ 1000 by omega), hm]
  rfl
theorem merge_unfit (a b : Ring) (h : ¬ fit a b) : ∃ e, e ≠ 0 ∧ ring_Merge a b = some (⟨0, []⟩, e) := by
  unfold ring_Merge ring_Merge_k1
  simp only [ring_check, Option.bind_some]
  by_cases ha : chk a = 0
  · rw [ha]
    by_cases hb : chk b = 0
    · rw [hb]
      simp only [bne_self_eq_false, cond_false]
      by_cases hz : a.Z = b.Z
      · have hl : ¬ a.Read.length = b.Read.length := fun hl => h ⟨(good_iff a).1 ha, (good_iff b).1 hb, hz, hl⟩
        have z2 : (((a.Read.length : Nat) : Int) != ((b.Read.length : Nat) : Int)) = true := by simp; omega
        have z1 : (a.Z != b.Z) = false := by simp [hz]
        rw [z1, z2]
        exact ⟨19, by decide, rfl⟩
      · have z1 : (a.Z != b.Z) = true := by simp [hz]
        rw [z1]
        exact ⟨19, by decide, rfl⟩
    · rw [bne_iff_ne.2 hb]
      exact ⟨_, hb, rfl⟩
  · rw [bne_iff_ne.2 ha]
    exact ⟨_, ha, rfl⟩

theorem merged_good (a b : Ring) (h : fit a b) : Good (merged a b) := by
  obtain ⟨ga, gb, hz, hl⟩ := h
  refine ⟨by rw [merged_len]; exact ga.lo, by rw [merged_len]; exact ga.hi, ga.z0, ga.z1, all_getD fun j hj => ?_⟩
  rw [merged_len] at hj
  rw [merged_get a b hj]
  unfold pickR
  cases (a.Read.getD j default).Ok with
  | true => exact good_at ga hj
  | false => exact good_at gb (by omega)
theorem merged_self (a : Ring) : merged a a = a := ring_ext rfl (merged_len a a) (fun j hj => by
  rw [merged_len] at hj
  rw [merged_get a a hj]
  unfold pickR
  cases (a.Read.getD j default).Ok <;> rfl)
theorem turned_get (q : Nat) (a : Ring) {j : Nat} (hj : j < a.Read.length) : (turned q a).Read.getD j default = turnR q (a.Read.getD j default) := getD_map _ _ hj
theorem merged_turned (q : Nat) (a b : Ring) (hl : a.Read.length = b.Read.length) : merged (turned q a) (turned q b) = turned q (merged a b) := by
  refine ring_ext rfl (by rw [merged_len, turned_len, turned_len, merged_len]) (fun j hj => ?_)
  rw [merged_len, turned_len] at hj
  rw [merged_get _ _ (by rw [turned_len]; exact hj), turned_get q a hj, turned_get q b (by omega), turned_get q _ (by rw [merged_len]; exact hj), merged_get a b hj]
  cases ho : (a.Read.getD j default).Ok <;> simp only [pickR, turnR, ho, cond_true, cond_false]
theorem turned_fit (q : Nat) (a b : Ring) (h : fit a b) : fit (turned q a) (turned q b) :=
  ⟨turned_good q a h.1, turned_good q b h.2.1, h.2.2.1, by rw [turned_len, turned_len]; exact h.2.2.2⟩

/-- A turn and three times its rest give back. -/
theorem back_quarter (r : Int) (q q' : Nat) (hq : q < 4) (hq' : q' < 4) (h1 : Int.tmod (w64 (Int.tmod r 4 + 4)) 4 = (q : Int)) (h2 : Int.tmod (w64 (Int.tmod (w64 (3 * Int.tmod r 4)) 4 + 4)) 4 = (q' : Int)) : (q + q') % 4 = 0 := by
  have hr1 := Int.tmod_lt_of_pos r (show (0 : Int) < 4 by decide)
  have hr2 := (tdiv_facts r 4 (by decide)).2.2.1
  generalize Int.tmod r 4 = t at h1 h2 hr1 hr2
  have ht : t = -3 ∨ t = -2 ∨ t = -1 ∨ t = 0 ∨ t = 1 ∨ t = 2 ∨ t = 3 := by omega
  rcases ht with rfl | rfl | rfl | rfl | rfl | rfl | rfl
  · have e1 : Int.tmod (w64 (-3 + 4)) 4 = 1 := by decide
    have e2 : Int.tmod (w64 (Int.tmod (w64 (3 * (-3))) 4 + 4)) 4 = 3 := by decide
    omega
  · have e1 : Int.tmod (w64 (-2 + 4)) 4 = 2 := by decide
    have e2 : Int.tmod (w64 (Int.tmod (w64 (3 * (-2))) 4 + 4)) 4 = 2 := by decide
    omega
  · have e1 : Int.tmod (w64 (-1 + 4)) 4 = 3 := by decide
    have e2 : Int.tmod (w64 (Int.tmod (w64 (3 * (-1))) 4 + 4)) 4 = 1 := by decide
    omega
  · have e1 : Int.tmod (w64 (0 + 4)) 4 = 0 := by decide
    have e2 : Int.tmod (w64 (Int.tmod (w64 (3 * 0)) 4 + 4)) 4 = 0 := by decide
    omega
  · have e1 : Int.tmod (w64 (1 + 4)) 4 = 1 := by decide
    have e2 : Int.tmod (w64 (Int.tmod (w64 (3 * 1)) 4 + 4)) 4 = 3 := by decide
    omega
  · have e1 : Int.tmod (w64 (2 + 4)) 4 = 2 := by decide
    have e2 : Int.tmod (w64 (Int.tmod (w64 (3 * 2)) 4 + 4)) 4 = 2 := by decide
    omega
  · have e1 : Int.tmod (w64 (3 + 4)) 4 = 3 := by decide
    have e2 : Int.tmod (w64 (Int.tmod (w64 (3 * 3)) 4 + 4)) 4 = 1 := by decide
    omega
theorem turnP_back (q q' : Nat) (hq : q < 4) (hq' : q' < 4) (h : (q + q') % 4 = 0) (p : Point) : turnP q' (turnP q p) = p := by
  have : (q = 0 ∧ q' = 0) ∨ (q = 1 ∧ q' = 3) ∨ (q = 2 ∧ q' = 2) ∨ (q = 3 ∧ q' = 1) := by omega
  rcases this with ⟨rfl, rfl⟩ | ⟨rfl, rfl⟩ | ⟨rfl, rfl⟩ | ⟨rfl, rfl⟩ <;> simp [turnP]
theorem turned_back (q q' : Nat) (hq : q < 4) (hq' : q' < 4) (h : (q + q') % 4 = 0) (a : Ring) : turned q' (turned q a) = a :=
  ring_ext rfl (by rw [turned_len, turned_len]) (fun j hj => by
    rw [turned_len, turned_len] at hj
    rw [turned_get q' _ (by rw [turned_len]; exact hj), turned_get q a hj]
    unfold turnR
    rw [turnP_back q q' hq hq' h])

theorem meas_more {a b : Ring} (hl : a.Read.length = b.Read.length) (h : ∀ i, i < a.Read.length → okAt a i = true → okAt b i = true) : (meas a).length ≤ (meas b).length := by
  unfold meas
  rw [← List.countP_eq_length_filter, ← List.countP_eq_length_filter, ← hl]
  exact List.countP_mono_left fun i hi => h i (List.mem_range.1 hi)

theorem twice_loop (a b : Ring) (hab : a.Read.length = b.Read.length) (h3 : a.Read.length ≤ 1000) : ∀ (n x : Nat), a.Read.length < x + n → x ≤ a.Read.length → law12_RingTwice_L3 a b (merged a b, 0) n (x : Int) = some (.inr ())
  | 0, x, h1, h2 => by omega
  | n + 1, x, h1, h2 => by
    unfold law12_RingTwice_L3
    simp only [merged_len]
    by_cases hx : x < a.Read.length
    · have ih := twice_loop a b hab h3 n (x + 1) (by omega) (by omega)
      rw [lt_t hx, inb_t (by omega) (by omega), inb_t (n := b.Read.length) (by omega) (by omega)]
      simp only [cond_true, Int.toNat_natCast, law12_RingTwice_k4, w64_succ x (by omega), merged_get a b hx, ih]
      generalize a.Read.getD x default = u
      generalize b.Read.getD x default = v
      cases ho : u.Ok with
      | true => simp [pickR, ho]
      | false => simp [pickR, ho]
    · rw [lt_f hx]; rfl

theorem RingTwice_true (a b : Ring) (t : Int) (_ : wfRing a) (_ : wfRing b) (_ : i64ok t) : law12_RingTwice a b t = some true := by
  unfold law12_RingTwice
  by_cases h : fit a b
  · have hf := h
    obtain ⟨ga, gb, hz, hl⟩ := h
    have hn := ga.hi
    obtain ⟨q, hq, hr⟩ := quarter_ex t
    obtain ⟨q', hq', hr'⟩ := quarter_ex (w64 (3 * Int.tmod t 4))
    have gm := merged_good a b hf
    have gt := turned_good q a ga
    obtain ⟨L1, hL1, _⟩ := gaps (merged a b) (by rw [merged_len]; omega)
    obtain ⟨L2, hL2, _⟩ := gaps a (by omega)
    have hmm : (meas a).length ≤ (meas (merged a b)).length := meas_more (merged_len a b).symm (fun i hi ho => by
      unfold okAt at ho ⊢
      rw [merged_get a b hi]; unfold pickR; rw [ho]; exact ho)
    have c1 : ring_Check { Z := (merged a b).Z, Read := (merged a b).Read } = some 0 := by
      have := ring_check (merged a b); rw [(good_iff _).2 gm] at this; exact this
    have m1 := merge_fit a a ⟨ga, ga, rfl, rfl⟩
    rw [merged_self] at m1
    have m2 : ring_Merge { Z := (turned q a).Z, Read := (turned q a).Read } { Z := (turned q b).Z, Read := (turned q b).Read } = some (turned q (merged a b), 0) := by
      have := merge_fit _ _ (turned_fit q a b hf); rw [merged_turned q a b hl] at this; exact this
    have t1 := ring_turn a t ga q hq hr
    have t2 := ring_turn b t gb q hq hr
    have t3 : ring_Turn { Z := (turned q a).Z, Read := (turned q a).Read } (w64 (3 * Int.tmod t 4)) = some a := by
      have := ring_turn (turned q a) (w64 (3 * Int.tmod t 4)) gt q' hq' hr'
      rw [turned_back q q' hq hq' (back_quarter t q q' hq hq' hr hr')] at this; exact this
    have t4 : ring_Turn { Z := (merged a b).Z, Read := (merged a b).Read } t = some (turned q (merged a b)) := ring_turn (merged a b) t gm q hq hr
    have s1 : ref12_Same { Z := a.Z, Read := a.Read } a = some true := same_self a (by omega)
    have s2 : ref12_Same { Z := (turned q (merged a b)).Z, Read := (turned q (merged a b)).Read } { Z := (turned q (merged a b)).Z, Read := (turned q (merged a b)).Read } = some true := same_self _ (by rw [turned_len, merged_len]; omega)
    have hL : law12_RingTwice_L3 a b (merged a b, 0) FUEL 0 = some (.inr ()) := twice_loop a b hl (by omega) FUEL 0 (by rw [FUEL_eq]; omega) (by omega)
    have hL1' : ring_Gaps { Z := (merged a b).Z, Read := (merged a b).Read } = _ := hL1
    have hle : decide (((((merged a b).Read.length - (meas (merged a b)).length : Nat) : Int)) ≤ (((a.Read.length - (meas a).length : Nat) : Int))) = true := decide_eq_true (by rw [merged_len]; omega)
    have z2 : (((b.Read.length : Nat) : Int) != ((a.Read.length : Nat) : Int)) = false := by simp [hl]
    have z3 : ((((merged a b).Read.length : Nat) : Int) != ((a.Read.length : Nat) : Int)) = false := by rw [merged_len]; simp
    simp only [merge_fit a b hf, Option.bind_some, bne_self_eq_false, cond_false, ring_check, (good_iff a).2 ga, (good_iff b).2 gb, z2, z3, law12_RingTwice_k2, hL, Sum.elim_inr, m1, t1, t2]
    have c1' : chk { Z := (merged a b).Z, Read := (merged a b).Read } = 0 := (good_iff _).2 gm
    simp only [c1', bne_self_eq_false, cond_false, m2, Option.bind_some, t3, hL1', hL2, BEq.rfl, cond_true, s1, t4, s2, hle, awake_true, law12_RingTwice_k5]
  · obtain ⟨e, he, hm⟩ := merge_unfit a b h
    rw [hm]
    simp only [Option.bind_some, bne_iff_ne.2 he, cond_true, List.length_nil, Int.ofNat_eq_natCast, awake_true, law12_RingTwice_k1]
    rfl
end Saw
end Go.SL
