/- The ring laws' plain mathematics, part 6: cleaning keeps or drops, turning and cleaning. -/
import Derived.Test.YtfpgdgmcmkileaaDoorRMath5
set_option linter.unusedVariables false
set_option linter.unusedSimpArgs false
namespace Go.SL
namespace Saw

theorem getD_clF (a : Ring) (r : Int) : ∀ (m : List Nat) (l : List Reading) (j : Nat), j < l.length → (m.foldl (clF a r) l).getD j default = bif decide (j ∈ m) && dropB a r j then zeroR else l.getD j default
  | [], l, j, _ => by simp
  | i :: m, l, j, hj => by
    rw [List.foldl_cons, getD_clF a r m _ j (by rw [clF_len]; exact hj)]
    unfold clF
    by_cases he : i = j
    · subst he
      cases hd : dropB a r i with
      | false => simp
      | true => rw [cond_true, getD_set_eq _ hj]; simp
    · have hm : decide (j ∈ i :: m) = decide (j ∈ m) := by simp [Ne.symm he]
      rw [hm]
      cases hd : dropB a r i with
      | false => rfl
      | true => rw [cond_true, getD_set_ne _ he]

theorem dropB_mem {a : Ring} {r : Int} {j : Nat} (h : dropB a r j = true) : j ∈ meas a := by
  unfold dropB at h
  rw [List.any_eq_true] at h
  obtain ⟨k, hk, h⟩ := h
  rw [Bool.and_eq_true, decide_eq_true_eq] at h
  rw [← h.1]
  exact List.mem_of_getElem? (Mi_get (List.mem_range.1 hk))

/-- What is dropped. -/
def cut (a : Ring) (r : Int) (j : Nat) : Bool := !decide (r < 0) && !decide ((((meas a).length : Nat) : Int) < 2) && dropB a r j
theorem cleaned_get (a : Ring) (g : Good a) (r : Int) {j : Nat} (hj : j < a.Read.length) : (cleaned a r).Read.getD j default = bif cut a r j then zeroR else a.Read.getD j default := by
  unfold cleaned cut
  rw [(good_iff a).2 g]
  cases decide (r < 0) <;> cases decide ((((meas a).length : Nat) : Int) < 2) <;> simp only [cond_true, cond_false, bne_self_eq_false, Bool.not_true, Bool.not_false, Bool.false_and, Bool.true_and, Bool.and_false]
  rw [getD_clF _ _ _ _ _ hj]
  cases hd : dropB a r j with
  | false => simp
  | true => simp [dropB_mem hd]

theorem ring_ext {a b : Ring} (hz : a.Z = b.Z) (hl : a.Read.length = b.Read.length) (h : ∀ j, j < a.Read.length → a.Read.getD j default = b.Read.getD j default) : a = b := by
  obtain ⟨z, l⟩ := a
  obtain ⟨z', l'⟩ := b
  obtain rfl : z = z' := hz
  obtain rfl : l = l' := ext_getD hl h
  rfl

theorem all_getD {l : List Reading} {P : Reading → Prop} (h : ∀ j, j < l.length → P (l.getD j default)) : ∀ r ∈ l, P r := by
  intro r hr
  obtain ⟨t, ht, he⟩ := List.mem_iff_getElem.1 hr
  have := h t ht
  rwa [List.getD_eq_getElem?_getD, List.getElem?_eq_getElem ht, Option.getD_some, he] at this
theorem good_at {a : Ring} (g : Good a) {j : Nat} (hj : j < a.Read.length) : chkAt (a.Read.getD j default) = 0 := by
  refine g.all _ ?_
  rw [List.getD_eq_getElem?_getD, List.getElem?_eq_getElem hj]; exact List.getElem_mem hj

theorem cleaned_good (a : Ring) (g : Good a) (r : Int) : Good (cleaned a r) := by
  have hl := cleaned_len a r
  have hz := cleaned_Z a r
  refine ⟨by rw [hl]; exact g.lo, by rw [hl]; exact g.hi, by rw [hz]; exact g.z0, by rw [hz]; exact g.z1, all_getD fun j hj => ?_⟩
  rw [hl] at hj
  rw [cleaned_get a g r hj]
  cases cut a r j with
  | true => exact show chkAt zeroR = 0 by decide
  | false => exact good_at g hj

theorem farB_mono {p q : Point} {r s : Int} (h : r ≤ s) (hf : farB p q s = true) : farB p q r = true := by
  unfold farB at hf ⊢
  simp only [Bool.or_eq_true, decide_eq_true_eq] at hf ⊢
  rcases hf with h1 | h1 | h1 | h1
  · exact .inl (by omega)
  · exact .inr (.inl (by omega))
  · exact .inr (.inr (.inl (by omega)))
  · exact .inr (.inr (.inr (by omega)))
theorem cut_mono {a : Ring} {r s : Int} (h0 : 0 ≤ r) (h : r ≤ s) {j : Nat} (hc : cut a s j = true) : cut a r j = true := by
  unfold cut at hc ⊢
  simp only [Bool.and_eq_true] at hc ⊢
  refine ⟨⟨by simp; omega, hc.1.2⟩, ?_⟩
  have hd := hc.2
  unfold dropB at hd ⊢
  rw [List.any_eq_true] at hd ⊢
  obtain ⟨k, hk, hd⟩ := hd
  refine ⟨k, hk, ?_⟩
  rw [Bool.and_eq_true] at hd ⊢
  refine ⟨hd.1, ?_⟩
  have he := hd.2
  unfold Ek at he ⊢
  rw [Bool.and_eq_true] at he ⊢
  exact ⟨farB_mono h he.1, farB_mono h he.2⟩

theorem farB_small {p q : Point} (hp : small p) (hq : small q) (r : Int) : farB p q r = (decide (p.X - q.X > r) || (decide (q.X - p.X > r) || (decide (p.Y - q.Y > r) || decide (q.Y - p.Y > r)))) := by
  obtain ⟨h1, h2, h3, h4⟩ := hp
  obtain ⟨g1, g2, g3, g4⟩ := hq
  unfold farB
  rw [w64_id (n := p.X - q.X) (by omega) (by omega), w64_id (n := q.X - p.X) (by omega) (by omega), w64_id (n := p.Y - q.Y) (by omega) (by omega), w64_id (n := q.Y - p.Y) (by omega) (by omega)]
theorem farB_turn {p q : Point} (hp : small p) (hq : small q) (r : Int) (t : Nat) : farB (turnP t p) (turnP t q) r = farB p q r := by
  rw [farB_small hp hq, farB_small (small_turn t hp) (small_turn t hq), Bool.eq_iff_iff]
  unfold turnP
  split <;> simp only [Bool.or_eq_true, decide_eq_true_eq] <;> omega
theorem farB_top {p q : Point} (hp : small p) (hq : small q) : farB p q 1200 = false := by
  rw [farB_small hp hq]
  obtain ⟨h1, h2, h3, h4⟩ := hp
  obtain ⟨g1, g2, g3, g4⟩ := hq
  simp only [Bool.or_eq_false_iff, decide_eq_false_iff_not]
  exact ⟨by omega, by omega, by omega, by omega⟩
theorem cut_top (a : Ring) (g : Good a) (j : Nat) : cut a 1200 j = false := by
  have : dropB a 1200 j = false := by
    unfold dropB
    rw [List.any_eq_false]
    intro k _
    unfold Ek
    rw [farB_top (Pt_small g _) (Pt_small g _)]
    simp
  unfold cut
  rw [this, Bool.and_false]

theorem okAt_turned (q : Nat) (a : Ring) (i : Nat) : okAt (turned q a) i = okAt a i := by
  unfold okAt turned
  by_cases h : i < a.Read.length
  · rw [getD_map _ _ h]; rfl
  · rw [List.getD_eq_getElem?_getD, List.getD_eq_getElem?_getD, List.getElem?_eq_none (by simp; omega), List.getElem?_eq_none (by omega)]
theorem turned_len (q : Nat) (a : Ring) : (turned q a).Read.length = a.Read.length := by simp [turned]
theorem meas_turned (q : Nat) (a : Ring) : meas (turned q a) = meas a := by
  unfold meas
  rw [turned_len]
  congr 1
  funext i
  exact okAt_turned q a i
theorem Mi_turned (q : Nat) (a : Ring) (k : Nat) : Mi (turned q a) k = Mi a k := by unfold Mi; rw [meas_turned]
theorem nb_turned (q : Nat) (a : Ring) (k e : Nat) : nb (turned q a) k e = nb a k e := by unfold nb; rw [meas_turned, Mi_turned]
theorem Pt_turned (q : Nat) (a : Ring) (i : Nat) : Pt (turned q a) i = turnP q (Pt a i) := by
  unfold Pt turned
  by_cases h : i < a.Read.length
  · rw [getD_map _ _ h]; rfl
  · rw [List.getD_eq_getElem?_getD, List.getD_eq_getElem?_getD, List.getElem?_eq_none (by simp; omega), List.getElem?_eq_none (by omega)]
    exact (turnP_zero q).symm
theorem Ek_turned (q : Nat) (a : Ring) (g : Good a) (r : Int) (k : Nat) : Ek (turned q a) r k = Ek a r k := by
  unfold Ek
  rw [meas_turned, Mi_turned, nb_turned, nb_turned, Pt_turned, Pt_turned, Pt_turned, farB_turn (Pt_small g _) (Pt_small g _), farB_turn (Pt_small g _) (Pt_small g _)]
theorem cut_turned (q : Nat) (a : Ring) (g : Good a) (r : Int) (j : Nat) : cut (turned q a) r j = cut a r j := by
  unfold cut dropB
  rw [meas_turned]
  congr 2
  funext k
  rw [Mi_turned, Ek_turned q a g]
theorem turned_good (q : Nat) (a : Ring) (g : Good a) : Good (turned q a) := by
  refine ⟨by rw [turned_len]; exact g.lo, by rw [turned_len]; exact g.hi, g.z0, g.z1, fun r hr => ?_⟩
  obtain ⟨s, hs, rfl⟩ := List.mem_map.1 hr
  have h1 := g.all s hs
  have h2 := good_small h1
  have h3 := small_turn q h2.1
  unfold chkAt turnR
  cases ho : s.Ok with
  | true =>
    have : inRange (turnP q s.P) = true := by
      unfold inRange
      simp only [Bool.and_eq_true, decide_eq_true_eq]
      exact ⟨⟨h3.1, h3.2.1⟩, ⟨h3.2.2.1, h3.2.2.2⟩⟩
    rw [this]; rfl
  | false => rw [h2.2 ho, turnP_zero]; rfl

theorem clean_turn (q : Nat) (a : Ring) (g : Good a) (r : Int) : cleaned (turned q a) r = turned q (cleaned a r) := by
  have hl1 := cleaned_len (turned q a) r
  have hl2 := cleaned_len a r
  rw [turned_len] at hl1
  refine ring_ext ?_ (by rw [turned_len, hl1, hl2]) (fun j hj => ?_)
  · rw [cleaned_Z]; show a.Z = (cleaned a r).Z; rw [cleaned_Z]
  · rw [hl1] at hj
    rw [cleaned_get _ (turned_good q a g) r (by rw [turned_len]; exact hj), cut_turned q a g]
    show _ = ((cleaned a r).Read.map (turnR q)).getD j default
    rw [getD_map _ _ (by rw [hl2]; exact hj), cleaned_get a g r hj]
    cases cut a r j with
    | true =>
      show zeroR = turnR q zeroR
      unfold turnR zeroR
      rw [turnP_zero]
    | false =>
      show (a.Read.map (turnR q)).getD j default = _
      rw [getD_map _ _ hj]; rfl

theorem keeps_loop (a x y : Ring) (h : a.Read.length ≤ 1000) (hx : x.Read.length = a.Read.length) (hy : y.Read.length = a.Read.length) (hk : ∀ j, j < a.Read.length → (x.Read.getD j default).Ok = true → x.Read.getD j default = a.Read.getD j default ∧ (y.Read.getD j default).Ok = true) :
    ∀ (n i : Nat), a.Read.length < i + n → i ≤ a.Read.length → law12_RingKeeps_L5 a x y n (i : Int) = some (.inr ())
  | 0, i, h1, h2 => by omega
  | n + 1, i, h1, h2 => by
    unfold law12_RingKeeps_L5
    rw [hx, hy]
    by_cases hi : i < a.Read.length
    · have ih := keeps_loop a x y h hx hy hk n (i + 1) (by omega) (by omega)
      rw [lt_t hi, inb_t (by omega) (by omega)]
      simp only [cond_true, Int.toNat_natCast, law12_RingKeeps_k6, w64_succ i (by omega), ih]
      cases ho : (x.Read.getD i default).Ok with
      | false => rfl
      | true =>
        obtain ⟨e1, e2⟩ := hk i hi ho
        have e3 : (a.Read.getD i default).Ok = true := by rw [← e1]; exact ho
        rw [e1, e2, e3]
        simp
    · rw [lt_f hi]; rfl

theorem RingKeeps_true (a : Ring) (l : List Int) (t : Int) (_ : wfRing a) (_ : l.length = 2) (_ : ∀ y ∈ l, i64ok y) (_ : i64ok t) : law12_RingKeeps a l t = some true := by
  unfold law12_RingKeeps law12_RingKeeps_k1
  rw [ring_check]
  simp only [Option.bind_some]
  by_cases hc : chk a = 0
  · have g := (good_iff a).1 hc
    have hn := g.hi
    rw [hc, decide_eq_false (show ¬ ((a.Read.length : Nat) : Int) > 32 by omega)]
    simp only [bne_self_eq_false, cond_false]
    generalize hlo : imin (l.getD 0 default) (l.getD 1 default) = lo
    generalize hhi : imax (l.getD 0 default) (l.getD 1 default) = hi
    have hle : lo ≤ hi := by
      rw [← hlo, ← hhi]; unfold imin imax
      split <;> split <;> omega
    by_cases hneg : lo < 0
    · have e : cleaned a lo = a := by unfold cleaned; rw [decide_eq_true hneg]; rfl
      have hs : ref12_Same { Z := (cleaned a lo).Z, Read := (cleaned a lo).Read } a = some true := by rw [e]; exact same_self a (by omega)
      simp only [decide_eq_true hneg, cond_true, ring_clean a lo (by omega), Option.bind_some, hs, awake_true, law12_RingKeeps_k3]
    · have g1 := cleaned_good a g lo
      have hx := cleaned_len a lo
      have hy := cleaned_len a hi
      have etop : cleaned a 1200 = a := ring_ext (cleaned_Z a 1200) (cleaned_len a 1200) (fun j hj => by rw [cleaned_len] at hj; rw [cleaned_get a g 1200 hj, cut_top a g]; rfl)
      have hs : ref12_Same { Z := (cleaned a 1200).Z, Read := (cleaned a 1200).Read } a = some true := by rw [etop]; exact same_self a (by omega)
      have hL : law12_RingKeeps_L5 a (cleaned a lo) (cleaned a hi) FUEL 0 = some (.inr ()) := by
        refine keeps_loop a _ _ (by omega) hx hy (fun j hj ho => ?_) FUEL 0 (by rw [FUEL_eq]; omega) (by omega)
        rw [cleaned_get a g lo hj] at ho ⊢
        rw [cleaned_get a g hi hj]
        cases hc1 : cut a lo j with
        | true => rw [hc1] at ho; cases ho
        | false =>
          rw [hc1] at ho
          have hc2 : cut a hi j = false := by
            cases hc2 : cut a hi j with
            | false => rfl
            | true => rw [cut_mono (by omega) hle hc2] at hc1; cases hc1
          rw [hc2]
          exact ⟨rfl, ho⟩
      obtain ⟨q, hq, hr⟩ := quarter_ex t
      have t1 := ring_turn a t g q hq hr
      have t2 := ring_turn (cleaned a lo) t g1 q hq hr
      have t3 := ring_clean (turned q a) lo (by rw [turned_len]; omega)
      rw [clean_turn q a g] at t3
      have t4 := same_self (turned q (cleaned a lo)) (by rw [turned_len, hx]; omega)
      have hzz : ((cleaned a lo).Z != a.Z) = false := by rw [cleaned_Z]; simp
      have hch : ring_Check { Z := (cleaned a lo).Z, Read := (cleaned a lo).Read } = some 0 := by
        have := ring_check (cleaned a lo)
        rw [(good_iff _).2 g1] at this
        exact this
      have t2' : ring_Turn { Z := (cleaned a lo).Z, Read := (cleaned a lo).Read } t = some (turned q (cleaned a lo)) := t2
      have t3' : ring_Clean { Z := (turned q a).Z, Read := (turned q a).Read } lo = some (turned q (cleaned a lo)) := t3
      have t4' : ref12_Same { Z := (turned q (cleaned a lo)).Z, Read := (turned q (cleaned a lo)).Read } { Z := (turned q (cleaned a lo)).Z, Read := (turned q (cleaned a lo)).Read } = some true := t4
      simp only [decide_eq_false hneg, cond_false, ring_clean a lo (by omega), ring_clean a hi (by omega), ring_clean a 1200 (by omega), Option.bind_some, hzz, hx, hy, bne_self_eq_false]
      simp only [hch, Option.bind_some, bne_self_eq_false, cond_false, hs, law12_RingKeeps_k4, Bool.not_true, hL, Sum.elim_inr, t1, hlo, t3', t2', t4', cond_true, awake_true, law12_RingKeeps_k7]
  · rw [bne_iff_ne.2 hc]
    simp only [cond_true, bne_iff_ne.2 hc, awake_true, Option.bind_some, law12_RingKeeps_k2]
end Saw
end Go.SL
