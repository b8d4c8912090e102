/- The ring laws' plain mathematics, part 5: repairing. -/
import Derived.Test.YtfpgdgmcmkileaaDoorRMath4
set_option linter.unusedVariables false
set_option linter.unusedSimpArgs false
set_option linter.unusedSectionVars false
namespace Go.SL
namespace Saw

theorem tdiv_facts (a b : Int) (hb : 0 < b) : Int.tmod a b + b * Int.tdiv a b = a ∧ Int.tmod a b < b ∧ -b < Int.tmod a b ∧ (Int.tdiv a b).natAbs ≤ a.natAbs := by
  refine ⟨Int.tmod_add_mul_tdiv a b, Int.tmod_lt_of_pos a hb, ?_, ?_⟩
  · rcases Int.le_total 0 a with h | h
    · have := Int.tmod_nonneg b h; omega
    · have h3 := Int.tmod_lt_of_pos (-a) hb
      rw [Int.neg_tmod] at h3
      omega
  · rw [Int.natAbs_tdiv]; exact Nat.div_le_self _ _

theorem ediv_of {a b q r : Int} (hb : 0 < b) (h : r + b * q = a) (h0 : 0 ≤ r) (h1 : r < b) : a / b = q := (Int.ediv_emod_unique hb).2 ⟨h, h0, h1⟩ |>.1

theorem floor_eq (a b : Int) (hb : 0 < b) (h1 : -4611686018427387904 ≤ a) (h2 : a ≤ 4611686018427387904) : ring_floor a b = some (a / b) := by
  obtain ⟨e, l, g, n⟩ := tdiv_facts a b hb
  unfold ring_floor ring_floor_k1
  rw [nz_t (by omega), w64_id (n := Int.tdiv a b) (by omega) (by omega)]
  by_cases h : Int.tmod a b < 0
  · rw [decide_eq_true h, w64_id (by omega) (by omega)]
    have : a / b = Int.tdiv a b - 1 := ediv_of hb (r := Int.tmod a b + b) (by rw [Int.mul_sub, Int.mul_one]; omega) (by omega) (by omega)
    rw [this]; rfl
  · rw [decide_eq_false h]
    have : a / b = Int.tdiv a b := ediv_of hb (r := Int.tmod a b) e (by omega) l
    rw [this]; rfl
theorem ref_floor_eq (a b : Int) (hb : 0 < b) (h3 : b ≤ 4611686018427387904) (h1 : -4611686018427387904 ≤ a) (h2 : a ≤ 4611686018427387904) : ref12_floor a b = some (a / b) := by
  obtain ⟨e, l, g, n⟩ := tdiv_facts a b hb
  have hc : Int.tdiv a b * b = b * Int.tdiv a b := Int.mul_comm _ _
  unfold ref12_floor ref12_floor_k1
  rw [nz_t (by omega), w64_id (n := Int.tdiv a b) (by omega) (by omega), w64_id (n := Int.tdiv a b * b) (by omega) (by omega)]
  by_cases h : Int.tmod a b < 0
  · rw [decide_eq_true (by omega), w64_id (by omega) (by omega)]
    have : a / b = Int.tdiv a b - 1 := ediv_of hb (r := Int.tmod a b + b) (by rw [Int.mul_sub, Int.mul_one]; omega) (by omega) (by omega)
    rw [this]; rfl
  · rw [decide_eq_false (by omega)]
    have : a / b = Int.tdiv a b := ediv_of hb (r := Int.tmod a b) e (by omega) l
    rw [this]; rfl

/-- Between two, at j of g + 1 parts. -/
def mix (x y : Int) (j g : Nat) : Int := x + (y - x) * (j : Int) / ((g + 1 : Nat) : Int)
theorem mix_zero (x y : Int) (g : Nat) : mix x y 0 g = x := by simp [mix]
theorem mul_mono {d : Int} (j g : Nat) (hj : j ≤ g + 1) (hd : 0 ≤ d) : 0 ≤ d * (j : Int) ∧ d * (j : Int) ≤ d * ((g + 1 : Nat) : Int) :=
  ⟨Int.mul_nonneg hd (by omega), Int.mul_le_mul_of_nonneg_left (by omega) hd⟩
/-- It lies between. -/
theorem mix_between (x y : Int) (j g : Nat) (hj : j ≤ g + 1) : (x ≤ y → x ≤ mix x y j g ∧ mix x y j g ≤ y) ∧ (y ≤ x → y ≤ mix x y j g ∧ mix x y j g ≤ x) := by
  have hp : (0 : Int) < ((g + 1 : Nat) : Int) := by omega
  unfold mix
  constructor
  · intro h
    obtain ⟨h1, h2⟩ := mul_mono j g hj (show 0 ≤ y - x by omega)
    have h3 := Int.ediv_nonneg h1 (Int.le_of_lt hp)
    have h4 := Int.ediv_le_ediv hp h2
    rw [Int.mul_ediv_cancel _ (by omega)] at h4
    omega
  · intro h
    obtain ⟨h1, h2⟩ := mul_mono j g hj (show 0 ≤ x - y by omega)
    have e : (y - x) * (j : Int) = - ((x - y) * (j : Int)) := by rw [← Int.neg_mul]; congr 1; omega
    rw [e]
    have h3 : -((x - y) * (j : Int)) / ((g + 1 : Nat) : Int) ≤ 0 / ((g + 1 : Nat) : Int) := Int.ediv_le_ediv hp (by omega)
    have h4 : -((x - y) * ((g + 1 : Nat) : Int)) / ((g + 1 : Nat) : Int) ≤ -((x - y) * (j : Int)) / ((g + 1 : Nat) : Int) := Int.ediv_le_ediv hp (by omega)
    rw [← Int.neg_mul, Int.mul_ediv_cancel _ (by omega)] at h4
    rw [Int.zero_ediv] at h3
    omega

/-- The point d behind the k-th measured. -/
def val (a : Ring) (k d : Nat) : Point := ⟨mix (Pt a (Mi a k)).X (Pt a (nb a k 1)).X d (gap a k), mix (Pt a (Mi a k)).Y (Pt a (nb a k 1)).Y d (gap a k)⟩
theorem val_zero (a : Ring) (k : Nat) : val a k 0 = Pt a (Mi a k) := by unfold val; rw [mix_zero, mix_zero]

theorem Pt_small {a : Ring} (g : Good a) (i : Nat) : small (Pt a i) := by
  unfold Pt
  by_cases h : i < a.Read.length
  · refine (good_small (g.all _ ?_)).1
    rw [List.getD_eq_getElem?_getD, List.getElem?_eq_getElem h]; exact List.getElem_mem h
  · rw [List.getD_eq_getElem?_getD, List.getElem?_eq_none (by omega)]
    exact ⟨by decide, by decide, by decide, by decide⟩

theorem mix_step (x y : Int) (j g : Nat) (hx : -600 ≤ x) (hx' : x ≤ 600) (hy : -600 ≤ y) (hy' : y ≤ 600) (hj : j ≤ g + 1) (hg : g ≤ 100) :
    w64 (w64 (y - x) * (j : Int)) = (y - x) * (j : Int) ∧ w64 (x + (y - x) * (j : Int) / ((g + 1 : Nat) : Int)) = mix x y j g ∧ -4611686018427387904 ≤ (y - x) * (j : Int) ∧ (y - x) * (j : Int) ≤ 4611686018427387904 := by
  have hb := mix_between x y j g hj
  have hm : w64 (x + (y - x) * (j : Int) / ((g + 1 : Nat) : Int)) = mix x y j g := by
    show w64 (mix x y j g) = _
    rcases Int.le_total x y with h | h
    · have := hb.1 h; exact w64_id (by omega) (by omega)
    · have := hb.2 h; exact w64_id (by omega) (by omega)
  have hr : -1300000 ≤ (y - x) * (j : Int) ∧ (y - x) * (j : Int) ≤ 1300000 := by
    have h1 : (y - x) * (j : Int) ≤ 1200 * (j : Int) := Int.mul_le_mul_of_nonneg_right (by omega) (by omega)
    have h2 : (-1200) * (j : Int) ≤ (y - x) * (j : Int) := Int.mul_le_mul_of_nonneg_right (by omega) (by omega)
    omega
  refine ⟨?_, hm, by omega, by omega⟩
  rw [w64_id (n := y - x) (by omega) (by omega), w64_id (by omega) (by omega)]

section
variable (a : Ring) (g : Good a)
include g

theorem repair_inner {k : Nat} (hk : k < (meas a).length) : ∀ (n x : Nat) (l : List Point), gap a k + 1 < x + n → 1 ≤ x → x ≤ gap a k + 1 → l.length = a.Read.length →
    ∃ r, ring_Repair_L3 a (ints (meas a)) (k : Int) ((gap a k : Nat) : Int) n l (x : Int) = some r ∧ r.length = a.Read.length ∧
      (∀ q, (∀ d, x ≤ d → d ≤ gap a k → q ≠ (Mi a k + d) % a.Read.length) → r.getD q default = l.getD q default) ∧ (∀ d, x ≤ d → d ≤ gap a k → r.getD ((Mi a k + d) % a.Read.length) default = val a k d)
  | 0, x, l, h1, h2, h3, h4 => by omega
  | n + 1, x, l, h1, h2, h3, h4 => by
    have hn := g.hi
    have hlo := g.lo
    have hg := gap_lt hk
    have h0 := Mi_ok hk
    have hml := meas_le a
    unfold ring_Repair_L3
    by_cases hx : x ≤ gap a k
    · have hlt : (Mi a k + x) % a.Read.length < a.Read.length := Nat.mod_lt _ (by omega)
      have hk1 : (k + 1) % (meas a).length < (meas a).length := Nat.mod_lt _ (by omega)
      have hp := Pt_small g (Mi a k)
      have hq := Pt_small g (nb a k 1)
      obtain ⟨e1, e2, e3, e4⟩ := mix_step (Pt a (Mi a k)).X (Pt a (nb a k 1)).X x (gap a k) hp.1 hp.2.1 hq.1 hq.2.1 (by omega) (by omega)
      obtain ⟨f1, f2, f3, f4⟩ := mix_step (Pt a (Mi a k)).Y (Pt a (nb a k 1)).Y x (gap a k) hp.2.2.1 hp.2.2.2 hq.2.2.1 hq.2.2.2 (by omega) (by omega)
      have c1 : decide ((x : Int) ≤ ((gap a k : Nat) : Int)) = true := decide_eq_true (by omega)
      have w1 : w64 (((gap a k : Nat) : Int) + 1) = ((gap a k + 1 : Nat) : Int) := w64_succ _ (by omega)
      have w2 : w64 (((Mi a k : Nat) : Int) + (x : Int)) = ((Mi a k + x : Nat) : Int) := by rw [w64_id (by omega) (by omega)]; omega
      rw [c1, h4, nz_t (by omega), ints_len, w64_succ k (by omega), tmod_nat]
      simp only [cond_true, Int.toNat_natCast, ints_getD]
      rw [show (meas a).getD ((k + 1) % (meas a).length) 0 = nb a k 1 from rfl, show (meas a).getD k 0 = Mi a k from rfl]
      rw [show (a.Read.getD (Mi a k) default).P = Pt a (Mi a k) from rfl, show (a.Read.getD (nb a k 1) default).P = Pt a (nb a k 1) from rfl, w1, w2, tmod_nat, e1, f1, floor_eq _ _ (by omega) e3 e4, floor_eq _ _ (by omega) f3 f4, inb_t (show 0 ≤ (((Mi a k + x) % a.Read.length : Nat) : Int) by omega) (by omega)]
      simp only [Option.bind_some, cond_true, e2, f2, Int.toNat_natCast, w64_succ x (by omega)]
      obtain ⟨r, hr, r1, r2, r3⟩ := repair_inner hk n (x + 1) (l.set ((Mi a k + x) % a.Read.length) (val a k x)) (by omega) (by omega) (by omega) (by rw [List.length_set]; exact h4)
      refine ⟨r, hr, r1, fun q hq => ?_, fun d hd1 hd2 => ?_⟩
      · rw [r2 q (fun d hd => hq d (by omega)), getD_set_ne _ (fun h => hq x (Nat.le_refl _) hx h.symm)]
      · by_cases he : d = x
        · subst he
          rw [r2 _ (fun e he1 he2 hc => ?_), getD_set_eq _ (by omega)]
          -- two places of one gap differ
          have hM := h0.1
          rcases Nat.lt_or_ge (Mi a k + d) a.Read.length with u | u <;> rcases Nat.lt_or_ge (Mi a k + e) a.Read.length with v | v
          · rw [mod_lo u, mod_lo v] at hc; omega
          · rw [mod_lo u, mod_hi v (by omega)] at hc; omega
          · omega
          · rw [mod_hi u (by omega), mod_hi v (by omega)] at hc; omega
        · exact r3 d (by omega) hd2
    · have c1 : decide ((x : Int) ≤ ((gap a k : Nat) : Int)) = false := decide_eq_false (by omega)
      rw [c1]
      exact ⟨l, rfl, h4, fun _ _ => rfl, fun d h1 h2 => by omega⟩

/-- Two places around the ring are the same only if they are named alike. -/
theorem place_inj {k d k' d' : Nat} (hk : k < (meas a).length) (hk' : k' < (meas a).length) (hd : d ≤ gap a k) (hd' : d' ≤ gap a k') (h : (Mi a k + d) % a.Read.length = (Mi a k' + d') % a.Read.length) : k = k' ∧ d = d' := by
  have key : ∀ {k d k' d' : Nat}, k < (meas a).length → k' < (meas a).length → d ≤ gap a k → d' ≤ gap a k' → d ≤ d' → (Mi a k + d) % a.Read.length = (Mi a k' + d') % a.Read.length → k = k' ∧ d = d' := by
    intro k d k' d' hk hk' hd hd' hdd h
    have h0 := Mi_ok hk
    have h1 := Mi_ok hk'
    have g0 := gap_lt hk
    have g1 := gap_lt hk'
    have hc : (Mi a k' + (d' - d)) % a.Read.length = Mi a k := by
      have hM := h0.1
      have hM' := h1.1
      rcases Nat.lt_or_ge (Mi a k' + (d' - d)) a.Read.length with w | w
      · rw [mod_lo w]
        rcases Nat.lt_or_ge (Mi a k + d) a.Read.length with u | u <;> rcases Nat.lt_or_ge (Mi a k' + d') a.Read.length with v | v
        · rw [mod_lo u, mod_lo v] at h; omega
        · rw [mod_lo u, mod_hi v (by omega)] at h; omega
        · rw [mod_hi u (by omega), mod_lo v] at h; omega
        · rw [mod_hi u (by omega), mod_hi v (by omega)] at h; omega
      · rw [mod_hi w (by omega)]
        rcases Nat.lt_or_ge (Mi a k + d) a.Read.length with u | u <;> rcases Nat.lt_or_ge (Mi a k' + d') a.Read.length with v | v
        · rw [mod_lo u, mod_lo v] at h; omega
        · rw [mod_lo u, mod_hi v (by omega)] at h; omega
        · rw [mod_hi u (by omega), mod_lo v] at h; omega
        · rw [mod_hi u (by omega), mod_hi v (by omega)] at h; omega
    by_cases hz : d' - d = 0
    · rw [hz, Nat.add_zero, mod_lo h1.1] at hc
      exact ⟨(Mi_inj hk' hk hc).symm, by omega⟩
    · have := gap_not hk' (show 1 ≤ d' - d by omega) (by omega)
      rw [hc, h0.2] at this
      cases this
  rcases Nat.le_total d d' with hle | hle
  · exact key hk hk' hd hd' hle h
  · have := key hk' hk hd' hd hle h.symm
    exact ⟨this.1.symm, this.2.symm⟩

theorem repair_outer : ∀ (n x : Nat) (l : List Point), (meas a).length < x + n → x ≤ (meas a).length → l.length = a.Read.length → (∀ k d, k < x → d ≤ gap a k → l.getD ((Mi a k + d) % a.Read.length) default = val a k d) →
    ∃ r, ring_Repair_L2 a (ints (meas a)) n l (x : Int) = some r ∧ r.length = a.Read.length ∧ ∀ k d, k < (meas a).length → d ≤ gap a k → r.getD ((Mi a k + d) % a.Read.length) default = val a k d
  | 0, x, l, h1, h2, _, _ => by omega
  | n + 1, x, l, h1, h2, h3, h4 => by
    have hn := g.hi
    have hml := meas_le a
    unfold ring_Repair_L2
    by_cases hx : x < (meas a).length
    · have h0 := Mi_ok hx
      have hg := gap_lt hx
      have hk1 : (x + 1) % (meas a).length < (meas a).length := Nat.mod_lt _ (by omega)
      have h5 := Mi_ok hk1
      rw [ints_len, lt_t hx, inb_t (by omega) (by omega), nz_t (by omega), w64_succ x (by omega), tmod_nat, inb_t (n := (meas a).length) (show 0 ≤ (((x + 1) % (meas a).length : Nat) : Int) by omega) (by omega)]
      simp only [cond_true, Int.toNat_natCast, ints_getD]
      rw [show (meas a).getD ((x + 1) % (meas a).length) 0 = Mi a ((x + 1) % (meas a).length) from rfl, show (meas a).getD x 0 = Mi a x from rfl, h3, inb_t (show 0 ≤ ((Mi a x : Nat) : Int) by omega) (by omega), inb_t (show 0 ≤ ((Mi a ((x + 1) % (meas a).length) : Nat) : Int) by omega) (by omega), behind_eq a (by omega) hx]
      simp only [cond_true, Int.toNat_natCast, Option.bind_some]
      obtain ⟨r, hr, r1, r2, r3⟩ := repair_inner a g hx FUEL 1 (l.set (Mi a x) (Pt a (Mi a x))) (by rw [FUEL_eq]; omega) (by omega) (by omega) (by rw [List.length_set]; exact h3)
      have hr' : ring_Repair_L3 a (ints (meas a)) (x : Int) ((gap a x : Nat) : Int) FUEL (l.set (Mi a x) ((a.Read.getD (Mi a x) default).P)) 1 = some r := hr
      rw [hr']
      refine repair_outer n (x + 1) r (by omega) (by omega) r1 (fun k d hk hd => ?_)
      have hkm : k < (meas a).length := by omega
      by_cases he : k = x
      · subst he
        by_cases hz : d = 0
        · subst hz
          have hne : ∀ e, 1 ≤ e → e ≤ gap a k → Mi a k ≠ (Mi a k + e) % a.Read.length := fun e h1 h2 hc => by
            have := gap_not hkm h1 h2
            rw [← hc, h0.2] at this
            cases this
          rw [Nat.add_zero, mod_lo h0.1, r2 _ hne, getD_set_eq _ (by omega), val_zero]
        · exact r3 d (by omega) hd
      · rw [r2 _ (fun e h1 h2 hc => he (place_inj a g hkm hx hd h2 hc).1), getD_set_ne _ (fun hc => ?_), h4 k d (by omega) hd]
        refine he (place_inj a g hkm hx hd (Nat.zero_le _) ?_).1
        rw [Nat.add_zero, mod_lo h0.1]; exact hc.symm
    · rw [ints_len, lt_f hx]
      exact ⟨l, rfl, h3, fun k d hk => h4 k d (by omega)⟩

theorem place_ex (hm : 1 ≤ (meas a).length) {q : Nat} (hq : q < a.Read.length) : ∃ k d, k < (meas a).length ∧ d ≤ gap a k ∧ (Mi a k + d) % a.Read.length = q ∧ (d = 0 ↔ okAt a q = true) := by
  cases ho : okAt a q with
  | true =>
    obtain ⟨k, hk, e⟩ := meas_mem hq ho
    exact ⟨k, 0, hk, Nat.zero_le _, by rw [Nat.add_zero, e, mod_lo hq], by simp⟩
  | false =>
    obtain ⟨k, d, hk, h1, h2, h3⟩ := in_gap hm hq ho
    exact ⟨k, d, hk, h2, h3, by simp; omega⟩

theorem gap_three (hm : 2 ≤ (meas a).length) {k : Nat} (hk : k < (meas a).length) : gap a k + 1 < a.Read.length := by
  have h0 := Mi_ok hk
  unfold gap
  split
  · rename_i h
    have h1 := Mi_ok h
    have := Mi_lt (a := a) (show k < k + 1 by omega) h
    omega
  · have := Mi_lt (a := a) (show 0 < k by omega) hk
    omega

theorem ref_repair_loop (r : List Point) (hr1 : r.length = a.Read.length) (hm : 2 ≤ (meas a).length) (hr : ∀ k d, k < (meas a).length → d ≤ gap a k → r.getD ((Mi a k + d) % a.Read.length) default = val a k d) :
    ∀ (n x : Nat), a.Read.length < x + n → x ≤ a.Read.length → ref12_Repair_L2 a n (r.take x) (x : Int) = some r
  | 0, x, h1, h2 => by omega
  | n + 1, x, h1, h2 => by
    have hn := g.hi
    have hlo := g.lo
    unfold ref12_Repair_L2
    by_cases hx : x < a.Read.length
    · have hlen : (r.take x).length = x := by rw [List.length_take]; omega
      have htk : r.take (x + 1) = r.take x ++ [r.getD x default] := by
        rw [List.take_add_one, List.getElem?_eq_getElem (by omega), List.getD_eq_getElem?_getD, List.getElem?_eq_getElem (by omega)]; rfl
      obtain ⟨k, d, hk, hd, hq, hz⟩ := place_ex a g (by omega) hx
      have h0 := Mi_ok hk
      have hg := gap_lt hk
      have ih := ref_repair_loop r hr1 hm hr n (x + 1) (by omega) (by omega)
      rw [lt_t hx, inb_t (by omega) (by omega), hlen, room_t (by omega)]
      simp only [cond_true, Int.toNat_natCast, ref12_Repair_k3, w64_succ x (by omega)]
      rw [show (a.Read.getD x default).Ok = okAt a x from rfl]
      have hv := hr k d hk hd
      rw [hq] at hv
      rw [htk, hv] at ih
      cases ho : okAt a x with
      | true =>
        have hd0 := hz.2 ho
        subst hd0
        rw [val_zero] at ih
        rw [Nat.add_zero, mod_lo h0.1] at hq
        subst hq
        exact ih
      | false =>
        have hd0 : 1 ≤ d := by rcases Nat.eq_zero_or_pos d with h | h; · rw [hz.1 h] at ho; cases ho
                               · exact h
        have hk1 : (k + 1) % (meas a).length < (meas a).length := Nat.mod_lt _ (by omega)
        have h5 := Mi_ok hk1
        have hup := next_up a (by omega) hk hd
        have hdn := next_dn a (by omega) hk hd0 (by omega)
        rw [hq] at hup hdn
        rw [hup, hdn]
        have hM := h0.1
        have g3 := gap_three a g hm hk
        have q1 : Int.tmod (w64 (w64 ((x : Int) - ((Mi a k : Nat) : Int)) + ((a.Read.length : Nat) : Int))) ((a.Read.length : Nat) : Int) = (d : Int) := by
          rw [w64_id (n := (x : Int) - _) (by omega) (by omega), w64_id (by omega) (by omega)]
          rcases Nat.lt_or_ge (Mi a k + d) a.Read.length with u | u
          · rw [mod_lo u] at hq
            rw [show (x : Int) - ((Mi a k : Nat) : Int) + ((a.Read.length : Nat) : Int) = ((d + a.Read.length : Nat) : Int) by omega, tmod_nat, Nat.add_mod_right, mod_lo (by omega)]
          · rw [mod_hi u (by omega)] at hq
            rw [show (x : Int) - ((Mi a k : Nat) : Int) + ((a.Read.length : Nat) : Int) = ((d : Nat) : Int) by omega, tmod_nat, mod_lo (by omega)]
        have hgn := gap_next hk
        have q2 : Int.tmod (w64 (w64 (((Mi a ((k + 1) % (meas a).length) : Nat) : Int) - ((Mi a k : Nat) : Int)) + ((a.Read.length : Nat) : Int))) ((a.Read.length : Nat) : Int) = ((gap a k + 1 : Nat) : Int) := by
          rw [w64_id (n := _ - _) (by omega) (by omega), w64_id (by omega) (by omega)]
          rcases Nat.lt_or_ge (Mi a k + (gap a k + 1)) a.Read.length with u | u
          · rw [mod_lo u] at hgn
            rw [show ((Mi a ((k + 1) % (meas a).length) : Nat) : Int) - ((Mi a k : Nat) : Int) + ((a.Read.length : Nat) : Int) = ((gap a k + 1 + a.Read.length : Nat) : Int) by omega, tmod_nat, Nat.add_mod_right, mod_lo (by omega)]
          · rw [mod_hi u (by omega)] at hgn
            rw [show ((Mi a ((k + 1) % (meas a).length) : Nat) : Int) - ((Mi a k : Nat) : Int) + ((a.Read.length : Nat) : Int) = ((gap a k + 1 : Nat) : Int) by omega, tmod_nat, mod_lo (by omega)]
        have hp := Pt_small g (Mi a k)
        have hqq := Pt_small g (nb a k 1)
        obtain ⟨e1, e2, e3, e4⟩ := mix_step (Pt a (Mi a k)).X (Pt a (nb a k 1)).X d (gap a k) hp.1 hp.2.1 hqq.1 hqq.2.1 (by omega) (by omega)
        obtain ⟨f1, f2, f3, f4⟩ := mix_step (Pt a (Mi a k)).Y (Pt a (nb a k 1)).Y d (gap a k) hp.2.2.1 hp.2.2.2 hqq.2.2.1 hqq.2.2.2 (by omega) (by omega)
        simp only [cond_false, Option.bind_some, Int.toNat_natCast]
        rw [nz_t (by omega), inb_t (show 0 ≤ ((Mi a k : Nat) : Int) by omega) (by omega), inb_t (show 0 ≤ ((Mi a ((k + 1) % (meas a).length) : Nat) : Int) by omega) (by omega), q1, q2]
        rw [show (a.Read.getD (Mi a k) default).P = Pt a (Mi a k) from rfl, show (a.Read.getD (Mi a ((k + 1) % (meas a).length)) default).P = Pt a (nb a k 1) from rfl, e1, f1, ref_floor_eq _ _ (by omega) (by omega) e3 e4, ref_floor_eq _ _ (by omega) (by omega) f3 f4]
        simp only [cond_true, Option.bind_some, e2, f2]
        exact ih
    · rw [lt_f hx, List.take_of_length_le (by omega)]
      rfl

/-- Both fill alike: a list of points that is, at each place, the place's value. -/
theorem repaired (hm : 2 ≤ (meas a).length) : ∃ r, r.length = a.Read.length ∧ (∀ k d, k < (meas a).length → d ≤ gap a k → r.getD ((Mi a k + d) % a.Read.length) default = val a k d) ∧
    ring_Repair_L2 a (ints (meas a)) FUEL (List.replicate (((a.Read.length : Nat) : Int).toNat) (Point.mk 0 0)) 0 = some r ∧ ref12_Repair_L2 a FUEL [] 0 = some r := by
  have hn := g.hi
  have hml := meas_le a
  obtain ⟨r, h1, h2, h3⟩ := repair_outer a g FUEL 0 (List.replicate (((a.Read.length : Nat) : Int).toNat) (Point.mk 0 0)) (by rw [FUEL_eq]; omega) (by omega) (by simp) (fun k d h => by omega)
  refine ⟨r, h2, h3, h1, ?_⟩
  have := ref_repair_loop a g r h2 hm h3 FUEL 0 (by rw [FUEL_eq]; omega) (by omega)
  rw [List.take_zero] at this
  exact this

end

/-- The filled points; nothing where the ring can't be filled. -/
noncomputable def fill (a : Ring) : List Point := Classical.epsilon fun r => r.length = a.Read.length ∧ ∀ k d, k < (meas a).length → d ≤ gap a k → r.getD ((Mi a k + d) % a.Read.length) default = val a k d
def longest (a : Ring) : Int := match ring_Gaps a with
  | some x => x.2
  | none => 0
/-- Whether it can be filled. -/
def canFill (a : Ring) (most : Int) : Bool := !decide ((((meas a).length : Nat) : Int) < 3) && !(decide (((a.Read.length - (meas a).length : Nat) : Int) > 0) && decide (longest a > most))

theorem fill_unique (a : Ring) (g : Good a) (hm : 2 ≤ (meas a).length) {r : List Point} (h1 : r.length = a.Read.length) (h2 : ∀ k d, k < (meas a).length → d ≤ gap a k → r.getD ((Mi a k + d) % a.Read.length) default = val a k d) : r = fill a := by
  have := Classical.epsilon_spec (p := fun r : List Point => r.length = a.Read.length ∧ ∀ k d, k < (meas a).length → d ≤ gap a k → r.getD ((Mi a k + d) % a.Read.length) default = val a k d) ⟨r, h1, h2⟩
  refine ext_getD (h1.trans this.1.symm) (fun j hj => ?_)
  obtain ⟨k, d, hk, hd, hq, _⟩ := place_ex a g (by omega) (show j < a.Read.length by omega)
  rw [← hq, h2 k d hk hd]
  exact (this.2 k d hk hd).symm
theorem fill_spec (a : Ring) (g : Good a) (hm : 2 ≤ (meas a).length) : (fill a).length = a.Read.length ∧ (∀ k d, k < (meas a).length → d ≤ gap a k → (fill a).getD ((Mi a k + d) % a.Read.length) default = val a k d) ∧
    ring_Repair_L2 a (ints (meas a)) FUEL (List.replicate (((a.Read.length : Nat) : Int).toNat) (Point.mk 0 0)) 0 = some (fill a) ∧ ref12_Repair_L2 a FUEL [] 0 = some (fill a) := by
  obtain ⟨r, h1, h2, h3, h4⟩ := repaired a g hm
  obtain rfl := fill_unique a g hm h1 h2
  exact ⟨h1, h2, h3, h4⟩

theorem ring_repair (a : Ring) (g : Good a) (most : Int) : ring_Repair a most = some (bif canFill a most then (fill a, 0) else ([], 30)) := by
  have hn := g.hi
  have hml := meas_le a
  obtain ⟨L, hL, _⟩ := gaps a (by omega)
  unfold ring_Repair ring_Repair_k1 canFill
  have hlo : longest a = (L : Int) := by unfold longest; rw [hL]
  have hmk : mkOk ((a.Read.length : Nat) : Int) 16 = true := by unfold mkOk; exact decide_eq_true ⟨by omega, by omega, by omega⟩
  rw [ring_check, (good_iff a).2 g, measured_eq a (by omega), hL, hlo, hmk]
  simp only [Option.bind_some, bne_self_eq_false, cond_false, ints_len]
  by_cases h3 : (((meas a).length : Nat) : Int) < 3
  · rw [decide_eq_true h3]; rfl
  · rw [decide_eq_false h3, (fill_spec a g (by omega)).2.2.1]
    cases decide (((a.Read.length - (meas a).length : Nat) : Int) > 0) <;> cases decide ((L : Int) > most) <;> rfl
theorem ref_repair (a : Ring) (g : Good a) (most : Int) : ref12_Repair a most = some (bif canFill a most then (fill a, 0) else ([], 30)) := by
  have hn := g.hi
  have hml := meas_le a
  obtain ⟨L, hL, hR⟩ := gaps a (by omega)
  unfold ref12_Repair ref12_Repair_k1 canFill
  have hlo : longest a = (L : Int) := by unfold longest; rw [hL]
  rw [ref_check, (good_iff a).2 g, hR, hlo]
  simp only [Option.bind_some, bne_self_eq_false, cond_false]
  rw [w64_id (by omega) (by omega), show ((a.Read.length : Nat) : Int) - ((a.Read.length - (meas a).length : Nat) : Int) = (((meas a).length : Nat) : Int) by omega]
  by_cases h3 : (((meas a).length : Nat) : Int) < 3
  · rw [decide_eq_true h3]; rfl
  · rw [decide_eq_false h3, (fill_spec a g (by omega)).2.2.2]
    cases decide (((a.Read.length - (meas a).length : Nat) : Int) > 0) <;> cases decide ((L : Int) > most) <;> rfl
theorem ring_repair_bad (a : Ring) (hb : chk a ≠ 0) (most : Int) : ring_Repair a most = some ([], chk a) := by
  unfold ring_Repair
  rw [ring_check]
  simp only [Option.bind_some, bne_iff_ne.2 hb, cond_true]
theorem ref_repair_bad (a : Ring) (hb : chk a ≠ 0) (most : Int) : ref12_Repair a most = some ([], chk a) := by
  unfold ref12_Repair
  rw [ref_check]
  simp only [Option.bind_some, bne_iff_ne.2 hb, cond_true]

theorem repairs_same (v : List Point × Int) (h : v.1.length ≤ 1000) : ∀ (n x : Nat), v.1.length < x + n → x ≤ v.1.length → law12_RingRepairs_L2 v v n (x : Int) = some (.inr ())
  | 0, x, h1, h2 => by omega
  | n + 1, x, h1, h2 => by
    unfold law12_RingRepairs_L2
    by_cases hx : x < v.1.length
    · rw [lt_t hx, inb_t (by omega) (by omega), w64_succ x (by omega), repairs_same v h n (x + 1) (by omega) (by omega)]
      simp
    · rw [lt_f hx]; rfl

theorem RingRepairs_true (a : Ring) (r : Int) (_ : wfRing a) (_ : i64ok r) : law12_RingRepairs a r = some true := by
  have key : ∃ v, ring_Repair a r = some v ∧ ref12_Repair a r = some v ∧ v.1.length ≤ 1000 := by
    by_cases h : chk a = 0
    · have g := (good_iff a).1 h
      refine ⟨_, ring_repair a g r, ref_repair a g r, ?_⟩
      cases hc : canFill a r with
      | false => exact Nat.zero_le _
      | true =>
        have hm : 2 ≤ (meas a).length := by
          unfold canFill at hc
          rcases Nat.lt_or_ge (meas a).length 3 with h3 | h3
          · rw [decide_eq_true (by omega)] at hc; cases hc
          · omega
        have h1 := (fill_spec a g hm).1
        have := g.hi
        show (fill a).length ≤ 1000
        omega
    · exact ⟨_, ring_repair_bad a h r, ref_repair_bad a h r, Nat.zero_le _⟩
  obtain ⟨v, h1, h2, h3⟩ := key
  have hl : law12_RingRepairs_L2 v v FUEL 0 = some (.inr ()) := repairs_same v h3 FUEL 0 (by rw [FUEL_eq]; omega) (by omega)
  unfold law12_RingRepairs law12_few law12_RingRepairs_k1
  simp only [Option.bind_some, awake_true, h1, h2, hl, bne_self_eq_false, cond_false, Sum.elim_inr]
  cases decide (((a.Read.length : Nat) : Int) ≤ 100) <;> rfl
end Saw
end Go.SL
