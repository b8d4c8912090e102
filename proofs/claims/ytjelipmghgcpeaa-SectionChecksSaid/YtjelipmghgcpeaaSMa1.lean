/- Plain mathematics that all seats use: 64-bit sums that do not wrap, bounds, lists. -/
import Derived.Test.YtjelipmghgcpeaaYa5
import Derived.Test.YtjelipmghgcpeaaSMod
set_option linter.unusedVariables false
set_option linter.unusedSimpArgs false
namespace Go.SL

theorem FUEL_eq : FUEL = 4611686018427387904 := by unfold FUEL; rfl
theorem w64_id {n : Int} (h1 : -9223372036854775808 ≤ n) (h2 : n ≤ 9223372036854775807) : w64 n = n := by
  unfold w64 IntKind.wrap
  simp only [IntKind.bits, IntKind.signed, Bool.true_and]
  split
  · rename_i h
    have h' : n % 2 ^ 64 ≥ 2 ^ (64 - 1) := of_decide_eq_true h
    omega
  · rename_i h
    have h' : ¬ n % 2 ^ 64 ≥ 2 ^ (64 - 1) := fun hh => h (decide_eq_true hh)
    omega
theorem inb_t {i : Int} {n : Nat} (h0 : 0 ≤ i) (h1 : i < (n : Int)) : inb i n = true := by unfold inb; exact decide_eq_true ⟨h0, h1⟩
theorem nz_t {b : Int} (h : b ≠ 0) : nz b = true := by unfold nz; exact decide_eq_true h
theorem room_t {n b : Nat} (h : n * b ≤ 140737488355328) : room n b = true := by unfold room; exact decide_eq_true h
theorem lt_t {a b : Int} (h : a < b) : decide (a < b) = true := decide_eq_true h
theorem lt_f {a b : Int} (h : ¬ a < b) : decide (a < b) = false := decide_eq_false h
theorem inc_eq {x : Nat} (h : x < 4611686018427387904) : w64 ((x : Int) + 1) = ((x + 1 : Nat) : Int) := by rw [w64_id (by omega) (by omega)]; omega
theorem drop_getD {α : Type} [Inhabited α] (l : List α) (x : Nat) (h : x < l.length) : l.drop x = l.getD x default :: l.drop (x + 1) := by
  rw [List.drop_eq_getElem_cons h, List.getD_eq_getElem?_getD, List.getElem?_eq_getElem h]
  rfl
theorem getD_mem' {α : Type} [Inhabited α] {l : List α} {x : Nat} (h : x < l.length) : l.getD x default ∈ l := by
  rw [List.getD_eq_getElem?_getD, List.getElem?_eq_getElem h]; exact List.getElem_mem h
/-- The next corner's number. -/
theorem nxt_eq {n x : Nat} (hn : 0 < n) (hx : x < 4611686018427387904) : Int.tmod (w64 ((x : Int) + 1)) (n : Int) = (((x + 1) % n : Nat) : Int) := by
  rw [inc_eq hx]
  rfl
theorem mul_bound {a b m n : Int} (h1 : -m ≤ a) (h2 : a ≤ m) (h3 : -n ≤ b) (h4 : b ≤ n) (hm : 0 ≤ m) (hn : 0 ≤ n) : -(m * n) ≤ a * b ∧ a * b ≤ m * n := by
  constructor
  · have e1 := Int.mul_nonneg (show 0 ≤ m - a by omega) (show 0 ≤ n + b by omega)
    have e2 := Int.mul_nonneg (show 0 ≤ m + a by omega) (show 0 ≤ n - b by omega)
    have e3 := Int.mul_nonneg (show 0 ≤ m + a by omega) (show 0 ≤ n + b by omega)
    rcases Int.le_total 0 b with hb | hb
    · have := Int.mul_nonneg (show 0 ≤ m + a by omega) hb
      have h5 := Int.mul_nonneg hm (show 0 ≤ n - b by omega)
      simp only [Int.add_mul, Int.mul_add, Int.sub_mul, Int.mul_sub] at *
      omega
    · have := Int.mul_nonneg (show 0 ≤ m - a by omega) (show 0 ≤ -b by omega)
      have h5 := Int.mul_nonneg hm (show 0 ≤ n + b by omega)
      simp only [Int.add_mul, Int.mul_add, Int.sub_mul, Int.mul_sub, Int.mul_neg] at *
      omega
  · rcases Int.le_total 0 b with hb | hb
    · have := Int.mul_nonneg (show 0 ≤ m - a by omega) hb
      have h5 := Int.mul_nonneg hm (show 0 ≤ n - b by omega)
      simp only [Int.add_mul, Int.mul_add, Int.sub_mul, Int.mul_sub] at *
      omega
    · have := Int.mul_nonneg (show 0 ≤ m + a by omega) (show 0 ≤ -b by omega)
      have h5 := Int.mul_nonneg hm (show 0 ≤ n + b by omega)
      simp only [Int.add_mul, Int.mul_add, Int.sub_mul, Int.mul_sub, Int.mul_neg] at *
      omega
end Go.SL

namespace Go.SL

theorem ext_getD {α : Type} [Inhabited α] {l t : List α} (h : l.length = t.length) (hj : ∀ j, j < l.length → l.getD j default = t.getD j default) : l = t := by
  apply List.ext_getElem h
  intro i h1 h2
  have := hj i h1
  rwa [List.getD_eq_getElem?_getD, List.getD_eq_getElem?_getD, List.getElem?_eq_getElem h1, List.getElem?_eq_getElem h2] at this
theorem getD_set_eq {α : Type} [Inhabited α] {l : List α} {x : Nat} (v : α) (h : x < l.length) : (l.set x v).getD x default = v := by
  rw [List.getD_eq_getElem?_getD, List.getElem?_set_self h]; rfl
theorem getD_set_ne {α : Type} [Inhabited α] {l : List α} {x j : Nat} (v : α) (h : x ≠ j) : (l.set x v).getD j default = l.getD j default := by
  rw [List.getD_eq_getElem?_getD, List.getElem?_set_ne h, ← List.getD_eq_getElem?_getD]
theorem getD_map {α β : Type} [Inhabited α] [Inhabited β] (f : α → β) (l : List α) {j : Nat} (h : j < l.length) : (l.map f).getD j default = f (l.getD j default) := by
  rw [List.getD_eq_getElem?_getD, List.getD_eq_getElem?_getD, List.getElem?_map, List.getElem?_eq_getElem h]; rfl

theorem quarter_ex (r : Int) : ∃ q : Nat, q < 4 ∧ Int.tmod (w64 (Int.tmod r 4 + 4)) 4 = (q : Int) := by
  have h1 := Int.tmod_lt_of_pos r (show (0 : Int) < 4 by decide)
  have h2 : -4 < Int.tmod r 4 := by
    rcases Int.le_total 0 r with h | h
    · have := Int.tmod_nonneg 4 h; omega
    · have := Int.tmod_nonneg 4 (show 0 ≤ -r by omega)
      have h3 := Int.tmod_lt_of_pos (-r) (show (0 : Int) < 4 by decide)
      rw [Int.neg_tmod] at this h3
      omega
  rw [w64_id (by omega) (by omega)]
  obtain ⟨n, hn⟩ := Int.eq_ofNat_of_zero_le (show 0 ≤ Int.tmod r 4 + 4 by omega)
  rw [hn]
  exact ⟨n % 4, Nat.mod_lt _ (by decide), rfl⟩


theorem mkOk_t {n b : Nat} (h : n * b ≤ 140737488355328) (hn : n ≤ 9223372036854775807) : mkOk ((n : Nat) : Int) b = true := by
  unfold mkOk
  exact decide_eq_true ⟨Int.natCast_nonneg n, by rw [← Int.natCast_mul, Nat.mul_comm]; exact Int.ofNat_le.2 h, Int.ofNat_le.2 hn⟩
end Go.SL

namespace Go.SL

theorem le_imin {a b X : Int} : X ≤ imin a b ↔ X ≤ a ∧ X ≤ b := by unfold imin; split <;> omega
theorem imax_le' {a b X : Int} : imax a b ≤ X ↔ a ≤ X ∧ b ≤ X := by unfold imax; split <;> omega
theorem imin_or (a b : Int) : (imin a b = a ∧ a ≤ b) ∨ (imin a b = b ∧ b ≤ a) := by unfold imin; split <;> omega
theorem imax_or (a b : Int) : (imax a b = a ∧ b ≤ a) ∨ (imax a b = b ∧ a ≤ b) := by unfold imax; split <;> omega
/-- A loop's run over a list: each element leaves with a result, or goes on with a state. -/
def run {α σ ρ : Type} (step : Nat → α → σ → ρ ⊕ σ) : Nat → List α → σ → ρ ⊕ σ
  | _, [], s => .inr s
  | x, a :: l, s => match step x a s with
    | .inl r => .inl r
    | .inr s' => run step (x + 1) l s'

theorem loop_run {α σ ρ β : Type} [Inhabited α] (l : List α) (L : Nat → σ → Int → Option β) (idx : Nat → Int) (step : Nat → α → σ → ρ ⊕ σ) (fin : ρ ⊕ σ → β) (Inv : Nat → σ → Prop)
    (h0 : ∀ n x s, x < l.length → Inv x s → match step x (l.getD x default) s with | .inl r => L (n + 1) s (idx x) = some (fin (.inl r)) | .inr s' => L (n + 1) s (idx x) = L n s' (idx (x + 1)) ∧ Inv (x + 1) s')
    (h1 : ∀ n s, Inv l.length s → L (n + 1) s (idx l.length) = some (fin (.inr s))) :
    ∀ (n x : Nat) (s : σ), l.length < x + n → x ≤ l.length → Inv x s → L n s (idx x) = some (fin (run step x (l.drop x) s))
  | 0, x, s, hn, hx, _ => by omega
  | n + 1, x, s, hn, hx, hi => by
    by_cases h : x < l.length
    · have k := h0 n x s h hi
      rw [drop_getD l x h]
      unfold run
      cases hs : step x (l.getD x default) s with
      | inl r => rw [hs] at k; exact k
      | inr s' =>
        rw [hs] at k
        rw [k.1]
        exact loop_run l L idx step fin Inv h0 h1 n (x + 1) s' (by omega) (by omega) k.2
    · have e : x = l.length := by omega
      subst e
      rw [List.drop_length]
      exact h1 n s hi
theorem run_inv {α σ ρ : Type} [Inhabited α] (l : List α) (step : Nat → α → σ → ρ ⊕ σ) (Inv : Nat → σ → Prop) (h : ∀ x s s', x < l.length → Inv x s → step x (l.getD x default) s = .inr s' → Inv (x + 1) s') :
    ∀ (x : Nat) (s s' : σ), x ≤ l.length → Inv x s → run step x (l.drop x) s = .inr s' → Inv l.length s' := by
  intro x
  induction hk : l.length - x generalizing x with
  | zero =>
    intro s s' hx hi hr
    have e : x = l.length := by omega
    subst e
    rw [List.drop_length] at hr
    cases hr
    exact hi
  | succ k ih =>
    intro s s' hx hi hr
    have h' : x < l.length := by omega
    rw [drop_getD l x h'] at hr
    unfold run at hr
    cases hs : step x (l.getD x default) s with
    | inl r => rw [hs] at hr; cases hr
    | inr t =>
      rw [hs] at hr
      exact ih (x + 1) (by omega) t s' (by omega) (h x s t h' hi hs) hr

/-- The whole loop from its beginning. -/
theorem loop0 {α σ ρ β : Type} [Inhabited α] (l : List α) (L : Nat → σ → Int → Option β) (idx : Nat → Int) (step : Nat → α → σ → ρ ⊕ σ) (fin : ρ ⊕ σ → β) (Inv : Nat → σ → Prop) (hl : l.length ≤ 1000000)
    (h0 : ∀ n x s, x < l.length → Inv x s → match step x (l.getD x default) s with | .inl r => L (n + 1) s (idx x) = some (fin (.inl r)) | .inr s' => L (n + 1) s (idx x) = L n s' (idx (x + 1)) ∧ Inv (x + 1) s')
    (h1 : ∀ n s, Inv l.length s → L (n + 1) s (idx l.length) = some (fin (.inr s))) {i : Int} (hi : i = idx 0) (s : σ) (hs : Inv 0 s) : L FUEL s i = some (fin (run step 0 l s)) := by
  have := loop_run l L idx step fin Inv h0 h1 FUEL 0 s (by rw [FUEL_eq]; omega) (Nat.zero_le _) hs
  rw [hi]
  simpa using this

/-! ### Loops that look for something -/
def findE {α ε : Type} (bad : α → Option ε) : List α → ε ⊕ Unit
  | [] => .inr ()
  | a :: l => match bad a with | some e => .inl e | none => findE bad l
theorem run_find {α ε : Type} (bad : α → Option ε) : ∀ (l : List α) (x : Nat), run (fun _ a (_ : Unit) => match bad a with | some e => (.inl e : ε ⊕ Unit) | none => .inr ()) x l () = findE bad l
  | [], _ => rfl
  | a :: l, x => by
    unfold run findE
    cases h : bad a with
    | some e => rfl
    | none => exact run_find bad l (x + 1)
theorem loop_find {α ε : Type} [Inhabited α] (l : List α) (L : Nat → Int → Option (ε ⊕ Unit)) (bad : α → Option ε) (hl : l.length ≤ 1000000)
    (h0 : ∀ n x, x < l.length → L (n + 1) ((x : Nat) : Int) = match bad (l.getD x default) with | some e => some (.inl e) | none => L n ((x + 1 : Nat) : Int))
    (h1 : ∀ n, L (n + 1) ((l.length : Nat) : Int) = some (.inr ())) : L FUEL 0 = some (findE bad l) := by
  have := loop0 l (fun n (_ : Unit) x => L n x) (fun x => (x : Int)) (fun _ a _ => match bad a with | some e => (.inl e : ε ⊕ Unit) | none => .inr ()) (fun r => r) (fun _ _ => True) hl
    (fun n x s hx _ => by
      have := h0 n x hx
      cases hb : bad (l.getD x default) with
      | some e => simp only; rw [this, hb]
      | none => simp only; rw [this, hb]; exact ⟨rfl, trivial⟩)
    (fun n s _ => h1 n) (i := 0) rfl () trivial
  rw [run_find] at this
  exact this
theorem findE_none {α ε : Type} {bad : α → Option ε} : ∀ {l : List α}, findE bad l = .inr () ↔ ∀ a ∈ l, bad a = none
  | [] => by simp [findE]
  | a :: l => by
    unfold findE
    cases h : bad a with
    | some e => simp [h]
    | none => simp [h, findE_none (l := l)]
theorem findE_congr {α ε : Type} {b1 b2 : α → Option ε} : ∀ {l : List α}, (∀ a ∈ l, b1 a = b2 a) → findE b1 l = findE b2 l
  | [], _ => rfl
  | a :: l, h => by
    unfold findE
    rw [h a (by simp), findE_congr (fun x hx => h x (List.mem_cons_of_mem _ hx))]

/-! ### Loops that add up -/
def foldi {α σ : Type} (f : Nat → α → σ → σ) : Nat → List α → σ → σ
  | _, [], s => s
  | x, a :: l, s => foldi f (x + 1) l (f x a s)
theorem run_fold {α σ ρ : Type} (f : Nat → α → σ → σ) : ∀ (l : List α) (x : Nat) (s : σ), run (fun x a s => (.inr (f x a s) : ρ ⊕ σ)) x l s = .inr (foldi f x l s)
  | [], _, _ => rfl
  | a :: l, x, s => by unfold run foldi; exact run_fold f l (x + 1) (f x a s)
theorem loop_fold {α σ β : Type} [Inhabited α] (l : List α) (L : Nat → σ → Int → Option β) (idx : Nat → Int) (f : Nat → α → σ → σ) (out : σ → β) (Inv : Nat → σ → Prop) (hl : l.length ≤ 1000000)
    (h0 : ∀ n x s, x < l.length → Inv x s → L (n + 1) s (idx x) = L n (f x (l.getD x default) s) (idx (x + 1)) ∧ Inv (x + 1) (f x (l.getD x default) s))
    (h1 : ∀ n s, Inv l.length s → L (n + 1) s (idx l.length) = some (out s)) {i : Int} (hi : i = idx 0) (s : σ) (hs : Inv 0 s) : L FUEL s i = some (out (foldi f 0 l s)) ∧ Inv l.length (foldi f 0 l s) := by
  have k := loop0 l L idx (fun x a s => (.inr (f x a s) : Unit ⊕ σ)) (fun r => match r with | .inl _ => out s | .inr s => out s) Inv hl (fun n x s hx hi => h0 n x s hx hi) (fun n s hi => h1 n s hi) hi s hs
  rw [run_fold] at k
  refine ⟨k, ?_⟩
  exact run_inv l (fun x a s => (.inr (f x a s) : Unit ⊕ σ)) Inv (fun x s s' hx hi e => by cases e; exact (h0 0 x s hx hi).2) 0 s _ (Nat.zero_le _) hs (by rw [List.drop_zero]; exact run_fold f l 0 s)
theorem foldi_foldl {α σ : Type} (f : α → σ → σ) : ∀ (l : List α) (x : Nat) (s : σ), foldi (fun _ => f) x l s = l.foldl (fun s a => f a s) s
  | [], _, _ => rfl
  | a :: l, x, s => by unfold foldi; exact foldi_foldl f l (x + 1) (f a s)
def mapi {α β : Type} (g : Nat → α → β) : Nat → List α → List β
  | _, [] => []
  | x, a :: l => g x a :: mapi g (x + 1) l
/-- A list that grows by one element each time. -/
theorem foldi_map {α β : Type} (g : Nat → α → β) : ∀ (l : List α) (x : Nat) (t : List β), foldi (fun x a (t : List β) => t ++ [g x a]) x l t = t ++ mapi g x l
  | [], _, t => by simp [foldi, mapi]
  | a :: l, x, t => by unfold foldi mapi; rw [foldi_map g l (x + 1) (t ++ [g x a])]; simp
theorem mapi_len {α β : Type} (g : Nat → α → β) : ∀ (l : List α) (x : Nat), (mapi g x l).length = l.length
  | [], _ => rfl
  | a :: l, x => by simp [mapi, mapi_len g l (x + 1)]
theorem mapi_map {α β : Type} (g : α → β) : ∀ (l : List α) (x : Nat), mapi (fun _ => g) x l = l.map g
  | [], _ => rfl
  | a :: l, x => by simp [mapi, mapi_map g l (x + 1)]
theorem mapi_get {α β : Type} [Inhabited α] [Inhabited β] (g : Nat → α → β) : ∀ (l : List α) (x j : Nat), j < l.length → (mapi g x l).getD j default = g (x + j) (l.getD j default)
  | [], _, j, h => by simp at h
  | a :: l, x, 0, _ => by simp [mapi]
  | a :: l, x, j + 1, h => by
    have := mapi_get g l (x + 1) j (by simpa using h)
    rw [show x + (j + 1) = x + 1 + j by omega]
    simpa [mapi] using this
end Go.SL

namespace Go.SL
namespace Saw
theorem awake_true : law10_awake = some true := by kernel_rfl
end Saw
end Go.SL

namespace Go.SL
namespace Saw

def empS (s : Span) : Bool := decide (s.B ≤ s.A)
def rngS (s : Span) : Bool := (decide (-600 ≤ s.A) && decide (s.A ≤ 600)) && (decide (-600 ≤ s.B) && decide (s.B ≤ 600))
def zeroS (s : Span) : Bool := (s.A == 0) && (s.B == 0)
theorem rngS_iff {s : Span} : rngS s = true ↔ (-600 ≤ s.A ∧ s.A ≤ 600) ∧ (-600 ≤ s.B ∧ s.B ≤ 600) := by unfold rngS; simp
theorem section_isEmpty_eq (s : Span) : section_isEmpty s = some (empS s) := rfl
theorem ref10_empty_eq (s : Span) : ref10_empty s = some (empS s) := rfl
theorem section_inRange_eq (s : Span) : section_inRange s = some (rngS s) := by
  have e : rngS s = (decide (imin s.A s.B ≥ -600) && decide (imax s.A s.B ≤ 600)) := by
    rw [Bool.eq_iff_iff, rngS_iff, Bool.and_eq_true, decide_eq_true_eq, decide_eq_true_eq, ge_iff_le, le_imin, imax_le']
    omega
  unfold section_inRange section_inRange_k1
  rw [e]
  cases decide (imin s.A s.B ≥ -600) <;> rfl
theorem ref10_beyond_eq (n : Int) : ref10_beyond n = some (!(decide (-600 ≤ n) && decide (n ≤ 600))) := by
  unfold ref10_beyond ref10_beyond_k1
  by_cases h1 : n < -600
  · rw [decide_eq_true h1, decide_eq_false (show ¬ -600 ≤ n by omega)]; rfl
  · rw [decide_eq_false h1, decide_eq_true (show -600 ≤ n by omega)]
    by_cases h2 : n > 600
    · rw [decide_eq_true h2, decide_eq_false (show ¬ n ≤ 600 by omega)]; rfl
    · rw [decide_eq_false h2, decide_eq_true (show n ≤ 600 by omega)]; rfl
def bad9 (s : Span) : Option Int := bif rngS s then none else some 9
def bad19 (s : Span) : Option Int := bif empS s && !zeroS s then some 19 else none
def chkRows (s : Section) : Int :=
  match findE bad9 s.Rows with
  | .inl e => e
  | .inr _ =>
    if s.Rows.length = 0 then (if s.Low = 0 then 0 else 19)
    else if empS (s.Rows.getD 0 default) = true ∨ empS (s.Rows.getD (s.Rows.length - 1) default) = true then 19
    else match findE bad19 s.Rows with
      | .inl e => e
      | .inr _ => 0
def chk10 (s : Section) : Int := if 120 < s.Rows.length then 4 else if s.Low < -60 ∨ 60 - (s.Rows.length : Int) < s.Low then 9 else chkRows s
theorem chk_L (s : Section) (hl : s.Rows.length ≤ 120) : section_Check_L2 s FUEL 0 = some (findE bad9 s.Rows) ∧ section_Check_L4 s FUEL 0 = some (findE bad19 s.Rows) ∧ ref10_Check_L2 s FUEL 0 = some (findE bad9 s.Rows) ∧ ref10_Check_L5 s FUEL 0 = some (findE bad19 s.Rows) := by
  have e1 : ∀ (l : List Span) (x : Nat), (l.length : Nat) < 1000 → x < l.length → decide ((x : Int) < ((l.length : Nat) : Int)) = true ∧ inb (x : Int) l.length = true ∧ w64 ((x : Int) + 1) = ((x + 1 : Nat) : Int) := fun l x h hx => ⟨decide_eq_true (by omega), inb_t (by omega) (by omega), inc_eq (by omega)⟩
  refine ⟨loop_find s.Rows (section_Check_L2 s) bad9 (by omega) (fun n x hx => ?_) (fun n => ?_), loop_find s.Rows (section_Check_L4 s) bad19 (by omega) (fun n x hx => ?_) (fun n => ?_), loop_find s.Rows (ref10_Check_L2 s) bad9 (by omega) (fun n x hx => ?_) (fun n => ?_), loop_find s.Rows (ref10_Check_L5 s) bad19 (by omega) (fun n x hx => ?_) (fun n => ?_)⟩
  · obtain ⟨a1, a2, a3⟩ := e1 s.Rows x (by omega) hx
    rw [section_Check_L2]
    simp only [a1, a2, a3, cond_true, Int.toNat_natCast, section_inRange_eq, Option.bind_some, bad9]
    cases rngS (s.Rows.getD x default) <;> rfl
  · unfold section_Check_L2; simp
  · obtain ⟨a1, a2, a3⟩ := e1 s.Rows x (by omega) hx
    rw [section_Check_L4]
    simp only [section_Check_k5, a1, a2, a3, cond_true, Int.toNat_natCast, section_isEmpty_eq, Option.bind_some, bad19, zeroS, Bool.and_true]
    cases empS (s.Rows.getD x default) <;> cases ((s.Rows.getD x default).A == 0 && (s.Rows.getD x default).B == 0) <;> rfl
  · unfold section_Check_L4; simp
  · obtain ⟨a1, a2, a3⟩ := e1 s.Rows x (by omega) hx
    rw [ref10_Check_L2]
    simp only [ref10_Check_k3, a1, a2, a3, cond_true, Int.toNat_natCast, ref10_beyond_eq, Option.bind_some, bad9, rngS]
    cases (decide (-600 ≤ (s.Rows.getD x default).A) && decide ((s.Rows.getD x default).A ≤ 600)) <;> cases (decide (-600 ≤ (s.Rows.getD x default).B) && decide ((s.Rows.getD x default).B ≤ 600)) <;> rfl
  · unfold ref10_Check_L2; simp
  · obtain ⟨a1, a2, a3⟩ := e1 s.Rows x (by omega) hx
    rw [ref10_Check_L5]
    simp only [ref10_Check_k6, a1, a2, a3, cond_true, Int.toNat_natCast, ref10_empty_eq, Option.bind_some, bad19, zeroS, Bool.and_true]
    cases empS (s.Rows.getD x default) <;> cases ((s.Rows.getD x default).A == 0 && (s.Rows.getD x default).B == 0) <;> rfl
  · unfold ref10_Check_L5; simp
theorem chk10_eq (s : Section) : section_Check s = some (chk10 s) ∧ ref10_Check s = some (chk10 s) := by
  unfold section_Check ref10_Check chk10
  by_cases h : 120 < s.Rows.length
  · rw [decide_eq_true (show ((s.Rows.length : Nat) : Int) > 120 by omega), if_pos h]; exact ⟨rfl, rfl⟩
  rw [decide_eq_false (show ¬ ((s.Rows.length : Nat) : Int) > 120 by omega), if_neg h, w64_id (by omega) (by omega)]
  simp only [cond_false]
  obtain ⟨l1, l2, l3, l4⟩ := chk_L s (by omega)
  by_cases h1 : s.Low < -60
  · rw [decide_eq_true h1, if_pos (.inl h1)]; exact ⟨rfl, rfl⟩
  rw [decide_eq_false h1]
  by_cases h2 : 60 - (s.Rows.length : Int) < s.Low
  · rw [decide_eq_true (show s.Low > _ from h2), if_pos (.inr h2)]; exact ⟨rfl, rfl⟩
  rw [decide_eq_false (show ¬ s.Low > _ from h2), if_neg (by omega)]
  unfold section_Check_k1 ref10_Check_k1 section_Check_k3 ref10_Check_k4 chkRows
  simp only [cond_false, l1, l2, l3, l4, Option.bind_some, section_isEmpty_eq, ref10_empty_eq]
  cases findE bad9 s.Rows with
  | inl e => exact ⟨rfl, rfl⟩
  | inr u =>
    simp only [Sum.elim_inr]
    by_cases h0 : s.Rows.length = 0
    · rw [if_pos h0, h0]
      by_cases hw : s.Low = 0
      · rw [if_pos hw, hw]; exact ⟨rfl, rfl⟩
      · rw [if_neg hw]
        have : (s.Low != 0) = true := by simpa using hw
        simp [this]
    · rw [if_neg h0]
      have e0 : (((s.Rows.length : Nat) : Int) == 0) = false := by rw [beq_eq_false_iff_ne]; omega
      have e1 : w64 (((s.Rows.length : Nat) : Int) - 1) = ((s.Rows.length - 1 : Nat) : Int) := by rw [w64_id (by omega) (by omega)]; omega
      rw [e0, inb_t (by omega) (by omega), e1, inb_t (by omega) (by omega)]
      simp only [cond_false, cond_true, Int.toNat_zero, Int.toNat_natCast]
      cases hf : empS (s.Rows.getD 0 default) with
      | true => simp
      | false => cases hg : empS (s.Rows.getD (s.Rows.length - 1) default) with
        | true => simp
        | false =>
          simp only [cond_false, Bool.false_eq_true, or_self, if_false]
          cases findE bad19 s.Rows <;> exact ⟨rfl, rfl⟩
def nilS : Section := ⟨0, []⟩
def val10 (s : Section) : Section := if chk10 s = 0 then s else nilS
theorem val10_eq (s : Section) : section_valid s = some (val10 s) ∧ ref10_Valid s = some (val10 s) := by
  unfold section_valid ref10_Valid val10
  rw [(chk10_eq s).1, (chk10_eq s).2]
  simp only [Option.bind_some]
  by_cases h : chk10 s = 0
  · rw [h]; exact ⟨rfl, rfl⟩
  · have : (chk10 s != 0) = true := by simpa using h
    rw [this, if_neg h]; exact ⟨rfl, rfl⟩
theorem few_eq (s : Section) : law10_few s = some (decide (s.Rows.length ≤ 200)) := by
  unfold law10_few
  congr 1
  by_cases h : s.Rows.length ≤ 200
  · rw [decide_eq_true h]; exact decide_eq_true (by omega)
  · rw [decide_eq_false h]; exact decide_eq_false (by omega)
theorem SectionChecks_true (s : Section) {w : Prop} (_ : w) : law10_SectionChecks s = some true := by
  unfold law10_SectionChecks
  rw [few_eq, (chk10_eq s).1, (chk10_eq s).2]
  simp only [Option.bind_some, awake_true, law10_SectionChecks_k1, beq_self_eq_true]
  cases decide (s.Rows.length ≤ 200) <;> rfl
end Saw
end Go.SL
