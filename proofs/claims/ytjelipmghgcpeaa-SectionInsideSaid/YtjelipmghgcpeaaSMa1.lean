/- Plain mathematics that all seats use: 64-bit sums that do not wrap, bounds, lists. -/
import Derived.Test.YtjelipmghgcpeaaYa5
import Derived.Test.YtjelipmghgcpeaaSMod
set_option linter.unusedVariables false
set_option linter.unusedSimpArgs false
namespace Go.SL

theorem FUEL_eq : FUEL = 4611686018427387904 := by unfold FUEL; rfl
theorem w64_id {n : Int} (h1 : -9223372036854775808 ≤ n) (h2 : n ≤ 9223372036854775807) : w64 n = n := by
  unfold w64 IntKind.wrap
  simp only [IntKind.bits, IntKind.signed, Bool.true_and]
  split
  · rename_i h
    have h' : n % 2 ^ 64 ≥ 2 ^ (64 - 1) := of_decide_eq_true h
    omega
  · rename_i h
    have h' : ¬ n % 2 ^ 64 ≥ 2 ^ (64 - 1) := fun hh => h (decide_eq_true hh)
    omega
theorem inb_t {i : Int} {n : Nat} (h0 : 0 ≤ i) (h1 : i < (n : Int)) : inb i n = true := by unfold inb; exact decide_eq_true ⟨h0, h1⟩
theorem nz_t {b : Int} (h : b ≠ 0) : nz b = true := by unfold nz; exact decide_eq_true h
theorem room_t {n b : Nat} (h : n * b ≤ 140737488355328) : room n b = true := by unfold room; exact decide_eq_true h
theorem lt_t {a b : Int} (h : a < b) : decide (a < b) = true := decide_eq_true h
theorem lt_f {a b : Int} (h : ¬ a < b) : decide (a < b) = false := decide_eq_false h
theorem inc_eq {x : Nat} (h : x < 4611686018427387904) : w64 ((x : Int) + 1) = ((x + 1 : Nat) : Int) := by rw [w64_id (by omega) (by omega)]; omega
theorem drop_getD {α : Type} [Inhabited α] (l : List α) (x : Nat) (h : x < l.length) : l.drop x = l.getD x default :: l.drop (x + 1) := by
  rw [List.drop_eq_getElem_cons h, List.getD_eq_getElem?_getD, List.getElem?_eq_getElem h]
  rfl
theorem getD_mem' {α : Type} [Inhabited α] {l : List α} {x : Nat} (h : x < l.length) : l.getD x default ∈ l := by
  rw [List.getD_eq_getElem?_getD, List.getElem?_eq_getElem h]; exact List.getElem_mem h
/-- The next corner's number. -/
theorem nxt_eq {n x : Nat} (hn : 0 < n) (hx : x < 4611686018427387904) : Int.tmod (w64 ((x : Int) + 1)) (n : Int) = (((x + 1) % n : Nat) : Int) := by
  rw [inc_eq hx]
  rfl
theorem mul_bound {a b m n : Int} (h1 : -m ≤ a) (h2 : a ≤ m) (h3 : -n ≤ b) (h4 : b ≤ n) (hm : 0 ≤ m) (hn : 0 ≤ n) : -(m * n) ≤ a * b ∧ a * b ≤ m * n := by
  constructor
  · have e1 := Int.mul_nonneg (show 0 ≤ m - a by omega) (show 0 ≤ n + b by omega)
    have e2 := Int.mul_nonneg (show 0 ≤ m + a by omega) (show 0 ≤ n - b by omega)
    have e3 := Int.mul_nonneg (show 0 ≤ m + a by omega) (show 0 ≤ n + b by omega)
    rcases Int.le_total 0 b with hb | hb
    · have := Int.mul_nonneg (show 0 ≤ m + a by omega) hb
      have h5 := Int.mul_nonneg hm (show 0 ≤ n - b by omega)
      simp only [Int.add_mul, Int.mul_add, Int.sub_mul, Int.mul_sub] at *
      omega
    · have := Int.mul_nonneg (show 0 ≤ m - a by omega) (show 0 ≤ -b by omega)
      have h5 := Int.mul_nonneg hm (show 0 ≤ n + b by omega)
      simp only [Int.add_mul, Int.mul_add, Int.sub_mul, Int.mul_sub, Int.mul_neg] at *
      omega
  · rcases Int.le_total 0 b with hb | hb
    · have := Int.mul_nonneg (show 0 ≤ m - a by omega) hb
      have h5 := Int.mul_nonneg hm (show 0 ≤ n - b by omega)
      simp only [Int.add_mul, Int.mul_add, Int.sub_mul, Int.mul_sub] at *
      omega
    · have := Int.mul_nonneg (show 0 ≤ m + a by omega) (show 0 ≤ -b by omega)
      have h5 := Int.mul_nonneg hm (show 0 ≤ n + b by omega)
      simp only [Int.add_mul, Int.mul_add, Int.sub_mul, Int.mul_sub, Int.mul_neg] at *
      omega
end Go.SL

namespace Go.SL

theorem ext_getD {α : Type} [Inhabited α] {l t : List α} (h : l.length = t.length) (hj : ∀ j, j < l.length → l.getD j default = t.getD j default) : l = t := by
  apply List.ext_getElem h
  intro i h1 h2
  have := hj i h1
  rwa [List.getD_eq_getElem?_getD, List.getD_eq_getElem?_getD, List.getElem?_eq_getElem h1, List.getElem?_eq_getElem h2] at this
theorem getD_set_eq {α : Type} [Inhabited α] {l : List α} {x : Nat} (v : α) (h : x < l.length) : (l.set x v).getD x default = v := by
  rw [List.getD_eq_getElem?_getD, List.getElem?_set_self h]; rfl
theorem getD_set_ne {α : Type} [Inhabited α] {l : List α} {x j : Nat} (v : α) (h : x ≠ j) : (l.set x v).getD j default = l.getD j default := by
  rw [List.getD_eq_getElem?_getD, List.getElem?_set_ne h, ← List.getD_eq_getElem?_getD]
theorem getD_map {α β : Type} [Inhabited α] [Inhabited β] (f : α → β) (l : List α) {j : Nat} (h : j < l.length) : (l.map f).getD j default = f (l.getD j default) := by
  rw [List.getD_eq_getElem?_getD, List.getD_eq_getElem?_getD, List.getElem?_map, List.getElem?_eq_getElem h]; rfl

theorem quarter_ex (r : Int) : ∃ q : Nat, q < 4 ∧ Int.tmod (w64 (Int.tmod r 4 + 4)) 4 = (q : Int) := by
  have h1 := Int.tmod_lt_of_pos r (show (0 : Int) < 4 by decide)
  have h2 : -4 < Int.tmod r 4 := by
    rcases Int.le_total 0 r with h | h
    · have := Int.tmod_nonneg 4 h; omega
    · have := Int.tmod_nonneg 4 (show 0 ≤ -r by omega)
      have h3 := Int.tmod_lt_of_pos (-r) (show (0 : Int) < 4 by decide)
      rw [Int.neg_tmod] at this h3
      omega
  rw [w64_id (by omega) (by omega)]
  obtain ⟨n, hn⟩ := Int.eq_ofNat_of_zero_le (show 0 ≤ Int.tmod r 4 + 4 by omega)
  rw [hn]
  exact ⟨n % 4, Nat.mod_lt _ (by decide), rfl⟩


theorem mkOk_t {n b : Nat} (h : n * b ≤ 140737488355328) (hn : n ≤ 9223372036854775807) : mkOk ((n : Nat) : Int) b = true := by
  unfold mkOk
  exact decide_eq_true ⟨Int.natCast_nonneg n, by rw [← Int.natCast_mul, Nat.mul_comm]; exact Int.ofNat_le.2 h, Int.ofNat_le.2 hn⟩
end Go.SL

namespace Go.SL

theorem le_imin {a b X : Int} : X ≤ imin a b ↔ X ≤ a ∧ X ≤ b := by unfold imin; split <;> omega
theorem imax_le' {a b X : Int} : imax a b ≤ X ↔ a ≤ X ∧ b ≤ X := by unfold imax; split <;> omega
theorem imin_or (a b : Int) : (imin a b = a ∧ a ≤ b) ∨ (imin a b = b ∧ b ≤ a) := by unfold imin; split <;> omega
theorem imax_or (a b : Int) : (imax a b = a ∧ b ≤ a) ∨ (imax a b = b ∧ a ≤ b) := by unfold imax; split <;> omega
/-- A loop's run over a list: each element leaves with a result, or goes on with a state. -/
def run {α σ ρ : Type} (step : Nat → α → σ → ρ ⊕ σ) : Nat → List α → σ → ρ ⊕ σ
  | _, [], s => .inr s
  | x, a :: l, s => match step x a s with
    | .inl r => .inl r
    | .inr s' => run step (x + 1) l s'

theorem loop_run {α σ ρ β : Type} [Inhabited α] (l : List α) (L : Nat → σ → Int → Option β) (idx : Nat → Int) (step : Nat → α → σ → ρ ⊕ σ) (fin : ρ ⊕ σ → β) (Inv : Nat → σ → Prop)
    (h0 : ∀ n x s, x < l.length → Inv x s → match step x (l.getD x default) s with | .inl r => L (n + 1) s (idx x) = some (fin (.inl r)) | .inr s' => L (n + 1) s (idx x) = L n s' (idx (x + 1)) ∧ Inv (x + 1) s')
    (h1 : ∀ n s, Inv l.length s → L (n + 1) s (idx l.length) = some (fin (.inr s))) :
    ∀ (n x : Nat) (s : σ), l.length < x + n → x ≤ l.length → Inv x s → L n s (idx x) = some (fin (run step x (l.drop x) s))
  | 0, x, s, hn, hx, _ => by omega
  | n + 1, x, s, hn, hx, hi => by
    by_cases h : x < l.length
    · have k := h0 n x s h hi
      rw [drop_getD l x h]
      unfold run
      cases hs : step x (l.getD x default) s with
      | inl r => rw [hs] at k; exact k
      | inr s' =>
        rw [hs] at k
        rw [k.1]
        exact loop_run l L idx step fin Inv h0 h1 n (x + 1) s' (by omega) (by omega) k.2
    · have e : x = l.length := by omega
      subst e
      rw [List.drop_length]
      exact h1 n s hi
theorem run_inv {α σ ρ : Type} [Inhabited α] (l : List α) (step : Nat → α → σ → ρ ⊕ σ) (Inv : Nat → σ → Prop) (h : ∀ x s s', x < l.length → Inv x s → step x (l.getD x default) s = .inr s' → Inv (x + 1) s') :
    ∀ (x : Nat) (s s' : σ), x ≤ l.length → Inv x s → run step x (l.drop x) s = .inr s' → Inv l.length s' := by
  intro x
  induction hk : l.length - x generalizing x with
  | zero =>
    intro s s' hx hi hr
    have e : x = l.length := by omega
    subst e
    rw [List.drop_length] at hr
    cases hr
    exact hi
  | succ k ih =>
    intro s s' hx hi hr
    have h' : x < l.length := by omega
    rw [drop_getD l x h'] at hr
    unfold run at hr
    cases hs : step x (l.getD x default) s with
    | inl r => rw [hs] at hr; cases hr
    | inr t =>
      rw [hs] at hr
      exact ih (x + 1) (by omega) t s' (by omega) (h x s t h' hi hs) hr

/-- The whole loop from its beginning. -/
theorem loop0 {α σ ρ β : Type} [Inhabited α] (l : List α) (L : Nat → σ → Int → Option β) (idx : Nat → Int) (step : Nat → α → σ → ρ ⊕ σ) (fin : ρ ⊕ σ → β) (Inv : Nat → σ → Prop) (hl : l.length ≤ 1000000)
    (h0 : ∀ n x s, x < l.length → Inv x s → match step x (l.getD x default) s with | .inl r => L (n + 1) s (idx x) = some (fin (.inl r)) | .inr s' => L (n + 1) s (idx x) = L n s' (idx (x + 1)) ∧ Inv (x + 1) s')
    (h1 : ∀ n s, Inv l.length s → L (n + 1) s (idx l.length) = some (fin (.inr s))) {i : Int} (hi : i = idx 0) (s : σ) (hs : Inv 0 s) : L FUEL s i = some (fin (run step 0 l s)) := by
  have := loop_run l L idx step fin Inv h0 h1 FUEL 0 s (by rw [FUEL_eq]; omega) (Nat.zero_le _) hs
  rw [hi]
  simpa using this

/-! ### Loops that look for something -/
def findE {α ε : Type} (bad : α → Option ε) : List α → ε ⊕ Unit
  | [] => .inr ()
  | a :: l => match bad a with | some e => .inl e | none => findE bad l
theorem run_find {α ε : Type} (bad : α → Option ε) : ∀ (l : List α) (x : Nat), run (fun _ a (_ : Unit) => match bad a with | some e => (.inl e : ε ⊕ Unit) | none => .inr ()) x l () = findE bad l
  | [], _ => rfl
  | a :: l, x => by
    unfold run findE
    cases h : bad a with
    | some e => rfl
    | none => exact run_find bad l (x + 1)
theorem loop_find {α ε : Type} [Inhabited α] (l : List α) (L : Nat → Int → Option (ε ⊕ Unit)) (bad : α → Option ε) (hl : l.length ≤ 1000000)
    (h0 : ∀ n x, x < l.length → L (n + 1) ((x : Nat) : Int) = match bad (l.getD x default) with | some e => some (.inl e) | none => L n ((x + 1 : Nat) : Int))
    (h1 : ∀ n, L (n + 1) ((l.length : Nat) : Int) = some (.inr ())) : L FUEL 0 = some (findE bad l) := by
  have := loop0 l (fun n (_ : Unit) x => L n x) (fun x => (x : Int)) (fun _ a _ => match bad a with | some e => (.inl e : ε ⊕ Unit) | none => .inr ()) (fun r => r) (fun _ _ => True) hl
    (fun n x s hx _ => by
      have := h0 n x hx
      cases hb : bad (l.getD x default) with
      | some e => simp only; rw [this, hb]
      | none => simp only; rw [this, hb]; exact ⟨rfl, trivial⟩)
    (fun n s _ => h1 n) (i := 0) rfl () trivial
  rw [run_find] at this
  exact this
theorem findE_none {α ε : Type} {bad : α → Option ε} : ∀ {l : List α}, findE bad l = .inr () ↔ ∀ a ∈ l, bad a = none
  | [] => by simp [findE]
  | a :: l => by
    unfold findE
    cases h : bad a with
    | some e => simp [h]
    | none => simp [h, findE_none (l := l)]
theorem findE_congr {α ε : Type} {b1 b2 : α → Option ε} : ∀ {l : List α}, (∀ a ∈ l, b1 a = b2 a) → findE b1 l = findE b2 l
  | [], _ => rfl
  | a :: l, h => by
    unfold findE
    rw [h a (by simp), findE_congr (fun x hx => h x (List.mem_cons_of_mem _ hx))]

/-! ### Loops that add up -/
def foldi {α σ : Type} (f : Nat → α → σ → σ) : Nat → List α → σ → σ
  | _, [], s => s
  | x, a :: l, s => foldi f (x + 1) l (f x a s)
theorem run_fold {α σ ρ : Type} (f : Nat → α → σ → σ) : ∀ (l : List α) (x : Nat) (s : σ), run (fun x a s => (.inr (f x a s) : ρ ⊕ σ)) x l s = .inr (foldi f x l s)
  | [], _, _ => rfl
  | a :: l, x, s => by unfold run foldi; exact run_fold f l (x + 1) (f x a s)
theorem loop_fold {α σ β : Type} [Inhabited α] (l : List α) (L : Nat → σ → Int → Option β) (idx : Nat → Int) (f : Nat → α → σ → σ) (out : σ → β) (Inv : Nat → σ → Prop) (hl : l.length ≤ 1000000)
    (h0 : ∀ n x s, x < l.length → Inv x s → L (n + 1) s (idx x) = L n (f x (l.getD x default) s) (idx (x + 1)) ∧ Inv (x + 1) (f x (l.getD x default) s))
    (h1 : ∀ n s, Inv l.length s → L (n + 1) s (idx l.length) = some (out s)) {i : Int} (hi : i = idx 0) (s : σ) (hs : Inv 0 s) : L FUEL s i = some (out (foldi f 0 l s)) ∧ Inv l.length (foldi f 0 l s) := by
  have k := loop0 l L idx (fun x a s => (.inr (f x a s) : Unit ⊕ σ)) (fun r => match r with | .inl _ => out s | .inr s => out s) Inv hl (fun n x s hx hi => h0 n x s hx hi) (fun n s hi => h1 n s hi) hi s hs
  rw [run_fold] at k
  refine ⟨k, ?_⟩
  exact run_inv l (fun x a s => (.inr (f x a s) : Unit ⊕ σ)) Inv (fun x s s' hx hi e => by cases e; exact (h0 0 x s hx hi).2) 0 s _ (Nat.zero_le _) hs (by rw [List.drop_zero]; exact run_fold f l 0 s)
theorem foldi_foldl {α σ : Type} (f : α → σ → σ) : ∀ (l : List α) (x : Nat) (s : σ), foldi (fun _ => f) x l s = l.foldl (fun s a => f a s) s
  | [], _, _ => rfl
  | a :: l, x, s => by unfold foldi; exact foldi_foldl f l (x + 1) (f a s)
def mapi {α β : Type} (g : Nat → α → β) : Nat → List α → List β
  | _, [] => []
  | x, a :: l => g x a :: mapi g (x + 1) l
/-- A list that grows by one element each time. -/
theorem foldi_map {α β : Type} (g : Nat → α → β) : ∀ (l : List α) (x : Nat) (t : List β), foldi (fun x a (t : List β) => t ++ [g x a]) x l t = t ++ mapi g x l
  | [], _, t => by simp [foldi, mapi]
  | a :: l, x, t => by unfold foldi mapi; rw [foldi_map g l (x + 1) (t ++ [g x a])]; simp
theorem mapi_len {α β : Type} (g : Nat → α → β) : ∀ (l : List α) (x : Nat), (mapi g x l).length = l.length
  | [], _ => rfl
  | a :: l, x => by simp [mapi, mapi_len g l (x + 1)]
theorem mapi_map {α β : Type} (g : α → β) : ∀ (l : List α) (x : Nat), mapi (fun _ => g) x l = l.map g
  | [], _ => rfl
  | a :: l, x => by simp [mapi, mapi_map g l (x + 1)]
theorem mapi_get {α β : Type} [Inhabited α] [Inhabited β] (g : Nat → α → β) : ∀ (l : List α) (x j : Nat), j < l.length → (mapi g x l).getD j default = g (x + j) (l.getD j default)
  | [], _, j, h => by simp at h
  | a :: l, x, 0, _ => by simp [mapi]
  | a :: l, x, j + 1, h => by
    have := mapi_get g l (x + 1) j (by simpa using h)
    rw [show x + (j + 1) = x + 1 + j by omega]
    simpa [mapi] using this
end Go.SL

namespace Go.SL
namespace Saw
theorem awake_true : law10_awake = some true := by kernel_rfl
end Saw
end Go.SL

namespace Go.SL
namespace Saw

def empS (s : Span) : Bool := decide (s.B ≤ s.A)
def rngS (s : Span) : Bool := (decide (-600 ≤ s.A) && decide (s.A ≤ 600)) && (decide (-600 ≤ s.B) && decide (s.B ≤ 600))
def zeroS (s : Span) : Bool := (s.A == 0) && (s.B == 0)
theorem rngS_iff {s : Span} : rngS s = true ↔ (-600 ≤ s.A ∧ s.A ≤ 600) ∧ (-600 ≤ s.B ∧ s.B ≤ 600) := by unfold rngS; simp
theorem section_isEmpty_eq (s : Span) : section_isEmpty s = some (empS s) := rfl
theorem ref10_empty_eq (s : Span) : ref10_empty s = some (empS s) := rfl
theorem section_inRange_eq (s : Span) : section_inRange s = some (rngS s) := by
  have e : rngS s = (decide (imin s.A s.B ≥ -600) && decide (imax s.A s.B ≤ 600)) := by
    rw [Bool.eq_iff_iff, rngS_iff, Bool.and_eq_true, decide_eq_true_eq, decide_eq_true_eq, ge_iff_le, le_imin, imax_le']
    omega
  unfold section_inRange section_inRange_k1
  rw [e]
  cases decide (imin s.A s.B ≥ -600) <;> rfl
theorem ref10_beyond_eq (n : Int) : ref10_beyond n = some (!(decide (-600 ≤ n) && decide (n ≤ 600))) := by
  unfold ref10_beyond ref10_beyond_k1
  by_cases h1 : n < -600
  · rw [decide_eq_true h1, decide_eq_false (show ¬ -600 ≤ n by omega)]; rfl
  · rw [decide_eq_false h1, decide_eq_true (show -600 ≤ n by omega)]
    by_cases h2 : n > 600
    · rw [decide_eq_true h2, decide_eq_false (show ¬ n ≤ 600 by omega)]; rfl
    · rw [decide_eq_false h2, decide_eq_true (show n ≤ 600 by omega)]; rfl
def bad9 (s : Span) : Option Int := bif rngS s then none else some 9
def bad19 (s : Span) : Option Int := bif empS s && !zeroS s then some 19 else none
def chkRows (s : Section) : Int :=
  match findE bad9 s.Rows with
  | .inl e => e
  | .inr _ =>
    if s.Rows.length = 0 then (if s.Low = 0 then 0 else 19)
    else if empS (s.Rows.getD 0 default) = true ∨ empS (s.Rows.getD (s.Rows.length - 1) default) = true then 19
    else match findE bad19 s.Rows with
      | .inl e => e
      | .inr _ => 0
def chk10 (s : Section) : Int := if 120 < s.Rows.length then 4 else if s.Low < -60 ∨ 60 - (s.Rows.length : Int) < s.Low then 9 else chkRows s
theorem chk_L (s : Section) (hl : s.Rows.length ≤ 120) : section_Check_L2 s FUEL 0 = some (findE bad9 s.Rows) ∧ section_Check_L4 s FUEL 0 = some (findE bad19 s.Rows) ∧ ref10_Check_L2 s FUEL 0 = some (findE bad9 s.Rows) ∧ ref10_Check_L5 s FUEL 0 = some (findE bad19 s.Rows) := by
  have e1 : ∀ (l : List Span) (x : Nat), (l.length : Nat) < 1000 → x < l.length → decide ((x : Int) < ((l.length : Nat) : Int)) = true ∧ inb (x : Int) l.length = true ∧ w64 ((x : Int) + 1) = ((x + 1 : Nat) : Int) := fun l x h hx => ⟨decide_eq_true (by omega), inb_t (by omega) (by omega), inc_eq (by omega)⟩
  refine ⟨loop_find s.Rows (section_Check_L2 s) bad9 (by omega) (fun n x hx => ?_) (fun n => ?_), loop_find s.Rows (section_Check_L4 s) bad19 (by omega) (fun n x hx => ?_) (fun n => ?_), loop_find s.Rows (ref10_Check_L2 s) bad9 (by omega) (fun n x hx => ?_) (fun n => ?_), loop_find s.Rows (ref10_Check_L5 s) bad19 (by omega) (fun n x hx => ?_) (fun n => ?_)⟩
  · obtain ⟨a1, a2, a3⟩ := e1 s.Rows x (by omega) hx
    rw [section_Check_L2]
    simp only [a1, a2, a3, cond_true, Int.toNat_natCast, section_inRange_eq, Option.bind_some, bad9]
    cases rngS (s.Rows.getD x default) <;> rfl
  · unfold section_Check_L2; simp
  · obtain ⟨a1, a2, a3⟩ := e1 s.Rows x (by omega) hx
    rw [section_Check_L4]
    simp only [section_Check_k5, a1, a2, a3, cond_true, Int.toNat_natCast, section_isEmpty_eq, Option.bind_some, bad19, zeroS, Bool.and_true]
    cases empS (s.Rows.getD x default) <;> cases ((s.Rows.getD x default).A == 0 && (s.Rows.getD x default).B == 0) <;> rfl
  · unfold section_Check_L4; simp
  · obtain ⟨a1, a2, a3⟩ := e1 s.Rows x (by omega) hx
    rw [ref10_Check_L2]
    simp only [ref10_Check_k3, a1, a2, a3, cond_true, Int.toNat_natCast, ref10_beyond_eq, Option.bind_some, bad9, rngS]
    cases (decide (-600 ≤ (s.Rows.getD x default).A) && decide ((s.Rows.getD x default).A ≤ 600)) <;> cases (decide (-600 ≤ (s.Rows.getD x default).B) && decide ((s.Rows.getD x default).B ≤ 600)) <;> rfl
  · unfold ref10_Check_L2; simp
  · obtain ⟨a1, a2, a3⟩ := e1 s.Rows x (by omega) hx
    rw [ref10_Check_L5]
    simp only [ref10_Check_k6, a1, a2, a3, cond_true, Int.toNat_natCast, ref10_empty_eq, Option.bind_some, bad19, zeroS, Bool.and_true]
    cases empS (s.Rows.getD x default) <;> cases ((s.Rows.getD x default).A == 0 && (s.Rows.getD x default).B == 0) <;> rfl
  · unfold ref10_Check_L5; simp
theorem chk10_eq (s : Section) : section_Check s = some (chk10 s) ∧ ref10_Check s = some (chk10 s) := by
  unfold section_Check ref10_Check chk10
  by_cases h : 120 < s.Rows.length
  · rw [decide_eq_true (show ((s.Rows.length : Nat) : Int) > 120 by omega), if_pos h]; exact ⟨rfl, rfl⟩
  rw [decide_eq_false (show ¬ ((s.Rows.length : Nat) : Int) > 120 by omega), if_neg h, w64_id (by omega) (by omega)]
  simp only [cond_false]
  obtain ⟨l1, l2, l3, l4⟩ := chk_L s (by omega)
  by_cases h1 : s.Low < -60
  · rw [decide_eq_true h1, if_pos (.inl h1)]; exact ⟨rfl, rfl⟩
  rw [decide_eq_false h1]
  by_cases h2 : 60 - (s.Rows.length : Int) < s.Low
  · rw [decide_eq_true (show s.Low > _ from h2), if_pos (.inr h2)]; exact ⟨rfl, rfl⟩
  rw [decide_eq_false (show ¬ s.Low > _ from h2), if_neg (by omega)]
  unfold section_Check_k1 ref10_Check_k1 section_Check_k3 ref10_Check_k4 chkRows
  simp only [cond_false, l1, l2, l3, l4, Option.bind_some, section_isEmpty_eq, ref10_empty_eq]
  cases findE bad9 s.Rows with
  | inl e => exact ⟨rfl, rfl⟩
  | inr u =>
    simp only [Sum.elim_inr]
    by_cases h0 : s.Rows.length = 0
    · rw [if_pos h0, h0]
      by_cases hw : s.Low = 0
      · rw [if_pos hw, hw]; exact ⟨rfl, rfl⟩
      · rw [if_neg hw]
        have : (s.Low != 0) = true := by simpa using hw
        simp [this]
    · rw [if_neg h0]
      have e0 : (((s.Rows.length : Nat) : Int) == 0) = false := by rw [beq_eq_false_iff_ne]; omega
      have e1 : w64 (((s.Rows.length : Nat) : Int) - 1) = ((s.Rows.length - 1 : Nat) : Int) := by rw [w64_id (by omega) (by omega)]; omega
      rw [e0, inb_t (by omega) (by omega), e1, inb_t (by omega) (by omega)]
      simp only [cond_false, cond_true, Int.toNat_zero, Int.toNat_natCast]
      cases hf : empS (s.Rows.getD 0 default) with
      | true => simp
      | false => cases hg : empS (s.Rows.getD (s.Rows.length - 1) default) with
        | true => simp
        | false =>
          simp only [cond_false, Bool.false_eq_true, or_self, if_false]
          cases findE bad19 s.Rows <;> exact ⟨rfl, rfl⟩
def nilS : Section := ⟨0, []⟩
def val10 (s : Section) : Section := if chk10 s = 0 then s else nilS
theorem val10_eq (s : Section) : section_valid s = some (val10 s) ∧ ref10_Valid s = some (val10 s) := by
  unfold section_valid ref10_Valid val10
  rw [(chk10_eq s).1, (chk10_eq s).2]
  simp only [Option.bind_some]
  by_cases h : chk10 s = 0
  · rw [h]; exact ⟨rfl, rfl⟩
  · have : (chk10 s != 0) = true := by simpa using h
    rw [this, if_neg h]; exact ⟨rfl, rfl⟩
theorem few_eq (s : Section) : law10_few s = some (decide (s.Rows.length ≤ 200)) := by
  unfold law10_few
  congr 1
  by_cases h : s.Rows.length ≤ 200
  · rw [decide_eq_true h]; exact decide_eq_true (by omega)
  · rw [decide_eq_false h]; exact decide_eq_false (by omega)
theorem SectionChecks_true (s : Section) {w : Prop} (_ : w) : law10_SectionChecks s = some true := by
  unfold law10_SectionChecks
  rw [few_eq, (chk10_eq s).1, (chk10_eq s).2]
  simp only [Option.bind_some, awake_true, law10_SectionChecks_k1, beq_self_eq_true]
  cases decide (s.Rows.length ≤ 200) <;> rfl
end Saw
end Go.SL

namespace Go.SL
namespace Saw

def nrm (x : Span) : Span := bif empS x then ⟨0, 0⟩ else x
theorem span_default : (default : Span) = ⟨0, 0⟩ := rfl
theorem nrm_default : nrm default = ⟨0, 0⟩ := rfl
theorem nrm_nrm (x : Span) : nrm (nrm x) = nrm x := by
  unfold nrm
  cases h : empS x with
  | true => rfl
  | false => simp [h]
theorem emp_nrm (x : Span) : empS (nrm x) = empS x := by
  unfold nrm
  cases h : empS x with
  | true => rfl
  | false => simpa using h
theorem nrm_ne {x : Span} (h : empS x = false) : nrm x = x := by unfold nrm; rw [h]; rfl
theorem nrm_emp {x : Span} (h : empS x = true) : nrm x = ⟨0, 0⟩ := by unfold nrm; rw [h]; rfl
/-- The span of a section in a row. -/
def row (s : Section) (r : Int) : Span := if r < s.Low then ⟨0, 0⟩ else s.Rows.getD (r - s.Low).toNat default
/-- Neither end is empty. -/
structure Trim (s : Section) : Prop where
  nil : s.Rows = [] → s.Low = 0
  first : s.Rows ≠ [] → empS (s.Rows.getD 0 default) = false
  last : s.Rows ≠ [] → empS (s.Rows.getD (s.Rows.length - 1) default) = false
theorem getD_ge {α : Type} [Inhabited α] {l : List α} {i : Nat} (h : l.length ≤ i) : l.getD i default = default := by
  rw [List.getD_eq_getElem?_getD, List.getElem?_eq_none h]; rfl
theorem emp_default : empS (default : Span) = true := rfl
/-- Where a row is not empty. -/
theorem row_ne {s : Section} {r : Int} (h : empS (row s r) = false) : s.Low ≤ r ∧ r < s.Low + s.Rows.length := by
  unfold row at h
  split at h
  · exact absurd h (by decide)
  · refine ⟨by omega, Classical.byContradiction fun hn => ?_⟩
    rw [getD_ge (by omega)] at h
    exact absurd h (by decide)
theorem row_at {s : Section} {i : Nat} : row s (s.Low + i) = s.Rows.getD i default := by
  unfold row
  rw [if_neg (by omega)]
  congr 1
  omega
theorem sec_ext {s t : Section} (hs : Trim s) (ht : Trim t) (h : ∀ r, row s r = row t r) : s = t := by
  have one : ∀ {s t : Section}, Trim s → (∀ r, row s r = row t r) → s.Rows ≠ [] → t.Low ≤ s.Low ∧ s.Low + s.Rows.length ≤ t.Low + t.Rows.length := by
    intro s t hs h hne
    have hl : 0 < s.Rows.length := List.length_pos_iff.2 hne
    have k1 := row_at (s := s) (i := 0)
    have k2 := row_at (s := s) (i := s.Rows.length - 1)
    have f1 := hs.first hne
    have f2 := hs.last hne
    rw [← k1, h] at f1
    rw [← k2, h] at f2
    have g1 := row_ne f1
    have g2 := row_ne f2
    omega
  have key : s.Low = t.Low ∧ s.Rows.length = t.Rows.length := by
    by_cases h1 : s.Rows = []
    · by_cases h2 : t.Rows = []
      · exact ⟨by rw [hs.nil h1, ht.nil h2], by rw [h1, h2]⟩
      · have := one ht (fun r => (h r).symm) h2
        have hl : 0 < t.Rows.length := List.length_pos_iff.2 h2
        rw [h1] at this
        simp only [List.length_nil] at this
        omega
    · by_cases h2 : t.Rows = []
      · have := one hs h h1
        have hl : 0 < s.Rows.length := List.length_pos_iff.2 h1
        rw [h2] at this
        simp only [List.length_nil] at this
        omega
      · have a1 := one hs h h1
        have a2 := one ht (fun r => (h r).symm) h2
        omega
  obtain ⟨lo, rs⟩ := s
  obtain ⟨lo', rs'⟩ := t
  simp only at key
  obtain ⟨rfl, hl⟩ := key
  congr 1
  refine ext_getD hl (fun j hj => ?_)
  have := h (lo + j)
  have e1 := row_at (s := ⟨lo, rs⟩) (i := j)
  have e2 := row_at (s := ⟨lo, rs'⟩) (i := j)
  simp only at e1 e2
  rw [e1, e2] at this
  exact this

/-- A valid section. -/
structure VS (s : Section) : Prop extends Trim s where
  len : s.Rows.length ≤ 120
  low : -60 ≤ s.Low
  high : s.Low + s.Rows.length ≤ 60
  rng : ∀ x ∈ s.Rows, rngS x = true
  zero : ∀ x ∈ s.Rows, empS x = true → x = ⟨0, 0⟩
theorem bad9_none {x : Span} : bad9 x = none ↔ rngS x = true := by unfold bad9; cases rngS x <;> simp
theorem zeroS_iff {x : Span} : zeroS x = true ↔ x = ⟨0, 0⟩ := by unfold zeroS; cases x; simp
theorem bad19_none {x : Span} : bad19 x = none ↔ (empS x = true → x = ⟨0, 0⟩) := by
  unfold bad19
  cases h : empS x with
  | false => simp
  | true => cases hz : zeroS x with
    | true => simp [zeroS_iff.1 hz]
    | false => simp; intro e; rw [zeroS_iff.2 e] at hz; cases hz
theorem findE_val {ε α : Type} {bad : α → Option ε} {l : List α} {e : ε} (h : findE bad l = .inl e) : ∃ a ∈ l, bad a = some e := by
  induction l with
  | nil => cases h
  | cons a l ih =>
    unfold findE at h
    cases hb : bad a with
    | some e' => rw [hb] at h; cases h; exact ⟨a, by simp, hb⟩
    | none => rw [hb] at h; obtain ⟨x, hx, hx'⟩ := ih h; exact ⟨x, List.mem_cons_of_mem _ hx, hx'⟩
theorem chk10_zero (s : Section) : chk10 s = 0 ↔ VS s := by
  unfold chk10
  by_cases h : 120 < s.Rows.length
  · rw [if_pos h]; exact ⟨fun h => absurd h (by decide), fun hv => by have := hv.len; omega⟩
  rw [if_neg h]
  by_cases h1 : s.Low < -60 ∨ 60 - (s.Rows.length : Int) < s.Low
  · rw [if_pos h1]; exact ⟨fun h => absurd h (by decide), fun hv => by have := hv.low; have := hv.high; omega⟩
  rw [if_neg h1]
  unfold chkRows
  cases h9 : findE bad9 s.Rows with
  | inl e =>
    obtain ⟨a, ha, hb⟩ := findE_val h9
    have e9 : e = 9 ∧ rngS a = false := by unfold bad9 at hb; cases hr : rngS a <;> rw [hr] at hb <;> simp at hb; exact ⟨hb.symm, rfl⟩
    simp only
    refine ⟨fun h => by omega, fun hv => ?_⟩
    have := hv.rng a ha
    rw [e9.2] at this; cases this
  | inr u =>
    have hr : ∀ x ∈ s.Rows, rngS x = true := fun x hx => bad9_none.1 (findE_none.1 h9 x hx)
    simp only
    by_cases h0 : s.Rows.length = 0
    · have en : s.Rows = [] := List.length_eq_zero_iff.1 h0
      rw [if_pos h0]
      by_cases hw : s.Low = 0
      · rw [if_pos hw]
        exact ⟨fun _ => ⟨⟨fun _ => hw, fun h => absurd en h, fun h => absurd en h⟩, by omega, by omega, by omega, hr, fun x hx => by rw [en] at hx; cases hx⟩, fun _ => rfl⟩
      · rw [if_neg hw]
        exact ⟨fun h => absurd h (by decide), fun hv => absurd (hv.nil en) hw⟩
    · rw [if_neg h0]
      have hne : s.Rows ≠ [] := fun e => h0 (by rw [e]; rfl)
      by_cases hf : empS (s.Rows.getD 0 default) = true ∨ empS (s.Rows.getD (s.Rows.length - 1) default) = true
      · rw [if_pos hf]
        refine ⟨fun h => absurd h (by decide), fun hv => ?_⟩
        rcases hf with hf | hf
        · rw [hv.first hne] at hf; cases hf
        · rw [hv.last hne] at hf; cases hf
      · rw [if_neg hf]
        have f1 : empS (s.Rows.getD 0 default) = false := by simpa using fun h => hf (.inl h)
        have f2 : empS (s.Rows.getD (s.Rows.length - 1) default) = false := by simpa using fun h => hf (.inr h)
        cases h19 : findE bad19 s.Rows with
        | inl e =>
          obtain ⟨a, ha, hb⟩ := findE_val h19
          simp only
          have e19 : e = 19 := by unfold bad19 at hb; cases hr : (empS a && !zeroS a) <;> rw [hr] at hb <;> simp at hb; exact hb.symm
          refine ⟨fun h => by omega, fun hv => ?_⟩
          have := bad19_none.2 (hv.zero a ha)
          rw [this] at hb; cases hb
        | inr u' =>
          exact ⟨fun _ => ⟨⟨fun e => absurd e hne, fun _ => f1, fun _ => f2⟩, by omega, by omega, by omega, hr, fun x hx => bad19_none.1 (findE_none.1 h19 x hx)⟩, fun _ => rfl⟩
theorem VS_nil : VS nilS := (chk10_zero nilS).1 rfl
theorem val10_VS (s : Section) : VS (val10 s) := by
  unfold val10
  split
  · rename_i h; exact (chk10_zero s).1 h
  · exact VS_nil
theorem val10_of {s : Section} (h : VS s) : val10 s = s := by unfold val10; rw [if_pos ((chk10_zero s).2 h)]
theorem VS.row_rng {s : Section} (h : VS s) (r : Int) : rngS (row s r) = true := by
  unfold row
  split
  · rfl
  · by_cases hi : (r - s.Low).toNat < s.Rows.length
    · exact h.rng _ (getD_mem' hi)
    · rw [getD_ge (by omega)]; rfl
theorem VS.row_nrm {s : Section} (h : VS s) (r : Int) : nrm (row s r) = row s r := by
  unfold row
  split
  · rfl
  · by_cases hi : (r - s.Low).toNat < s.Rows.length
    · cases he : empS (s.Rows.getD (r - s.Low).toNat default) with
      | true => rw [h.zero _ (getD_mem' hi) he]; rfl
      | false => exact nrm_ne he
    · rw [getD_ge (by omega)]; rfl
theorem VS.row_out {s : Section} (h : VS s) {r : Int} (hr : r < -60 ∨ 60 ≤ r) : row s r = ⟨0, 0⟩ := by
  unfold row
  split
  · rfl
  · rw [getD_ge (by have := h.low; have := h.high; omega)]; rfl
/-- A trimmed section all of whose rows are such. -/
theorem VS_of {s : Section} (ht : Trim s) (f : Int → Span) (hf : ∀ r, row s r = if -60 ≤ r ∧ r < 60 then nrm (f r) else ⟨0, 0⟩) (hr : ∀ r, -60 ≤ r → r < 60 → rngS (nrm (f r)) = true) : VS s := by
  have bnd : s.Rows ≠ [] → -60 ≤ s.Low ∧ s.Low + s.Rows.length ≤ 60 := fun hne => by
    have hl : 0 < s.Rows.length := List.length_pos_iff.2 hne
    have k1 := row_at (s := s) (i := 0)
    have k2 := row_at (s := s) (i := s.Rows.length - 1)
    have f1 := ht.first hne
    have f2 := ht.last hne
    rw [← k1, hf] at f1
    rw [← k2, hf] at f2
    split at f1
    · split at f2
      · omega
      · exact absurd f2 (by decide)
    · exact absurd f1 (by decide)
  have el : ∀ x ∈ s.Rows, ∃ r, -60 ≤ r ∧ r < 60 ∧ x = nrm (f r) := fun x hx => by
    obtain ⟨i, hi, e⟩ := List.mem_iff_getElem.1 hx
    have hne : s.Rows ≠ [] := List.ne_nil_of_mem hx
    have b := bnd hne
    have k := row_at (s := s) (i := i)
    rw [hf, if_pos (by omega)] at k
    refine ⟨s.Low + i, by omega, by omega, ?_⟩
    rw [k, List.getD_eq_getElem?_getD, List.getElem?_eq_getElem hi, ← e]; rfl
  refine ⟨ht, ?_, ?_, ?_, fun x hx => ?_, fun x hx he => ?_⟩
  · by_cases hne : s.Rows = []
    · rw [hne]; simp
    · have := bnd hne; omega
  · by_cases hne : s.Rows = []
    · rw [ht.nil hne]; decide
    · have := bnd hne; omega
  · by_cases hne : s.Rows = []
    · rw [ht.nil hne, hne]; decide
    · have := bnd hne; omega
  · obtain ⟨r, h1, h2, rfl⟩ := el x hx; exact hr r h1 h2
  · obtain ⟨r, h1, h2, rfl⟩ := el x hx
    rw [emp_nrm] at he
    exact nrm_emp he
end Saw
end Go.SL

namespace Go.SL
namespace Saw

/-- What a section built of the rows of g (row j - 60) is. -/
def rowsOf (g : Nat → Span) (r : Int) : Span := if -60 ≤ r ∧ r < 60 then nrm (g (r + 60).toNat) else ⟨0, 0⟩
structure BInv (g : Nat → Span) (k : Nat) (a u : Nat) (l : List Span) : Prop where
  ak : a < k
  fa : empS (g a) = false
  bef : ∀ j, j < a → empS (g j) = true
  len : l.length = k - a
  el : ∀ i, i < k - a → l.getD i default = nrm (g (a + i))
  u0 : 0 < u
  uk : u ≤ k - a
  fu : empS (g (a + u - 1)) = false
  aft : ∀ i, u ≤ i → i < k - a → empS (g (a + i)) = true
def BI (g : Nat → Span) (k : Nat) (s : Int × Int × List Span) : Prop := (s = (0, 0, []) ∧ ∀ j, j < k → empS (g j) = true) ∨ ∃ a u : Nat, s.1 = (u : Int) ∧ s.2.1 = (a : Int) - 60 ∧ BInv g k a u s.2.2
def bst (g : Nat → Span) (x : Nat) (s : Int × Int × List Span) : Int × Int × List Span :=
  bif !empS (g x) then (((s.2.2.length + 1 : Nat) : Int), (bif s.1 == 0 then (x : Int) - 60 else s.2.1), s.2.2 ++ [g x])
  else bif decide (s.1 > 0) then (s.1, s.2.1, s.2.2 ++ [⟨0, 0⟩]) else s
theorem getD_snoc {α : Type} [Inhabited α] {l : List α} {x : α} {i : Nat} (h : i ≤ l.length) : (l ++ [x]).getD i default = if i < l.length then l.getD i default else x := by
  rw [List.getD_eq_getElem?_getD]
  by_cases hi : i < l.length
  · rw [if_pos hi, List.getElem?_append_left hi, ← List.getD_eq_getElem?_getD]
  · rw [if_neg hi, List.getElem?_append_right (by omega), show i - l.length = 0 by omega]; rfl
theorem bst_inv {g : Nat → Span} {k : Nat} {s : Int × Int × List Span} (h : BI g k s) : BI g (k + 1) (bst g k s) := by
  unfold bst
  rcases h with ⟨rfl, hall⟩ | ⟨a, u, e1, e2, hb⟩
  · cases he : empS (g k) with
    | true =>
      refine .inl ⟨rfl, fun j hj => ?_⟩
      by_cases hjk : j = k
      · rw [hjk]; exact he
      · exact hall j (by omega)
    | false =>
      refine .inr ⟨k, 1, rfl, rfl, ⟨by omega, he, hall, by simp, fun i hi => ?_, by omega, by omega, by simpa using he, fun i h1 h2 => by omega⟩⟩
      obtain rfl : i = 0 := by omega
      exact (nrm_ne he).symm
  · have hu : 0 < u := hb.u0
    have ak := hb.ak
    have hl := hb.len
    have e0 : (s.1 == 0) = false := by rw [e1, beq_eq_false_iff_ne]; omega
    have e0' : decide (s.1 > 0) = true := by rw [e1]; exact decide_eq_true (by omega)
    rw [e0, e0']
    simp only [cond_false, cond_true]
    cases he : empS (g k) with
    | false =>
      refine .inr ⟨a, s.2.2.length + 1, rfl, e2, ⟨by omega, hb.fa, hb.bef, by simp; omega, fun i hi => ?_, by omega, by omega, ?_, fun i h1 h2 => by omega⟩⟩
      · simp only [Bool.not_false, cond_true]
        rw [getD_snoc (by omega)]
        split
        · exact hb.el i (by omega)
        · rw [show a + i = k by omega]; exact (nrm_ne he).symm
      · rw [hl, show a + (k - a + 1) - 1 = k by omega]; exact he
    | true =>
      refine .inr ⟨a, u, e1, e2, ⟨by omega, hb.fa, hb.bef, by simp; omega, fun i hi => ?_, hu, by have := hb.uk; omega, hb.fu, fun i h1 h2 => ?_⟩⟩
      · simp only [Bool.not_true, cond_false]
        rw [getD_snoc (by omega)]
        split
        · exact hb.el i (by omega)
        · rw [show a + i = k by omega]; exact (nrm_emp he).symm
      · by_cases hik : i < k - a
        · exact hb.aft i h1 hik
        · rw [show a + i = k by omega]; exact he
theorem getD_take {α : Type} [Inhabited α] {l : List α} {u i : Nat} : (l.take u).getD i default = if i < u then l.getD i default else default := by
  rw [List.getD_eq_getElem?_getD, List.getElem?_take]
  split
  · rw [← List.getD_eq_getElem?_getD]
  · rfl
/-- The end of the loop. -/
theorem BI_end {g : Nat → Span} {s : Int × Int × List Span} (h : BI g 120 s) : slOk 0 s.1 s.2.2.length = true ∧ Trim ⟨s.2.1, s.2.2.take s.1.toNat⟩ ∧ ∀ r, row ⟨s.2.1, s.2.2.take s.1.toNat⟩ r = rowsOf g r := by
  rcases h with ⟨rfl, hall⟩ | ⟨a, u, e1, e2, hb⟩
  · refine ⟨rfl, ⟨fun _ => rfl, fun h => absurd rfl h, fun h => absurd rfl h⟩, fun r => ?_⟩
    have : row ⟨0, ([] : List Span).take 0⟩ r = ⟨0, 0⟩ := by unfold row; split <;> rfl
    refine Eq.trans this ?_
    unfold rowsOf
    split
    · rw [nrm_emp (hall _ (by omega))]
    · rfl
  · have hl := hb.len
    have uk := hb.uk
    have u0 := hb.u0
    have ak := hb.ak
    have eu : s.1.toNat = u := by rw [e1]; simp
    rw [eu]
    have tl : (s.2.2.take u).length = u := by rw [List.length_take]; omega
    refine ⟨?_, ⟨fun h => ?_, fun _ => ?_, fun _ => ?_⟩, fun r => ?_⟩
    · unfold slOk; rw [e1]; exact decide_eq_true ⟨by omega, by omega, by omega⟩
    · have h' : s.2.2.take u = [] := h
      rw [h'] at tl; simp at tl; omega
    · show empS ((s.2.2.take u).getD 0 default) = false
      rw [getD_take, if_pos u0, hb.el 0 (by omega), emp_nrm]; exact hb.fa
    · show empS ((s.2.2.take u).getD ((s.2.2.take u).length - 1) default) = false
      rw [tl, getD_take, if_pos (by omega), hb.el (u - 1) (by omega), emp_nrm, show a + (u - 1) = a + u - 1 by omega]; exact hb.fu
    · unfold row rowsOf
      simp only [e2]
      by_cases h1 : r < (a : Int) - 60
      · rw [if_pos h1]
        split
        · rw [nrm_emp (hb.bef _ (by omega))]
        · rfl
      · rw [if_neg h1, getD_take]
        have ei : (r - ((a : Int) - 60)).toNat + a = (r + 60).toNat := by omega
        by_cases h2 : (r - ((a : Int) - 60)).toNat < u
        · rw [if_pos h2, hb.el _ (by omega), if_pos (by omega), ← ei, Nat.add_comm]
        · rw [if_neg h2]
          split
          · rw [← ei, Nat.add_comm]
            by_cases h3 : (r - ((a : Int) - 60)).toNat < 120 - a
            · rw [nrm_emp (hb.aft _ (by omega) h3)]; rfl
            · omega
          · rfl
/-- A section built of the rows of g. -/
noncomputable def secOf (g : Nat → Span) : Section := ⟨(foldi (fun x (_ : Nat) s => bst g x s) 0 (List.range 120) (0, 0, [])).2.1, (foldi (fun x (_ : Nat) s => bst g x s) 0 (List.range 120) (0, 0, [])).2.2.take (foldi (fun x (_ : Nat) s => bst g x s) 0 (List.range 120) (0, 0, [])).1.toNat⟩
theorem BI_foldi (g : Nat → Span) : ∀ (l : List Nat) (x : Nat) (s : Int × Int × List Span), BI g x s → BI g (x + l.length) (foldi (fun x (_ : Nat) s => bst g x s) x l s)
  | [], x, s, h => h
  | a :: l, x, s, h => by
    unfold foldi
    have := BI_foldi g l (x + 1) _ (bst_inv h)
    rw [List.length_cons, show x + (l.length + 1) = x + 1 + l.length by omega]
    exact this
theorem secOf_spec (g : Nat → Span) : Trim (secOf g) ∧ ∀ r, row (secOf g) r = rowsOf g r := by
  have := BI_foldi g (List.range 120) 0 (0, 0, []) (.inl ⟨rfl, fun j hj => by omega⟩)
  rw [List.length_range] at this
  exact (BI_end this).2
theorem secOf_VS {g : Nat → Span} (h : ∀ j, j < 120 → rngS (nrm (g j)) = true) : VS (secOf g) := by
  obtain ⟨h1, h2⟩ := secOf_spec g
  refine VS_of h1 (fun r => g (r + 60).toNat) (fun r => ?_) (fun r r1 r2 => h _ (by omega))
  rw [h2 r]; rfl
theorem build_gen (g : Nat → Span) (L : Nat → Int → Int → Int → List Span → Option (Int × Int × List Span))
    (h0 : ∀ n (x : Nat) u w (l : List Span), x < 120 → L (n + 1) u ((x : Int) - 60) w l = bif !empS (g x) then (bif u == 0 then (bif room (l.length + 1) 16 then L n (((l.length + 1) : Nat) : Int) (w64 ((x : Int) - 60 + 1)) ((x : Int) - 60) (l ++ ([g x] : List Span)) else none) else (bif room (l.length + 1) 16 then L n (((l.length + 1) : Nat) : Int) (w64 ((x : Int) - 60 + 1)) w (l ++ ([g x] : List Span)) else none))
      else bif decide (u > 0) then (bif room (l.length + 1) 16 then L n u (w64 ((x : Int) - 60 + 1)) w (l ++ ([(Span.mk 0 0)] : List Span)) else none) else L n u (w64 ((x : Int) - 60 + 1)) w l)
    (h1 : ∀ n u w l, L (n + 1) u 60 w l = some (u, w, l)) :
    ((L FUEL 0 (-60) 0 []).bind fun o => bif slOk 0 o.1 o.2.2.length then some (Section.mk o.2.1 (o.2.2.take o.1.toNat)) else none) = some (secOf g) := by
  have k := loop_fold (List.range 120) (fun n (s : Int × Int × List Span) x => L n s.1 x s.2.1 s.2.2) (fun x => (x : Int) - 60) (fun x (_ : Nat) s => bst g x s) (fun s => s) (fun x s => BI g x s ∧ s.2.2.length ≤ x) (by simp)
    (fun n x s hx hi => by
      have hx' : x < 120 := by simpa using hx
      have hrm : room (s.2.2.length + 1) 16 = true := room_t (by omega)
      have e : w64 ((x : Int) - 60 + 1) = ((x + 1 : Nat) : Int) - 60 := by rw [w64_id (by omega) (by omega)]; omega
      refine ⟨?_, bst_inv hi.1, ?_⟩
      · rw [h0 n x _ _ _ hx', hrm, e]
        unfold bst
        cases empS (g x) with
        | false => cases s.1 == 0 <;> rfl
        | true => cases decide (s.1 > 0) <;> rfl
      · unfold bst
        cases empS (g x) with
        | false => simp; omega
        | true => cases decide (s.1 > 0) <;> simp <;> omega)
    (fun n s hi => by simpa using h1 n s.1 s.2.1 s.2.2) (i := -60) rfl (0, 0, []) ⟨.inl ⟨rfl, fun j hj => by omega⟩, by simp⟩
  obtain ⟨k1, k2, _⟩ := k
  simp only at k1
  rw [k1]
  simp only [Option.bind_some]
  rw [List.length_range] at k2
  rw [(BI_end k2).1]
  rfl
end Saw
end Go.SL

namespace Go.SL
namespace Saw

theorem at_eq {s : Section} (h : VS s) {r : Int} (h1 : -60 ≤ r) (h2 : r < 60) : section_at s r = some (row s r) ∧ ref10_Row s r = some (row s r) := by
  have b1 := h.low
  have b2 := h.high
  unfold section_at section_at_k1 ref10_Row ref10_Row_k1 row
  by_cases hr : r < s.Low
  · rw [decide_eq_true hr, if_pos hr]; exact ⟨rfl, rfl⟩
  rw [decide_eq_false hr, if_neg hr, w64_id (n := s.Low + _) (by omega) (by omega), w64_id (n := r - s.Low) (by omega) (by omega)]
  by_cases hr2 : r < s.Low + s.Rows.length
  · rw [decide_eq_false (show ¬ r ≥ _ by omega), inb_t (by omega) (by omega)]; exact ⟨rfl, rfl⟩
  · rw [decide_eq_true (show r ≥ _ by omega), getD_ge (by omega)]; exact ⟨rfl, rfl⟩
theorem Section.eta (s : Section) : Section.mk s.Low s.Rows = s := rfl
/-! ### same -/
theorem same_self (s : Section) (hl : s.Rows.length ≤ 1000) : law10_same s s = some true := by
  have k := loop_find s.Rows (law10_same_L2 s s) (fun _ => (none : Option Bool)) (by omega) (fun n x hx => by
      rw [law10_same_L2, decide_eq_true (show (x : Int) < _ by omega), inb_t (by omega) (by omega), inc_eq (by omega)]
      simp)
    (fun n => by rw [law10_same_L2]; simp)
  have e : findE (fun _ : Span => (none : Option Bool)) s.Rows = .inr () := findE_none.2 (fun _ _ => rfl)
  unfold law10_same law10_same_k1
  rw [k, e]
  simp
/-! ### Mirror -/
def negS (x : Span) : Span := ⟨-x.B, -x.A⟩
theorem emp_neg (x : Span) : empS (negS x) = empS x := by unfold empS negS; congr 1; simp
theorem nrm_neg {x : Span} (h : nrm x = x) : nrm (negS x) = negS x := by
  cases he : empS x with
  | true => rw [nrm_emp he] at h; rw [← h]; rfl
  | false => exact nrm_ne (by rw [emp_neg]; exact he)
theorem neg_neg (x : Span) : negS (negS x) = x := by unfold negS; simp
theorem rng_neg {x : Span} (h : rngS x = true) : rngS (negS x) = true := by rw [rngS_iff] at *; unfold negS; simp only; omega
noncomputable def mirS (s : Section) : Section := secOf (fun j => negS (row s ((j : Int) - 60)))
theorem rowsOf_fun (f : Int → Span) (r : Int) : rowsOf (fun j => f ((j : Int) - 60)) r = if -60 ≤ r ∧ r < 60 then nrm (f r) else ⟨0, 0⟩ := by
  unfold rowsOf
  by_cases h : -60 ≤ r ∧ r < 60
  · rw [if_pos h, if_pos h]; simp only; rw [show ((r + 60).toNat : Int) - 60 = r by omega]
  · rw [if_neg h, if_neg h]
theorem secOf_row (f : Int → Span) (r : Int) : row (secOf (fun j => f ((j : Int) - 60))) r = if -60 ≤ r ∧ r < 60 then nrm (f r) else ⟨0, 0⟩ := by rw [(secOf_spec _).2, rowsOf_fun]
theorem row_mir {s : Section} (h : VS s) (r : Int) : row (mirS s) r = negS (row s r) := by
  unfold mirS
  rw [secOf_row (fun r => negS (row s r))]
  split
  · exact nrm_neg (h.row_nrm r)
  · rw [h.row_out (by omega)]; rfl
theorem VS_mir {s : Section} (h : VS s) : VS (mirS s) := secOf_VS (fun j _ => by rw [nrm_neg (h.row_nrm _)]; exact rng_neg (h.row_rng _))
theorem mir_eq {s : Section} (h : VS s) : section_build_s2 s = some (mirS s) := by
  have m1 : ∀ r : Int, -60 ≤ r → r < 60 → section_Mirror_1 r s = some (negS (row s r)) := fun r h1 h2 => by
    have hr := rngS_iff.1 (h.row_rng r)
    unfold section_Mirror_1
    rw [(at_eq h h1 h2).1]
    simp only [Option.bind_some]
    rw [w64_id (by omega) (by omega), w64_id (by omega) (by omega)]
    unfold negS
    simp
  unfold section_build_s2
  refine build_gen (fun j => negS (row s ((j : Int) - 60))) (section_build_s2_L1 s) (fun n x u w l hx => ?_) (fun n u w l => ?_)
  · rw [section_build_s2_L1, decide_eq_true (show (x : Int) - 60 < 60 by omega), m1 _ (by omega) (by omega)]
    simp only [cond_true, Option.bind_some, section_isEmpty_eq, section_build_s2_k2, section_build_s2_k3]
  · rw [section_build_s2_L1]; rfl
theorem refMir_eq {s : Section} (h : VS s) : (ref10_Mirror_L1 s FUEL 0 []).bind (fun o => some (Section.mk s.Low o)) = some (mirS s) := by
  have b := h.len
  have k := loop_fold s.Rows (fun n (l : List Span) x => ref10_Mirror_L1 s n x l) (fun x => (x : Int)) (fun _ a l => l ++ [negS a]) (fun l => l) (fun x l => l.length = x) (by omega)
    (fun n x l hx hi => by
      have hr := rngS_iff.1 (h.rng _ (getD_mem' hx))
      refine ⟨?_, by simp [hi]⟩
      rw [ref10_Mirror_L1, decide_eq_true (show (x : Int) < _ by omega), inb_t (by omega) (by omega), room_t (by omega), inc_eq (by omega)]
      simp only [cond_true, Int.toNat_natCast]
      rw [w64_id (by omega) (by omega), w64_id (by omega) (by omega)]
      unfold negS
      simp)
    (fun n l _ => by rw [ref10_Mirror_L1]; simp) (i := 0) rfl [] rfl
  rw [foldi_map (fun _ a => negS a), mapi_map, List.nil_append] at k
  rw [k.1]
  simp only [Option.bind_some]
  congr 1
  have hrow : ∀ r, row ⟨s.Low, s.Rows.map negS⟩ r = negS (row s r) := fun r => by
    unfold row
    simp only
    split
    · rfl
    · by_cases hi : (r - s.Low).toNat < s.Rows.length
      · exact getD_map negS s.Rows hi
      · rw [getD_ge (by simpa using hi), getD_ge (by omega)]; rfl
  have hne : s.Rows.map negS ≠ [] → s.Rows ≠ [] := fun h e => h (by rw [e]; rfl)
  have ht : Trim ⟨s.Low, s.Rows.map negS⟩ := ⟨fun e => h.nil (by simpa using e), fun hn => by
      have hl : 0 < s.Rows.length := List.length_pos_iff.2 (hne hn)
      show empS ((s.Rows.map negS).getD 0 default) = false
      rw [getD_map negS s.Rows hl, emp_neg]; exact h.first (hne hn), fun hn => by
      have hl : 0 < s.Rows.length := List.length_pos_iff.2 (hne hn)
      show empS ((s.Rows.map negS).getD ((s.Rows.map negS).length - 1) default) = false
      rw [List.length_map, getD_map negS s.Rows (by omega), emp_neg]; exact h.last (hne hn)⟩
  exact sec_ext ht (secOf_spec _).1 (fun r => by rw [hrow r]; exact (row_mir h r).symm)
theorem Mirror_eq (s : Section) : section_Mirror s = some (mirS (val10 s)) ∧ ref10_Mirror s = some (mirS (val10 s)) := by
  unfold section_Mirror ref10_Mirror
  rw [(val10_eq s).1, (val10_eq s).2]
  simp only [Option.bind_some]
  rw [mir_eq (val10_VS s)]
  exact ⟨rfl, refMir_eq (val10_VS s)⟩
/-! ### Flip -/
noncomputable def flipS (s : Section) : Section := secOf (fun j => row s (-((j : Int) - 60) - 1))
theorem row_flip {s : Section} (h : VS s) (r : Int) : row (flipS s) r = row s (-r - 1) := by
  unfold flipS
  rw [secOf_row (fun r => row s (-r - 1))]
  split
  · exact h.row_nrm _
  · rw [h.row_out (by omega)]
theorem VS_flip {s : Section} (h : VS s) : VS (flipS s) := secOf_VS (fun j _ => by rw [h.row_nrm _]; exact h.row_rng _)
theorem flip_eq {s : Section} (h : VS s) : section_build_s1 s = some (flipS s) := by
  have m1 : ∀ r : Int, -60 ≤ r → r < 60 → section_Flip_1 r s = some (row s (-r - 1)) := fun r h1 h2 => by
    unfold section_Flip_1
    rw [w64_id (n := 0 - r) (by omega) (by omega), w64_id (by omega) (by omega), show 0 - r - 1 = -r - 1 by omega, (at_eq h (by omega) (by omega)).1]
    rfl
  unfold section_build_s1
  refine build_gen (fun j => row s (-((j : Int) - 60) - 1)) (section_build_s1_L1 s) (fun n x u w l hx => ?_) (fun n u w l => ?_)
  · rw [section_build_s1_L1, decide_eq_true (show (x : Int) - 60 < 60 by omega), m1 _ (by omega) (by omega)]
    simp only [cond_true, Option.bind_some, section_isEmpty_eq, section_build_s1_k2, section_build_s1_k3]
  · rw [section_build_s1_L1]; rfl
theorem refFlip_loop (s : Section) (h : s.Rows.length ≤ 120) : ∀ (n x : Nat) (t : List Span), x < n → x ≤ s.Rows.length → t = (s.Rows.drop x).reverse → ref10_Flip_L1 s n ((x : Int) - 1) t = some s.Rows.reverse
  | 0, x, t, h1, h2, _ => by omega
  | n + 1, 0, t, h1, h2, h3 => by
    rw [ref10_Flip_L1, decide_eq_false (show ¬ ((0 : Nat) : Int) - 1 ≥ 0 by omega), h3, List.drop_zero]; rfl
  | n + 1, x + 1, t, h1, h2, h3 => by
    have hx : x < s.Rows.length := by omega
    have ht : t.length ≤ 120 := by rw [h3]; simp; omega
    rw [ref10_Flip_L1, show (((x + 1 : Nat) : Int) - 1) = (x : Int) by omega, decide_eq_true (show (x : Int) ≥ 0 by omega), inb_t (by omega) (by omega), room_t (by omega), w64_id (by omega) (by omega)]
    simp only [cond_true, Int.toNat_natCast]
    refine refFlip_loop s h n x _ (by omega) (by omega) ?_
    rw [drop_getD s.Rows x hx, List.reverse_cons, h3]
theorem refFlip_eq {s : Section} (h : VS s) : (ref10_Flip_L1 s FUEL (w64 (((s.Rows.length : Nat) : Int) - 1)) []).bind (fun o => some (Section.mk (w64 (0 - (w64 (s.Low + ((s.Rows.length : Nat) : Int))))) o)) = some (flipS s) := by
  have b := h.len
  have b1 := h.low
  have b2 := h.high
  rw [w64_id (n := ((s.Rows.length : Nat) : Int) - 1) (by omega) (by omega), refFlip_loop s b FUEL s.Rows.length [] (by rw [FUEL_eq]; omega) (Nat.le_refl _) (by simp), w64_id (n := s.Low + _) (by omega) (by omega), w64_id (by omega) (by omega)]
  simp only [Option.bind_some]
  congr 1
  have rv : ∀ i, i < s.Rows.length → s.Rows.reverse.getD i default = s.Rows.getD (s.Rows.length - 1 - i) default := fun i hi => by
    rw [List.getD_eq_getElem?_getD, List.getElem?_reverse hi, ← List.getD_eq_getElem?_getD]
  have hrow : ∀ r, row ⟨0 - (s.Low + ((s.Rows.length : Nat) : Int)), s.Rows.reverse⟩ r = row s (-r - 1) := fun r => by
    unfold row
    simp only
    by_cases c1 : r < 0 - (s.Low + ((s.Rows.length : Nat) : Int))
    · rw [if_pos c1]
      split
      · rfl
      · rw [getD_ge (by omega)]; rfl
    · rw [if_neg c1]
      by_cases c2 : -r - 1 < s.Low
      · rw [if_pos c2, getD_ge (by rw [List.length_reverse]; omega)]; rfl
      · rw [if_neg c2, rv _ (by omega)]
        congr 1
        omega
  have hne : s.Rows.reverse ≠ [] → s.Rows ≠ [] := fun h e => h (by rw [e]; rfl)
  have ht : Trim ⟨0 - (s.Low + ((s.Rows.length : Nat) : Int)), s.Rows.reverse⟩ := ⟨fun e => by
      have e' : s.Rows = [] := by simpa using e
      show 0 - (s.Low + ((s.Rows.length : Nat) : Int)) = 0
      rw [h.nil e', e']; rfl, fun hn => by
      have hl : 0 < s.Rows.length := List.length_pos_iff.2 (hne hn)
      show empS (s.Rows.reverse.getD 0 default) = false
      rw [rv 0 hl]; exact h.last (hne hn), fun hn => by
      have hl : 0 < s.Rows.length := List.length_pos_iff.2 (hne hn)
      show empS (s.Rows.reverse.getD (s.Rows.reverse.length - 1) default) = false
      rw [List.length_reverse, rv _ (by omega), show s.Rows.length - 1 - (s.Rows.length - 1) = 0 by omega]; exact h.first (hne hn)⟩
  exact sec_ext ht (secOf_spec _).1 (fun r => by rw [hrow r]; exact (row_flip h r).symm)
theorem Flip_eq (s : Section) : section_Flip s = some (flipS (val10 s)) ∧ ref10_Flip s = some (flipS (val10 s)) := by
  unfold section_Flip ref10_Flip
  rw [(val10_eq s).1, (val10_eq s).2]
  simp only [Option.bind_some]
  rw [flip_eq (val10_VS s)]
  exact ⟨rfl, refFlip_eq (val10_VS s)⟩
end Saw
end Go.SL
