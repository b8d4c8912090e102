/- Poly's plain mathematics, part 9: the hull's corners and edges. -/
import Derived.Test.YtcppgjcniljkcaaDoorPMath8
set_option linter.unusedVariables false
set_option linter.unusedSimpArgs false
namespace Go.SL
namespace Saw

def ng (p : Point) : Point := ⟨-p.X, -p.Y⟩
theorem ng_ng (p : Point) : ng (ng p) = p := by unfold ng; simp
theorem cross_ng (p q r : Point) : cross (ng p) (ng q) (ng r) = cross p q r := by unfold cross ng; grind
theorem pLt_ng {p q : Point} : pLt (ng p) (ng q) ↔ pLt q p := by unfold pLt ng; simp only; omega
theorem popR_ng (c : Point) : ∀ st, popR (st.map ng) (ng c) = (popR st c).map ng
  | [] => rfl
  | [_] => rfl
  | t :: s :: r => by
    have ih := popR_ng c (s :: r)
    simp only [List.map_cons] at ih ⊢
    rw [popR, popR, cross_ng]
    split
    · exact ih
    · simp
theorem fold_ng : ∀ (l st : List Point), (l.map ng).foldl pushR (st.map ng) = (l.foldl pushR st).map ng
  | [], st => rfl
  | c :: l, st => by
    have := fold_ng l (pushR st c)
    simp only [List.map_cons, List.foldl_cons]
    rw [← this]
    unfold pushR
    rw [popR_ng, List.map_cons]
theorem chainR_ng (l : List Point) : chainR (l.map ng) = (chainR l).map ng := fold_ng l []
theorem map_ng_ng (l : List Point) : (l.map ng).map ng = l := by rw [List.map_map]; conv => rhs; rw [← List.map_id l]
                                                                 congr 1; funext p; exact ng_ng p
theorem left_ng {pts : List Point} : ∀ {st : List Point}, Left (pts.map ng) (st.map ng) → Left pts st
  | [], _ => trivial
  | [_], _ => trivial
  | v :: u :: r, ⟨h1, h2⟩ => ⟨fun p hp => by have := h1 (ng p) (List.mem_map_of_mem hp); rwa [cross_ng] at this, left_ng h2⟩
theorem turns_ng : ∀ {st : List Point}, Turns (st.map ng) → Turns st
  | [], _ => trivial
  | [_], _ => trivial
  | [_, _], _ => trivial
  | c :: t :: s :: r, ⟨h1, h2⟩ => ⟨by rwa [cross_ng] at h1, turns_ng h2⟩
theorem left_mem {a b : List Point} (h : ∀ p, p ∈ b → p ∈ a) : ∀ {st : List Point}, Left a st → Left b st
  | [], _ => trivial
  | [_], _ => trivial
  | _ :: _ :: _, ⟨h1, h2⟩ => ⟨fun p hp => h1 p (h p hp), left_mem h h2⟩

/-- The upper chain. -/
structure Up (pts st : List Point) : Prop where
  asc : StrictS st
  sub : ∀ p ∈ st, p ∈ pts
  left : Left pts st
  turns : Turns st
  top : ∀ t r, st = t :: r → ∀ p ∈ pts, p = t ∨ pLt t p
  bot : ∀ t, st.getLast? = some t → ∀ p ∈ pts, p = t ∨ pLt p t
theorem up_inv {s : List Point} (hs : StrictS s) : Up s (chainR s.reverse) := by
  have hs' : StrictS (s.reverse.map ng) := by
    refine List.pairwise_map.2 (List.pairwise_reverse.2 ?_)
    exact hs.imp (fun h => pLt_ng.2 h)
  have hi := chain_inv hs'
  have he : chainR (s.reverse.map ng) = (chainR s.reverse).map ng := chainR_ng _
  rw [he] at hi
  have hmem : ∀ p, p ∈ s → ng p ∈ s.reverse.map ng := fun p hp => List.mem_map_of_mem (by simpa using hp)
  have inj : ∀ p q, ng p = ng q → p = q := fun p q h => by rw [← ng_ng p, h, ng_ng]
  refine ⟨?_, fun p hp => ?_, left_ng (left_mem (fun p hp => ?_) hi.left), turns_ng hi.turns, fun t r ht p hp => ?_, fun t ht p hp => ?_⟩
  · have := hi.desc
    rw [Desc, List.pairwise_map] at this
    exact this.imp (fun h => pLt_ng.1 h)
  · have := hi.sub (ng p) (List.mem_map_of_mem hp)
    obtain ⟨q, hq, e⟩ := List.mem_map.1 this
    rw [← inj _ _ e]; simpa using hq
  · obtain ⟨q, hq, e⟩ := List.mem_map.1 hp
    rw [← e]; exact hmem q hq
  · rcases hi.top (ng t) (r.map ng) (by rw [ht]; rfl) (ng p) (hmem p hp) with h | h
    · exact .inl (inj _ _ h)
    · exact .inr (pLt_ng.1 h)
  · rcases hi.bot (ng t) (by rw [List.getLast?_map, ht]; rfl) (ng p) (hmem p hp) with h | h
    · exact .inl (inj _ _ h)
    · exact .inr (pLt_ng.1 h)

/-- Along a walk: each step has these points on its left. -/
def LeftF (pts : List Point) : List Point → Prop
  | u :: v :: r => (∀ p ∈ pts, 0 ≤ cross u v p) ∧ LeftF pts (v :: r)
  | _ => True
theorem leftF_join {pts : List Point} {x : Point} : ∀ {a b : List Point}, LeftF pts (a ++ [x]) → LeftF pts (x :: b) → LeftF pts (a ++ x :: b)
  | [], _, _, h => h
  | [_], _, h1, h2 => ⟨h1.1, h2⟩
  | _ :: v :: a, b, h1, h2 => ⟨h1.1, leftF_join (a := v :: a) h1.2 h2⟩
theorem left_rev {pts : List Point} : ∀ {st : List Point}, Left pts st → LeftF pts st.reverse
  | [], _ => trivial
  | [_], _ => trivial
  | v :: u :: r, ⟨h1, h2⟩ => by
    have ih := left_rev h2
    rw [List.reverse_cons] at ih
    rw [List.reverse_cons, List.reverse_cons, List.append_assoc]
    exact leftF_join ih ⟨h1, trivial⟩
theorem leftF_get {pts : List Point} : ∀ {w : List Point}, LeftF pts w → ∀ x, x + 1 < w.length → ∀ p ∈ pts, 0 ≤ cross (w.getD x default) (w.getD (x + 1) default) p
  | [], _, x, h => by simp at h
  | [_], _, x, h => by simp at h
  | u :: v :: r, hl, 0, _ => hl.1
  | u :: v :: r, hl, x + 1, h => by
    have := leftF_get hl.2 x (by simpa using h)
    simpa using this
/-- The closed walk around a hull: from its first corner along the lower chain to the last one, and back along the upper chain. -/
def walkOf (s : List Point) : List Point := (chainR s).reverse ++ (chainR s.reverse).reverse.tail
end Saw
end Go.SL
