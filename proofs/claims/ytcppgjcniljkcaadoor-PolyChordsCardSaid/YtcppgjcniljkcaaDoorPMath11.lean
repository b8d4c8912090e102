/- Poly's plain mathematics, part 11: the hull turns to the left at every corner. -/
import Derived.Test.YtcppgjcniljkcaaDoorPMath10
set_option linter.unusedVariables false
set_option linter.unusedSimpArgs false
namespace Go.SL
namespace Saw

def TurnsF : List Point → Prop
  | u :: v :: w :: r => 0 < cross u v w ∧ TurnsF (v :: w :: r)
  | _ => True
theorem turnsF_join {x y : Point} : ∀ {a b : List Point}, TurnsF (a ++ [x, y]) → TurnsF (x :: y :: b) → TurnsF (a ++ x :: y :: b)
  | [], _, _, h => h
  | [_], _, h1, h2 => ⟨h1.1, h2⟩
  | [_, _], _, h1, h2 => ⟨h1.1, h1.2.1, h2⟩
  | _ :: v :: w :: a, b, h1, h2 => ⟨h1.1, turnsF_join (a := v :: w :: a) h1.2 h2⟩
theorem turns_rev : ∀ {st : List Point}, Turns st → TurnsF st.reverse
  | [], _ => trivial
  | [_], _ => trivial
  | [_, _], _ => trivial
  | c :: t :: s :: r, ⟨h1, h2⟩ => by
    have ih := turns_rev h2
    rw [List.reverse_cons, List.reverse_cons, List.append_assoc] at ih
    rw [List.reverse_cons, List.reverse_cons, List.reverse_cons, List.append_assoc, List.append_assoc]
    exact turnsF_join ih ⟨h1, trivial⟩
theorem turnsF_get : ∀ {w : List Point}, TurnsF w → ∀ x, x + 2 < w.length → 0 < cross (w.getD x default) (w.getD (x + 1) default) (w.getD (x + 2) default)
  | [], _, x, h => by simp at h
  | [_], _, x, h => by simp at h
  | [_, _], _, x, h => by simp only [List.length_cons, List.length_nil] at h; omega
  | u :: v :: w :: r, hl, 0, _ => hl.1
  | u :: v :: w :: r, hl, x + 1, h => by
    have := turnsF_get hl.2 x (by simpa using h)
    simpa using this

/-- The turn at the last corner. -/
theorem top_turn {s : List Point} (hs : StrictS s) (h5 : ¬ (chainR s).length + (chainR s.reverse).length < 5) {x y M : Point} {lo up : List Point} (e1 : chainR s = M :: x :: lo) (e2 : (chainR s.reverse).reverse = M :: y :: up) : 0 < cross x M y := by
  have hi := chain_inv hs
  have hu := up_inv hs
  have hl := hi.left
  rw [e1] at hl
  have hd := hi.desc
  rw [e1] at hd
  have hxM : pLt x M := (List.pairwise_cons.1 hd).1 x List.mem_cons_self
  have L2 := left_rev hu.left
  rw [e2] at L2
  have hys : y ∈ s := hu.sub y (by rw [← List.mem_reverse, e2]; simp)
  have htop := hi.top M _ e1
  have hyM : pLt y M := by
    have ha := hu.asc
    have hr : (chainR s.reverse).reverse.Pairwise (fun a b => pLt b a) := List.pairwise_reverse.2 ha
    rw [e2] at hr
    exact (List.pairwise_cons.1 hr).1 y List.mem_cons_self
  rcases Int.lt_or_eq_of_le (hl.1 y hys) with h | h
  · exact h
  exfalso
  -- all points lie on one line
  have key : ∀ p ∈ s, pLt p M → (M.X - x.X) * (M.Y - p.Y) - (M.X - p.X) * (M.Y - x.Y) = 0 := by
    intro p hp hpM
    have q1 := hl.1 p hp
    have q2 := L2.1 p hp
    have a1 := vec_trans (lt_pos hxM) (lt_pos hyM) (lt_pos hpM) (by unfold cross at h; grind) (by unfold cross at q2; grind)
    unfold cross at q1
    have e : (M.X - x.X) * (p.Y - x.Y) - (p.X - x.X) * (M.Y - x.Y) = -((M.X - x.X) * (M.Y - p.Y) - (M.X - p.X) * (M.Y - x.Y)) := by clear q1 q2 a1; grind
    omega
  have par : ∀ p q, p ∈ s → q ∈ s → pLt p M → pLt q M → (M.X - p.X) * (M.Y - q.Y) - (M.X - q.X) * (M.Y - p.Y) = 0 := by
    intro p q hp hq hpM hqM
    have k1 := key p hp hpM
    have k2 := key q hq hqM
    have b1 := vec_trans (lt_pos hpM) (lt_pos hxM) (lt_pos hqM) (by omega) (by omega)
    have b2 := vec_trans (lt_pos hqM) (lt_pos hxM) (lt_pos hpM) (by omega) (by omega)
    omega
  have c1 : (chainR s).length ≤ 2 := by
    rw [e1]
    match lo, e1 with
    | [], _ => simp
    | z :: lo', e1 =>
      have ht := hi.turns
      rw [e1] at ht
      have hzs : z ∈ s := hi.sub z (by rw [e1]; simp)
      have hxs : x ∈ s := hi.sub x (by rw [e1]; simp)
      have hzM : pLt z M := by
        have hd' := hi.desc
        rw [e1] at hd'
        exact (List.pairwise_cons.1 hd').1 z (by simp)
      have := par z x hzs hxs hzM hxM
      have t1 := ht.1
      have e : cross z x M = (M.X - z.X) * (M.Y - x.Y) - (M.X - x.X) * (M.Y - z.Y) := by unfold cross; clear t1 this; grind
      omega
  have c2 : (chainR s.reverse).length ≤ 2 := by
    rw [← List.length_reverse, e2]
    match up, e2 with
    | [], _ => simp
    | z :: up', e2 =>
      have ht := turns_rev hu.turns
      rw [e2] at ht
      have hzs : z ∈ s := hu.sub z (by rw [← List.mem_reverse, e2]; simp)
      have hzM : pLt z M := by
        have hr : (chainR s.reverse).reverse.Pairwise (fun a b => pLt b a) := List.pairwise_reverse.2 hu.asc
        rw [e2] at hr
        exact (List.pairwise_cons.1 hr).1 z (by simp)
      have := par y z hys hzs hyM hzM
      have t1 := ht.1
      have e : cross M y z = (M.X - y.X) * (M.Y - z.Y) - (M.X - z.X) * (M.Y - y.Y) := by unfold cross; clear t1 this; grind
      omega
  omega
end Saw
end Go.SL
