/- Poly's plain mathematics, part 10: the hull as a closed walk that has every point on its left. -/
import Derived.Test.YthbamnkheinbgaaGreatDoorSMa5
set_option linter.unusedVariables false
set_option linter.unusedSimpArgs false
namespace Go.SL
namespace Saw
def qIh :List qA->Prop
 |u::v::w::r=>0<cross u v w/\qIh (v::w::r)
 |_=>True
abbrev spU (p q:qA) (y:Int):Prop:=p.Y<q.Y/\p.Y<=y/\y<=q.Y
abbrev spD (p q:qA) (y:Int):Prop:=q.Y<p.Y/\q.Y<=y/\y<=p.Y
abbrev Ep (H:List qA) (j:Nat):qA:=H.getD j dd
abbrev Eq' (H:List qA) (j:Nat):qA:=H.getD ((j+1) % H.length) dd
def bad (p q:qA) (y:Int):Prop:=¬p.Y<q.Y/\¬q.Y<p.Y/\(q.X-p.X)*(y-p.Y)<0
structure Cvx (H:List qA):Prop where
 n3:3<=H.length
 rg:∀p∈H,rng p
 lf:∀x,x<H.length->∀p∈H,0<=cross (Ep H x) (Eq' H x) p
 tn:∀x,x<H.length->0<cross (Ep H x) (Eq' H x) (Ep H ((x+2) % H.length))
structure YB (H:List qA) (l h:Int):Prop where
 lo:∃p∈H,p.Y=l
 hi:∃p∈H,p.Y=h
 all:∀p∈H,l<=p.Y/\p.Y<=h
end Saw
end Go.SL
