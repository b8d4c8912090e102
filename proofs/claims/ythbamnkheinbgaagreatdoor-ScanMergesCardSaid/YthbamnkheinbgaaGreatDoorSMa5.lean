/- Poly's plain mathematics, part 5: the hull, as both compute it. -/
import Derived.Test.YthbamnkheinbgaaGreatDoorSMa4
import Derived.Test.YthbamnkheinbgaaGreatDoorSMa2
set_option linter.unusedVariables false
set_option linter.unusedSimpArgs false
namespace Go.SL
namespace Saw
def turnP (q:Nat) (p:qB):qB:=match q with
 |0=>p
 |1=>⟨-p.Y,p.X⟩
 |2=>⟨-p.X,-p.Y⟩
 |_=>⟨p.Y,-p.X⟩
def canT (p:qB):Bool:=!(p.X== -9223372036854775808)&&!(p.Y== -9223372036854775808)
def turns (a:List qB) (q:Nat):List qB:=bif a.all canT then a.map (turnP q) else[]
def Left (pts:List qB):List qB->Prop
 |v::u::r=>(∀p∈pts,0<=qBp u v p)/\Left pts (u::r)
 |_=>True
def Turns :List qB->Prop
 |c::t::s::r=>0<qBp s t c/\Turns (t::s::r)
 |_=>True
abbrev Desc (st:List qB):Prop:=st.Pairwise (λa b=>pLt b a)
structure Inv (pts st:List qB):Prop where
 desc:Desc st
 sub:∀p∈st,p∈pts
 left:Left pts st
 turns:Turns st
 top:∀t r,st=t::r->∀p∈pts,p=t\/pLt p t
 bot:∀t,st.getLast? =some t->∀p∈pts,p=t\/pLt t p
structure Up (pts st:List qB):Prop where
 asc:qEk st
 sub:∀p∈st,p∈pts
 left:Left pts st
 turns:Turns st
 top:∀t r,st=t::r->∀p∈pts,p=t\/pLt t p
 bot:∀t,st.getLast? =some t->∀p∈pts,p=t\/pLt p t
def LeftF (pts:List qB):List qB->Prop
 |u::v::r=>(∀p∈pts,0<=qBp u v p)/\LeftF pts (v::r)
 |_=>True
end Saw
end Go.SL
