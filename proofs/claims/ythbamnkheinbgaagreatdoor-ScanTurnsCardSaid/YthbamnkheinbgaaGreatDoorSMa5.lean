/- Poly's plain mathematics, part 5: the hull, as both compute it. -/
import Derived.Test.YthbamnkheinbgaaGreatDoorSMa4
import Derived.Test.YthbamnkheinbgaaGreatDoorSMa2
set_option linter.unusedVariables false
set_option linter.unusedSimpArgs false
namespace Go.SL
namespace Saw
def turnP (q:Nat) (p:qA):qA:=match q with
 |0=>p
 |1=>⟨-p.Y,p.X⟩
 |2=>⟨-p.X,-p.Y⟩
 |_=>⟨p.Y,-p.X⟩
def canT (p:qA):Bool:=!(p.X== -9223372036854775808)&&!(p.Y== -9223372036854775808)
def turns (a:List qA) (q:Nat):List qA:=bif a.all canT then a.map (turnP q) else[]
def Left (pts:List qA):List qA->Prop
 |v::u::r=>(∀p∈pts,0<=qBC u v p)/\Left pts (u::r)
 |_=>True
def Turns :List qA->Prop
 |c::t::s::r=>0<qBC s t c/\Turns (t::s::r)
 |_=>True
abbrev Desc (st:List qA):Prop:=st.Pairwise (λa b=>pLt b a)
structure Inv (pts st:List qA):Prop where
 desc:Desc st
 sub:∀p∈st,p∈pts
 left:Left pts st
 turns:Turns st
 top:∀t r,st=t::r->∀p∈pts,p=t\/pLt p t
 bot:∀t,st.getLast? =some t->∀p∈pts,p=t\/pLt t p
structure Up (pts st:List qA):Prop where
 asc:qEU st
 sub:∀p∈st,p∈pts
 left:Left pts st
 turns:Turns st
 top:∀t r,st=t::r->∀p∈pts,p=t\/pLt t p
 bot:∀t,st.getLast? =some t->∀p∈pts,p=t\/pLt p t
def LeftF (pts:List qA):List qA->Prop
 |u::v::r=>(∀p∈pts,0<=qBC u v p)/\LeftF pts (v::r)
 |_=>True
end Saw
end Go.SL
