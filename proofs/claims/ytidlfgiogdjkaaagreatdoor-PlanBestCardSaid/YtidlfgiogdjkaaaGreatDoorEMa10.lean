import Derived.Test.YtidlfgiogdjkaaaGreatDoorEMa9
import Derived.Test.YtidlfgiogdjkaaaGreatDoorEMa8
import Derived.Test.YtidlfgiogdjkaaaGreatDoorEMa6
set_option linter.unusedVariables false
set_option linter.unusedSimpArgs false
namespace Go.SL.Saw
variable {l :List qB} {ds:List Defect} {ps:List Product} {F:Rect} {w:Saw} {t:Rates}
end Go.SL.Saw
namespace Go.SL.Saw
end Go.SL.Saw
namespace Go.SL.Saw
variable {l :List qB} {ds:List Defect} {ps:List Product} {F r:Rect} {w:Saw} {t:Rates}
def gB (l:List qB) (ds:List Defect) (ps:List Product) (w:Saw) (t:Rates) (y:Leaf):Prop:=y.Product= -1\/(bestR l ds (ps.getD y.Product.toNat default) y.Rect w.Step t.Fine).2.1=true
theorem qUa {i:Nat} {x:Leaf} (h:gB l ds ps w t x):(bdOf l ds ps w.Step t.Fine i x).length=([x].filter (λx=>x.Product != -1)).length:=by
 unfold bdOf;by_cases c:x.Product= -1
 ·have c':(x.Product != -1)=false:=by simpa using c
  rw[if_pos c];simp[c']
 ·have c':(x.Product != -1)=true:=by simpa using c
  rw[if_neg c,h.resolve_left c];simp[c']
theorem qIu {kerf:Int}:∀{T:T} {r:Rect} (m:Int),okS (bdCat ps) kerf T r->((lvT kerf T ⟨r,m⟩).filter (λx=>x.Product != -1)).length=((qX T).filter (λn=>n.Kind==1)).length
 | .leaf n,r,m,h=>by
  rcases chkN_kind h.1 h.2 with⟨e,e2⟩|⟨e,eb⟩
  ·simp[lvT,allT,TR,e,qX]
  ·have:¬n.At= -1:=by
    unfold bdCat at eb;split at eb
    ·cases eb
    ·omega
   simp[lvT,allT,TR,e,qX,this]
 | .rip n a b,r,m,h=>by
  have hk:¬n.Kind=1:=by rcases ripB_iff.1 h.1 with e|e<;>omega
  rw[(qBN h.1).1,List.filter_append,List.length_append];simp only;rw[qIu _ h.2.2.1,qIu _ h.2.2.2];simp[qX,hk]
end Go.SL.Saw
namespace Go.SL.Saw
def trN :List Node->Nat->Nat
 |[],_=>0
 |x::l,o=>if o-1+(bif ripB x.Kind then 2 else 0)=0 then 1 else 1+trN l (o-1+(bif ripB x.Kind then 2 else 0))
theorem qI8 :∀(T:T) (l:List Node) (o:Nat),FY T->trN (qX T++l) (o+1)=(qX T).length+(if o=0 then 0 else trN l o)
 | .leaf n,l,o,h=>by
  have h':ripB n.Kind=false:=h;show trN (n::l) (o+1)=1+_;rw[trN,h',cond_false,Nat.add_sub_cancel,Nat.add_zero];split<;>simp
 | .rip n a b,l,o,h=>by
  show trN (n::(qX a++qX b++l)) (o+1)=(qX a++qX b).length+1+_;rw[trN,h.1,cond_true,if_neg (by omega),List.append_assoc,show o+1-1+2=(o+1)+1 by omega,qI8 a _ _ h.2.1,if_neg (by omega),qI8 b _ _ h.2.2,List.length_append];omega
theorem qSL :∀(l:List Node) (o:Nat),trN l o<=l.length
 |[],_=>Nat.le_refl _
 |x::l,o=>by
  have:=qSL l (o-1+(bif ripB x.Kind then 2 else 0));rw[trN];split<;>simp<;>omega
def prs (axis kerf B:Int):Nat->Int->List Node->List Pt×Int×List Node
 |0,e,l=>([],e,l)
 |_+1,e,[]=>([],e,[])
 | n+1,e,x::r=>if x.Kind=axis then
   (if trN r 1=1/\(r.getD 0 default).Kind=0 then prs axis kerf B n (w64 (x.At+kerf)) (r.drop (trN r 1))
   else((⟨e,x.At⟩,r.take (trN r 1))::(prs axis kerf B n (imin (w64 (x.At+kerf)) B) (r.drop (trN r 1))).1,(prs axis kerf B n (imin (w64 (x.At+kerf)) B) (r.drop (trN r 1))).2))
  else([],e,x::r)
def qCV (B:Int) (q:Int×List Node):List Pt:=if q.2≠[]/\(q.2.getD 0 default).Kind≠0 then[(⟨q.1,B⟩,q.2)] else[]
def prsL (axis kerf:Int) (s:Span) (l:List Node):List Pt:=(prs axis kerf s.B (l.length+1) s.A l).1++qCV s.B (prs axis kerf s.B (l.length+1) s.A l).2
def okPt (axis:Int) (l:List Node):Prop:=∃T,FY T/\l=qX T/\(l.getD 0 default).Kind≠0/\(l.getD 0 default).Kind≠axis
theorem okPt_ne {axis:Int} {l:List Node} (h:okPt axis l):∃x r,l=x::r/\x.Kind≠0/\x.Kind≠axis:=by
 obtain⟨T,_,e,k1,k2⟩:=h
 match l,e,k1,k2 with
 |[],e,_,_=>have:=qEj T;rw[<-e] at this;simp at this
 |x::r,_,k1,k2=>exact⟨x,r,rfl,k1,k2⟩
theorem qQ6 {axis kerf B:Int} (ha:axis=2\/axis=3) (hk:0<=kerf/\kerf<=20) (hB:B<=600):∀(L:List Pt) (e:Int) (n:Nat),-600<=e->e<=B->goodL kerf B e L->(∀x∈L,okPt axis x.2)->((rowB axis kerf B e L).1++(if(rowB axis kerf B e L).2 then[] else[(⟨0,0⟩:Node)])).length<n->
  (prs axis kerf B n e ((rowB axis kerf B e L).1++(if(rowB axis kerf B e L).2 then[] else[(⟨0,0⟩:Node)]))).1++qCV B (prs axis kerf B n e ((rowB axis kerf B e L).1++(if(rowB axis kerf B e L).2 then[] else[(⟨0,0⟩:Node)]))).2=L
 |[],e,n,he,heB,h,hx,hn=>by
  obtain⟨n,rfl⟩:∃m,n=m+1:=⟨n-1,by omega⟩
  simp only[rowB,List.nil_append,Bool.false_eq_true,if_false];rw[prs,if_neg (by simp only;omega)];simp[qCV]
 |x::r,e,n,he,heB,h,hx,hn=>by
  obtain⟨h1,h2,h3,h4⟩:=h;obtain⟨y,ys,ey,k1,k2⟩:=okPt_ne (hx x List.mem_cons_self);obtain⟨T,sT,eT,_,_⟩:=hx x List.mem_cons_self
  -- behind the waste
  have inner:∀m:Nat,((if x.1.B<B then⟨axis,x.1.B⟩::x.2++((rowB axis kerf B (imin (x.1.B+kerf) B) r).1++(if(rowB axis kerf B (imin (x.1.B+kerf) B) r).2 then[] else[(⟨0,0⟩:Node)])) else x.2):List Node).length<m->
    (prs axis kerf B m x.1.A (if x.1.B<B then⟨axis,x.1.B⟩::x.2++((rowB axis kerf B (imin (x.1.B+kerf) B) r).1++(if(rowB axis kerf B (imin (x.1.B+kerf) B) r).2 then[] else[(⟨0,0⟩:Node)])) else x.2)).1
    ++qCV B (prs axis kerf B m x.1.A (if x.1.B<B then⟨axis,x.1.B⟩::x.2++((rowB axis kerf B (imin (x.1.B+kerf) B) r).1++(if(rowB axis kerf B (imin (x.1.B+kerf) B) r).2 then[] else[(⟨0,0⟩:Node)])) else x.2)).2=x::r:=by
   intro m hm;obtain⟨m,rfl⟩:∃k,m=k+1:=⟨m-1,by omega⟩
   by_cases c:x.1.B<B
   ·rw[if_pos c] at hm⊢h4;simp only[List.cons_append];have mi:=imin_or (x.1.B+kerf) B;have et:trN (x.2++((rowB axis kerf B (imin (x.1.B+kerf) B) r).1++(if(rowB axis kerf B (imin (x.1.B+kerf) B) r).2 then[] else[(⟨0,0⟩:Node)]))) 1=x.2.length:=by
     have:=qI8 T ((rowB axis kerf B (imin (x.1.B+kerf) B) r).1++(if(rowB axis kerf B (imin (x.1.B+kerf) B) r).2 then[] else[(⟨0,0⟩:Node)])) 0 sT;rw[<-eT] at this;simpa using this
    have e0:(x.2++((rowB axis kerf B (imin (x.1.B+kerf) B) r).1++(if(rowB axis kerf B (imin (x.1.B+kerf) B) r).2 then[] else[(⟨0,0⟩:Node)]))).getD 0 default=y:=by rw[ey];rfl
    rw[prs,if_pos rfl,if_neg (by rw[e0];exact λq=>k1 q.2),et];dsimp only;rw[qF (n:=x.1.B+kerf) (by omega) (by omega),List.take_left' rfl,List.drop_left' rfl];simp only[List.cons_append];have ih:=qQ6 ha hk hB r (imin (x.1.B+kerf) B) m (by omega) (by omega) h4 (λz hz=>hx z (List.mem_cons_of_mem _ hz)) (by simp only[List.cons_append,List.length_cons,List.length_append] at hm⊢;omega);rw[ih]
   ·rw[if_neg c] at hm⊢h4;subst h4;have:x.1.B=B:=by omega
    rw[ey,prs,if_neg k2];simp only[List.nil_append];unfold qCV;simp only[ne_eq,reduceCtorEq,not_false_eq_true,true_and];rw[if_pos (show¬((y::ys).getD 0 default).Kind=0 from k1),<-ey,<-this]
  have esp:(rowB axis kerf B e (x::r)).1++(if(rowB axis kerf B e (x::r)).2 then[] else[(⟨0,0⟩:Node)])=(if x.1.A>e then[⟨axis,x.1.A-kerf⟩,⟨0,0⟩] else[])++(if x.1.B<B then⟨axis,x.1.B⟩::x.2++((rowB axis kerf B (imin (x.1.B+kerf) B) r).1++(if(rowB axis kerf B (imin (x.1.B+kerf) B) r).2 then[] else[(⟨0,0⟩:Node)])) else x.2):=by
   rw[PU];by_cases c:x.1.B<B
   ·rw[if_pos c,if_pos c];simp only[List.append_assoc]
   ·rw[if_neg c,if_neg c];simp
  rw[esp] at hn⊢;generalize (if x.1.B<B then⟨axis,x.1.B⟩::x.2++((rowB axis kerf B (imin (x.1.B+kerf) B) r).1++(if(rowB axis kerf B (imin (x.1.B+kerf) B) r).2 then[] else[(⟨0,0⟩:Node)])) else x.2:List Node)=Z at inner hn⊢;by_cases ca:x.1.A>e
  ·rw[if_pos ca] at hn⊢;obtain⟨n,rfl⟩:∃m,n=m+1:=⟨n-1,by omega⟩
   simp only[List.cons_append,List.nil_append] at hn⊢;have t1:trN ((⟨0,0⟩:Node)::Z) 1=1:=by rw[trN];rfl
   rw[prs,if_pos rfl,t1,if_pos ⟨rfl,rfl⟩];dsimp only;rw[qF (n:=x.1.A-kerf+kerf) (by omega) (by omega),show x.1.A-kerf+kerf=x.1.A by omega];exact inner n (by simp at hn;omega)
  ·rw[if_neg ca] at hn⊢;have:x.1.A=e:=by omega
   rw[<-this];exact inner n (by simpa using hn)
theorem qUE {axis kerf:Int} {s:Span} (ha:axis=2\/axis=3) (hk:0<=kerf/\kerf<=20) (h1: -600<=s.A) (h2:s.A<=s.B) (h3:s.B<=600) {L:List Pt} (hg:goodL kerf s.B s.A L) (hx:∀x∈L,okPt axis x.2):prsL axis kerf s (rowN axis kerf s L)=L:=
 qQ6 ha hk h3 L s.A _ h1 h2 hg hx (Nat.lt_succ_self _)
end Go.SL.Saw
namespace Go.SL.Saw
end Go.SL.Saw
namespace Go.SL
namespace Saw
abbrev Sp :=qKr
end Saw
end Go.SL
