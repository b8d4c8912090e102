/- Plans: the value of the yield of the best pattern. -/
import Derived.Test.YtidlfgiogdjkaaaGreatDoorEMa9
import Derived.Test.YtidlfgiogdjkaaaGreatDoorEMa8
import Derived.Test.YtidlfgiogdjkaaaGreatDoorEMa6
set_option linter.unusedVariables false
set_option linter.unusedSimpArgs false
namespace Go.SL.Saw
variable {l :List qB} {ds:List Defect} {ps:List Product} {F:Rect} {w:Saw} {t:Rates}
end Go.SL.Saw

namespace Go.SL.Saw
end Go.SL.Saw

namespace Go.SL.Saw
variable {l :List qB} {ds:List Defect} {ps:List Product} {F r:Rect} {w:Saw} {t:Rates}
end Go.SL.Saw

namespace Go.SL.Saw
def trN :List Node->Nat->Nat
 |[],_=>0
 |x::l,o=>if o-1+(bif ripB x.Kind then 2 else 0)=0 then 1 else 1+trN l (o-1+(bif ripB x.Kind then 2 else 0))
theorem qJE :∀(T:T) (l:List Node) (o:Nat),UW T->trN (qQ T++l) (o+1)=(qQ T).length+(if o=0 then 0 else trN l o)
 | .leaf n,l,o,h=>by
  have h':ripB n.Kind=false:=h;show trN (n::l) (o+1)=1+_;rw[trN,h',cond_false,Nat.add_sub_cancel,Nat.add_zero];split<;>simp
 | .rip n a b,l,o,h=>by
  show trN (n::(qQ a++qQ b++l)) (o+1)=(qQ a++qQ b).length+1+_;rw[trN,h.1,cond_true,if_neg (by omega),List.append_assoc,show o+1-1+2=(o+1)+1 by omega,qJE a _ _ h.2.1,if_neg (by omega),qJE b _ _ h.2.2,List.length_append];omega
theorem qT4 :∀(l:List Node) (o:Nat),trN l o<=l.length
 |[],_=>Nat.le_refl _
 |x::l,o=>by
  have:=qT4 l (o-1+(bif ripB x.Kind then 2 else 0));rw[trN];split<;>simp<;>omega
def prs (axis kerf B:Int):Nat->Int->List Node->List Pt×Int×List Node
 |0,e,l=>([],e,l)
 |_+1,e,[]=>([],e,[])
 | n+1,e,x::r=>if x.Kind=axis then
   (if trN r 1=1/\(r.getD 0 default).Kind=0 then prs axis kerf B n (w64 (x.At+kerf)) (r.drop (trN r 1))
   else((⟨e,x.At⟩,r.take (trN r 1))::(prs axis kerf B n (imin (w64 (x.At+kerf)) B) (r.drop (trN r 1))).1,(prs axis kerf B n (imin (w64 (x.At+kerf)) B) (r.drop (trN r 1))).2))
  else([],e,x::r)
def qDe (B:Int) (q:Int×List Node):List Pt:=if q.2≠[]/\(q.2.getD 0 default).Kind≠0 then[(⟨q.1,B⟩,q.2)] else[]
def prsL (axis kerf:Int) (s:Span) (l:List Node):List Pt:=(prs axis kerf s.B (l.length+1) s.A l).1++qDe s.B (prs axis kerf s.B (l.length+1) s.A l).2
def okPt (axis:Int) (l:List Node):Prop:=∃T,UW T/\l=qQ T/\(l.getD 0 default).Kind≠0/\(l.getD 0 default).Kind≠axis
theorem qRd {axis:Int} {l:List Node} (h:okPt axis l):∃x r,l=x::r/\x.Kind≠0/\x.Kind≠axis:=by
 obtain⟨T,_,e,k1,k2⟩:=h
 match l,e,k1,k2 with
 |[],e,_,_=>have:=qEJ T;rw[<-e] at this;simp at this
 |x::r,_,k1,k2=>exact⟨x,r,rfl,k1,k2⟩
theorem qRk {axis kerf B:Int} (ha:axis=2\/axis=3) (hk:0<=kerf/\kerf<=20) (hB:B<=600):∀(L:List Pt) (e:Int) (n:Nat),-600<=e->e<=B->goodL kerf B e L->(∀x∈L,okPt axis x.2)->((rowB axis kerf B e L).1++(if(rowB axis kerf B e L).2 then[] else[(⟨0,0⟩:Node)])).length<n->
  (prs axis kerf B n e ((rowB axis kerf B e L).1++(if(rowB axis kerf B e L).2 then[] else[(⟨0,0⟩:Node)]))).1++qDe B (prs axis kerf B n e ((rowB axis kerf B e L).1++(if(rowB axis kerf B e L).2 then[] else[(⟨0,0⟩:Node)]))).2=L
 |[],e,n,he,heB,h,hx,hn=>by
  obtain⟨n,rfl⟩:∃m,n=m+1:=⟨n-1,by omega⟩
  simp only[rowB,List.nil_append,Bool.false_eq_true,if_false];rw[prs,if_neg (by simp only;omega)];simp[qDe]
 |x::r,e,n,he,heB,h,hx,hn=>by
  obtain⟨h1,h2,h3,h4⟩:=h;obtain⟨y,ys,ey,k1,k2⟩:=qRd (hx x List.mem_cons_self);obtain⟨T,sT,eT,_,_⟩:=hx x List.mem_cons_self
  -- behind the waste
  have inner:∀m:Nat,((if x.1.B<B then⟨axis,x.1.B⟩::x.2++((rowB axis kerf B (imin (x.1.B+kerf) B) r).1++(if(rowB axis kerf B (imin (x.1.B+kerf) B) r).2 then[] else[(⟨0,0⟩:Node)])) else x.2):List Node).length<m->
    (prs axis kerf B m x.1.A (if x.1.B<B then⟨axis,x.1.B⟩::x.2++((rowB axis kerf B (imin (x.1.B+kerf) B) r).1++(if(rowB axis kerf B (imin (x.1.B+kerf) B) r).2 then[] else[(⟨0,0⟩:Node)])) else x.2)).1
    ++qDe B (prs axis kerf B m x.1.A (if x.1.B<B then⟨axis,x.1.B⟩::x.2++((rowB axis kerf B (imin (x.1.B+kerf) B) r).1++(if(rowB axis kerf B (imin (x.1.B+kerf) B) r).2 then[] else[(⟨0,0⟩:Node)])) else x.2)).2=x::r:=by
   intro m hm;obtain⟨m,rfl⟩:∃k,m=k+1:=⟨m-1,by omega⟩
   by_cases c:x.1.B<B
   ·rw[if_pos c] at hm⊢h4;simp only[List.cons_append];have mi:=imin_or (x.1.B+kerf) B;have et:trN (x.2++((rowB axis kerf B (imin (x.1.B+kerf) B) r).1++(if(rowB axis kerf B (imin (x.1.B+kerf) B) r).2 then[] else[(⟨0,0⟩:Node)]))) 1=x.2.length:=by
     have:=qJE T ((rowB axis kerf B (imin (x.1.B+kerf) B) r).1++(if(rowB axis kerf B (imin (x.1.B+kerf) B) r).2 then[] else[(⟨0,0⟩:Node)])) 0 sT;rw[<-eT] at this;simpa using this
    have e0:(x.2++((rowB axis kerf B (imin (x.1.B+kerf) B) r).1++(if(rowB axis kerf B (imin (x.1.B+kerf) B) r).2 then[] else[(⟨0,0⟩:Node)]))).getD 0 default=y:=by rw[ey];rfl
    rw[prs,if_pos rfl,if_neg (by rw[e0];exact λq=>k1 q.2),et];dsimp only;rw[qD (n:=x.1.B+kerf) (by omega) (by omega),List.take_left' rfl,List.drop_left' rfl];simp only[List.cons_append];have ih:=qRk ha hk hB r (imin (x.1.B+kerf) B) m (by omega) (by omega) h4 (λz hz=>hx z (List.mem_cons_of_mem _ hz)) (by simp only[List.cons_append,List.length_cons,List.length_append] at hm⊢;omega);rw[ih]
   ·rw[if_neg c] at hm⊢h4;subst h4;have:x.1.B=B:=by omega
    rw[ey,prs,if_neg k2];simp only[List.nil_append];unfold qDe;simp only[ne_eq,reduceCtorEq,not_false_eq_true,true_and];rw[if_pos (show¬((y::ys).getD 0 default).Kind=0 from k1),<-ey,<-this]
  have esp:(rowB axis kerf B e (x::r)).1++(if(rowB axis kerf B e (x::r)).2 then[] else[(⟨0,0⟩:Node)])=(if x.1.A>e then[⟨axis,x.1.A-kerf⟩,⟨0,0⟩] else[])++(if x.1.B<B then⟨axis,x.1.B⟩::x.2++((rowB axis kerf B (imin (x.1.B+kerf) B) r).1++(if(rowB axis kerf B (imin (x.1.B+kerf) B) r).2 then[] else[(⟨0,0⟩:Node)])) else x.2):=by
   rw[JU];by_cases c:x.1.B<B
   ·rw[if_pos c,if_pos c];simp only[List.append_assoc]
   ·rw[if_neg c,if_neg c];simp
  rw[esp] at hn⊢;generalize (if x.1.B<B then⟨axis,x.1.B⟩::x.2++((rowB axis kerf B (imin (x.1.B+kerf) B) r).1++(if(rowB axis kerf B (imin (x.1.B+kerf) B) r).2 then[] else[(⟨0,0⟩:Node)])) else x.2:List Node)=Z at inner hn⊢;by_cases ca:x.1.A>e
  ·rw[if_pos ca] at hn⊢;obtain⟨n,rfl⟩:∃m,n=m+1:=⟨n-1,by omega⟩
   simp only[List.cons_append,List.nil_append] at hn⊢;have t1:trN ((⟨0,0⟩:Node)::Z) 1=1:=by rw[trN];rfl
   rw[prs,if_pos rfl,t1,if_pos ⟨rfl,rfl⟩];dsimp only;rw[qD (n:=x.1.A-kerf+kerf) (by omega) (by omega),show x.1.A-kerf+kerf=x.1.A by omega];exact inner n (by simp at hn;omega)
  ·rw[if_neg ca] at hn⊢;have:x.1.A=e:=by omega
   rw[<-this];exact inner n (by simpa using hn)
theorem qUr {axis kerf:Int} {s:Span} (ha:axis=2\/axis=3) (hk:0<=kerf/\kerf<=20) (h1: -600<=s.A) (h2:s.A<=s.B) (h3:s.B<=600) {L:List Pt} (hg:goodL kerf s.B s.A L) (hx:∀x∈L,okPt axis x.2):prsL axis kerf s (rowN axis kerf s L)=L:=
 qRk ha hk h3 L s.A _ h1 h2 hg hx (Nat.lt_succ_self _)
end Go.SL.Saw

namespace Go.SL.Saw
theorem qLy :∀{a b:List Int},a.Pairwise (·<·)->b.Pairwise (·<·)->(∀x,x∈a↔x∈b)->a=b
 |[],[],_,_,_=>rfl
 |[],y::b,_,_,h=>by have:=(h y).2 List.mem_cons_self;cases this
 |x::a,[],_,_,h=>by have:=(h x).1 List.mem_cons_self;cases this
 |x::a,y::b,ha,hb,h=>by
  obtain⟨a1,a2⟩:=List.pairwise_cons.1 ha;obtain⟨b1,b2⟩:=List.pairwise_cons.1 hb;have e:x=y:=by
   rcases List.mem_cons.1 ((h x).1 List.mem_cons_self) with e|e
   ·exact e
   ·rcases List.mem_cons.1 ((h y).2 List.mem_cons_self) with f|f
    ·exact f.symm
    ·have:=b1 x e;have:=a1 y f;omega
  subst e;rw[qLy a2 b2 λz=>⟨λhz=>?_,λhz=>?_⟩]
  ·rcases List.mem_cons.1 ((h z).1 (List.mem_cons_of_mem _ hz)) with e|e
   ·have:=a1 z hz;omega
   ·exact e
  ·rcases List.mem_cons.1 ((h z).2 (List.mem_cons_of_mem _ hz)) with e|e
   ·have:=b1 z hz;omega
   ·exact e
def insI (n:Int):List Int->List Int
 |[]=>[n]
 |x::r=>if x<n then x::insI n r else if x=n then x::r else n::x::r
theorem insI_mem (n:Int):∀(l:List Int) (x:Int),x∈insI n l↔x=n\/x∈l
 |[],x=>by simp[insI]
 |y::r,x=>by
  unfold insI;split
  ·rw[List.mem_cons,insI_mem n r,List.mem_cons,or_left_comm]
  ·split
   ·rename_i h;subst h;rw[List.mem_cons];simp
   ·rw[List.mem_cons]
theorem qDv (n:Int):∀(l:List Int),l.Pairwise (·<·)->(insI n l).Pairwise (·<·)
 |[],_=>by simp[insI]
 |y::r,h=>by
  obtain⟨h1,h2⟩:=List.pairwise_cons.1 h;unfold insI;split
  ·rename_i c;refine List.pairwise_cons.2 ⟨λx hx=>?_,qDv n r h2⟩;rcases(insI_mem n r x).1 hx with e|e
   ·omega
   ·exact h1 x e
  ·split
   ·exact h
   ·refine List.pairwise_cons.2 ⟨λx hx=>?_,h⟩;rcases List.mem_cons.1 hx with e|e
    ·omega
    ·have:=h1 x e;omega
theorem qJm (n:Int):∀(l:List Int),(insI n l).length<=l.length+1
 |[]=>by simp[insI]
 |y::r=>by
  have:=qJm n r;unfold insI;split
  ·simp;omega
  ·split<;>simp
theorem qIg :∀(l:List Int),l.Pairwise (·<=·)->(comp l).Pairwise (·<·)
 |[],_=>List.Pairwise.nil
 |[a],_=>by simp[comp]
 |a::b::l,h=>by
  obtain⟨h1,h2⟩:=List.pairwise_cons.1 h;have ih:=qIg (b::l) h2;show(if a=b then comp (b::l) else a::comp (b::l)).Pairwise _;split
  ·exact ih
  ·rename_i c;refine List.pairwise_cons.2 ⟨λx hx=>?_,ih⟩;have hx':=(qJD (b::l) x).1 hx;have hb:=h1 b List.mem_cons_self;rcases List.mem_cons.1 hx' with e|e
   ·omega
   ·have:=(List.pairwise_cons.1 h2).1 x e;omega
def insG :List Product->List Int->List Int
 |[],s=>s
 |p::l,s=>insG l (insI (qP p).2 (insI (qP p).1 s))
theorem qPR :∀(l:List Product) (s:List Int) (x:Int),x∈insG l s↔x∈s\/x∈allG l
 |[],s,x=>by simp[insG,allG]
 |p::l,s,x=>by
  unfold insG allG;rw[qPR l,insI_mem,insI_mem];unfold allG;simp only[List.flatMap_cons,List.mem_append,List.mem_cons,List.not_mem_nil,or_false];constructor
  ·rintro((h|h|h)|h)
   ·exact .inr (.inl (.inr h))
   ·exact .inr (.inl (.inl h))
   ·exact .inl h
   ·exact .inr (.inr h)
  ·rintro(h|(h|h)|h)
   ·exact .inl (.inr (.inr h))
   ·exact .inl (.inr (.inl h))
   ·exact .inl (.inl h)
   ·exact .inr h
theorem qIo :∀(l:List Product) (s:List Int),s.Pairwise (·<·)->(insG l s).Pairwise (·<·)
 |[],s,h=>h
 |p::l,s,h=>qIo l _ (qDv _ _ (qDv _ _ h))
theorem qUU {ps:List Product} (h:qY ps=0):insG ps []=hts ps:=by
 refine qLy (qIo ps [] List.Pairwise.nil) ?_ λx=>?_
 ·unfold hts;rw[if_pos h];apply qIg;have:=qBL (le:=λx y:Int=>decide (x<=y)) (λx y z h1 h2=>by simp at*;omega) (λx y=>by simp;omega) (allG ps);exact this.imp λh=>by simpa using h
 ·rw[qPR,qRB h];simp
end Go.SL.Saw

namespace Go.SL
namespace Saw
abbrev Sp :=qJ4
theorem qFc {r:Rect} (h:VR r):JY r=some true:=by
 unfold VR at h;unfold JY;simp only[decide_eq_true (show r.X.A<r.X.B by omega),decide_eq_true (show r.Y.A<r.Y.B by omega),decide_eq_true (show r.X.A≥-600 by omega),decide_eq_true (show r.X.B<=600 by omega),decide_eq_true (show r.Y.A≥-600 by omega),decide_eq_true (show r.Y.B<=600 by omega)];rfl
theorem qJQ {axis kerf:Int} (hk:0<=kerf/\kerf<=20) {s:Span} (hs: -600<=s.A/\s.B<=600) {L:List Pt} (hL:L.length<=100000):
  ∀(rest:List Pt) (i n:Nat) (e:Int) (T:List Node),L.drop i=rest->i<=L.length->rest.length<n->-600<=e->e<=600->goodL kerf s.B e rest->T.length+ndC rest<=1000000->
  zU axis kerf (L.map Prod.fst) (L.map Prod.snd) s n T e false (i:Int)=some (.inr (T++(rowB axis kerf s.B e rest).1,(rowB axis kerf s.B e rest).2))
 |[],i,n,e,T,hd,hi,hn,he1,he2,hg,hb=>by
  obtain⟨n,rfl⟩:∃m,n=m+1:=⟨n-1,by omega⟩
  have hi':i=L.length:=by have:=List.drop_eq_nil_iff.1 hd;omega
  rw[zU,List.length_map,decide_eq_false (by omega)];simp[rowB]
 |x::r,i,n,e,T,hd,hi,hn,he1,he2,hg,hb=>by
  obtain⟨n,rfl⟩:∃m,n=m+1:=⟨n-1,by omega⟩
  have hi':i<L.length:=by
   by_cases c:i<L.length
   ·exact c
   ·rw[List.drop_eq_nil_of_le (by omega)] at hd;cases hd
  have hx:L.getD i default=x:=by rw[jP L i hi'] at hd;exact(List.cons.inj hd).1
  have hr:L.drop (i+1)=r:=by rw[jP L i hi'] at hd;exact(List.cons.inj hd).2
  have hxa:(L.map Prod.fst).getD i default=x.1:=by rw[yN.getD_map'' Prod.fst hi',hx]
  have hxb:(L.map Prod.snd).getD i default=x.2:=by rw[yN.getD_map'' Prod.snd hi',hx]
  obtain⟨g1,g2,g3,g4⟩:=hg;have hc:ndC (x::r)=3+x.2.length+ndC r:=by simp[ndC]
  rw[hc] at hb;rw[zU,List.length_map,decide_eq_true (by omega),qG (by omega) (by omega)];simp only[cond_true,cond_false,Int.toNat_natCast,hxa,KM];rw[decide_eq_false (show¬x.1.A≥x.1.B by omega),qD (n:=e+kerf) (by omega) (by omega),qD (n:=e+kerf+1) (by omega) (by omega),decide_eq_false (show¬x.1.B>s.B by omega)];simp only[cond_false];have gA:∀{β:Type} (u v:β),(bif x.1.A !=e then(bif decide (x.1.A<e+kerf+1) then u else v) else(bif false then u else v))=v:=λu v=>by
   by_cases c:x.1.A=e
   ·rw[show(x.1.A !=e)=false by rw[bne_eq_false_iff_eq];exact c];rfl
   ·rw[show(x.1.A !=e)=true by rw[bne_iff_ne];exact c,decide_eq_false (show¬x.1.A<e+kerf+1 by omega)];rfl
  simp only[cond_false] at gA;rw[gA];have mi:=imin_or (x.1.B+kerf) s.B
  -- behind the first nodes
  have key:∀(T2:List Node),T2.length+1+x.2.length+ndC r<=1000000->KP axis kerf (L.map Prod.fst) (L.map Prod.snd) s (i:Int) (zU axis kerf (L.map Prod.fst) (L.map Prod.snd) s n) T2
    =some (.inr (T2++(if x.1.B<s.B then(⟨axis,x.1.B⟩::x.2++(rowB axis kerf s.B (imin (x.1.B+kerf) s.B) r).1) else x.2),(if x.1.B<s.B then(rowB axis kerf s.B (imin (x.1.B+kerf) s.B) r).2 else true))):=by
   intro T2 hb2;unfold KP FE;simp only[Int.toNat_natCast,hxa,hxb,List.length_map,qO (show i<4611686018427387904 by omega),qD (n:=x.1.B+kerf) (by omega) (by omega)];rw[qG (show(0:Int)<=(i:Int) by omega) (show(i:Int)<((L.length:Nat):Int) by omega)];simp only[cond_true];by_cases c:x.1.B<s.B
   ·rw[if_pos c,if_pos c,show(x.1.B==s.B)=false by rw[beq_eq_false_iff_ne];omega];rw[if_pos c] at g4;rw[qN (by omega) (by omega),qN (by simp;omega) (by omega)];simp only[Bool.not_false,cond_true];rw[qJQ hk hs hL r (i+1) n (imin (x.1.B+kerf) s.B) _ hr (by omega) (by simp at hn;omega) (by omega) (by omega) g4 (by simp;omega)];simp
   ·rw[if_neg c,if_neg c,show(x.1.B==s.B)=true by rw[beq_iff_eq];omega];rw[if_neg c] at g4;subst g4;rw[qN (n:=T2.length+x.2.length) (by omega) (by omega)];simp only[Bool.not_true,cond_false,cond_true];obtain⟨n,rfl⟩:∃m,n=m+1:=⟨n-1,by simp at hn;omega⟩
    have hi2:i+1=L.length:=by have:=List.drop_eq_nil_iff.1 hr;omega
    rw[zU,List.length_map,decide_eq_false (by omega)];rfl
  by_cases c:x.1.A=e
  ·rw[show(x.1.A !=e)=false by rw[bne_eq_false_iff_eq];exact c];simp only[cond_false];rw[key T (by omega),JU,if_neg (show¬x.1.A>e by omega)];split<;>simp
  ·rw[show(x.1.A !=e)=true by rw[bne_iff_ne];exact c,qN (by omega) (by omega),qD (n:=x.1.A-kerf) (by omega) (by omega)];simp only[cond_true];rw[key _ (by simp;omega),JU,if_pos (show x.1.A>e by omega)];split<;>simp
theorem qRV {r:Rect} (hr:VR r) {axis kerf:Int} (ha:axis=2\/axis=3) (hk:0<=kerf/\kerf<=20) {L:List Pt} (hL:L.length<=100000) (hg:goodL kerf (axS r axis).B (axS r axis).A L) (hb:ndC L+1<=1000000):
  RQ r axis kerf (L.map Prod.fst) (L.map Prod.snd)=some (rowR (rowN axis kerf (axS r axis) L)):=by
 have hs: -600<=(axS r axis).A/\(axS r axis).B<=600/\(axS r axis).A<(axS r axis).B:=by
  unfold VR at hr;unfold axS;split<;>omega
 have e0:RQ r axis kerf (L.map Prod.fst) (L.map Prod.snd)=KY axis kerf (L.map Prod.fst) (L.map Prod.snd) (axS r axis):=by
  unfold RQ NU NJ FO;rw[qFc hr];simp only[Option.bind_some,Bool.not_true,cond_false,List.length_map,bne_self_eq_false];rw[decide_eq_false (show¬kerf<0 by omega),decide_eq_false (show¬kerf>20 by omega)];rcases ha with rfl|rfl<;>rfl
 rw[e0];unfold KY;have k1:=qJQ (axis:=axis) hk ⟨hs.1,hs.2.1⟩ hL L 0 FUEL (axS r axis).A [] (by simp) (by omega) (by rw[FUEL_eq];omega) hs.1 (by omega) hg (by simp;omega);rw[show((0:Nat):Int)=0 from rfl] at k1;rw[k1];simp only[Option.bind_some,Sum.elim_inr,List.nil_append];have bl:=qJF axis kerf (axS r axis).B L (axS r axis).A;unfold rowN;generalize rowB axis kerf (axS r axis).B (axS r axis).A L=B at*;obtain⟨b1,b2⟩:=B;simp only at bl⊢;have fin:∀T:List Node,FC T=some (rowR T):=λT=>by
  unfold FC rowR;by_cases c:T.length<=127
  ·rw[decide_eq_false (by omega),if_pos c];rfl
  ·rw[decide_eq_true (by omega),if_neg c];rfl
 cases b2 with
 |true=>
  simp only[Bool.not_true,cond_false,if_true,List.append_nil];exact fin _
 |false=>
  simp only[Bool.not_false,cond_true,Bool.false_eq_true,if_false];rw[qN (by omega) (by omega)];exact fin _
end Saw
end Go.SL
