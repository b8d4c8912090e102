/- Plans: the heights of the qDj. -/
import Derived.Test.YtidlfgiogdjkaaaGreatDoorEMa3
import Derived.Test.YtidlfgiogdjkaaaGreatDoorEMod
import Derived.Test.YtidlfgiogdjkaaaGreatDoorEMa1
set_option linter.unusedVariables false
set_option linter.unusedSimpArgs false
namespace Go.SL.Saw
def comp :List Int->List Int
 |[]=>[]
 |[x]=>[x]
 |x::y::l=>if x=y then comp (y::l) else x::comp (y::l)
theorem qTd (x:Int):∀(p:List Int) (y:Int),comp (p++[y]++[x])=if y=x then comp (p++[y]) else comp (p++[y])++[x]
 |[],y=>by
  show comp [y,x]=_;by_cases h:y=x
  ·rw[if_pos h];simp[comp,h]
  ·rw[if_neg h];simp[comp,h]
 |[a],y=>by
  show comp [a,y,x]=if y=x then comp [a,y] else comp [a,y]++[x];by_cases h:y=x<;>by_cases h2:a=y<;>simp[comp,h,h2]
 |a::b::p,y=>by
  have ih:=qTd x (b::p) y;show comp (a::b::(p++[y]++[x]))=_;have e:∀q,comp (a::b::q)=if a=b then comp (b::q) else a::comp (b::q):=λq=>rfl;rw[e];have ih':comp (b::(p++[y]++[x]))=if y=x then comp (b::(p++[y])) else comp (b::(p++[y]))++[x]:=ih;rw[ih'];show _=if y=x then comp (a::b::(p++[y])) else comp (a::b::(p++[y]))++[x];rw[e];by_cases h:y=x
  ·rw[if_pos h,if_pos h]
  ·rw[if_neg h,if_neg h];by_cases h2:a=b
   ·rw[if_pos h2,if_pos h2]
   ·rw[if_neg h2,if_neg h2];rfl
theorem qFZ (l:List Int) {m:Nat} (h:m<l.length):l.take (m+1)=l.take m++[l.getD m du]:=by
 rw[List.take_add_one,kt h,kg,kt h];rfl
theorem qSA (l:List Int) {m:Nat} (h:m+1<l.length):comp (l.take (m+2))=if l.getD m du=l.getD (m+1) du then comp (l.take (m+1)) else comp (l.take (m+1))++[l.getD (m+1) du]:=by
 rw[qFZ l h,qFZ l (show m<l.length by omega),qTd]
theorem qOs :∀(l:List Int) (x:Int),x∈comp l↔x∈l
 |[],x=>Iff.rfl
 |[a],x=>Iff.rfl
 |a::b::l,x=>by
  have ih:=qOs (b::l) x;show x∈(if a=b then comp (b::l) else a::comp (b::l))↔_;by_cases h:a=b
  ·rw[if_pos h,ih,h];simp
  ·rw[if_neg h,kO,ih,kO (a:=x) (b:=a)]
theorem qWO :∀(l:List Int),(comp l).length<=l.length
 |[]=>ki _
 |[a]=>ki _
 |a::b::l=>by
  have ih:=qWO (b::l);show(if a=b then comp (b::l) else a::comp (b::l)).length<=_;by_cases h:a=b
  ·rw[if_pos h];simp at ih⊢;omega
  ·rw[if_neg h];simp at ih⊢;omega
theorem q1U (l:List Int) (hl:l.length<=1000000) {k:Nat} (hk:1<=k) (hkl:k<l.length):∀(d j n i:Nat) (a:List Int),j+d=l.length-k->d<n->1<=j->a.length=l.length->k<=i->i+1<=k+j->a.take i=comp (l.take (k+j))->(∀m,i<=m->a.getD m du=l.getD m du)->
  ∃a' i',wY l (k:Int) n a (i:Int) (j:Int)=some (a',((i':Nat):Int))/\a'.length=l.length/\i'<=l.length/\a'.take i'=comp l:=by
 intro d
 induction d with
 |zero=>
  intro j n i a hj hn h1 ha hi1 hi2 ht hs;obtain⟨n,rfl⟩:∃m,n=m+1:=⟨n-1,by omega⟩
  refine⟨a,i,?_,ha,by omega,?_⟩
  ·rw[wY,ko,ka (by omega)];rfl
  ·rw[ht,show k+j=l.length by omega,gj]
 |succ d ih=>
  intro j n i a hj hn h1 ha hi1 hi2 ht hs;obtain⟨n,rfl⟩:∃m,n=m+1:=⟨n-1,by omega⟩
  rw[wY,ko,kd (by omega),qU (by omega)];rw[qK (n:=(j:Int)-1) (by omega),qU (i:=(j:Int)-1) (by omega)];have hble:Nat.ble (k+(l.length-k)) a.length=true:=Nat.ble_eq_true_of_le (by omega);rw[hble];unfold XF;rw[qU (i:=(i:Int)) (by omega),qY (x:=j) (by omega),qY (x:=i) (by omega)];simp only[kn,ko];rw[show((j:Int)-1).toNat=j-1 by omega,hs (k+j) (by omega),hs (k+(j-1)) (by omega)];obtain⟨m,hm⟩:∃m,k+j=m+1:=⟨k+j-1,by omega⟩
  have hct:=qSA l (m:=m) (by omega);rw[show k+(j-1)=m by omega,hm];by_cases c:l.getD m du=l.getD (m+1) du
  ·have cb:(l.getD (m+1) du !=l.getD m du)=false:=by rw[c];simp
   rw[cb,kp];rw[if_pos c] at hct;exact ih (j+1) n i a (by omega) (by omega) (by omega) ha hi1 (by omega) (by rw[ht,hm,show k+(j+1)=m+2 by omega,hct]) hs
  ·have cb:(l.getD (m+1) du !=l.getD m du)=true:=by
    have:¬l.getD (m+1) du=l.getD m du:=λh=>c h.symm;simpa using this
   rw[cb,kn];rw[if_neg c] at hct;refine ih (j+1) n (i+1) (a.set i (l.getD (m+1) du)) (by omega) (by omega) (by omega) (by simpa using ha) (by omega) (by omega) ?_ ?_
   ·have hil:i<(a.set i (l.getD (m+1) du)).length:=by simp;omega
    rw[qFZ _ hil,OV _ (by omega),List.take_set_of_le (by omega),ht,hm,show k+(j+1)=m+2 by omega,hct]
   ·intro q hq;rw[LB _ (by omega)];exact hs q (by omega)
theorem q2r (l:List Int) (hl:l.length<=1000000):∀(d k n:Nat),k+d=l.length->d<n->1<=k->comp (l.take k)=l.take k->(∃r,yO n l (k:Int)=some r/\(r= .inl (comp l,comp l)\/(r= .inr l/\comp l=l))):=by
 intro d
 induction d with
 |zero=>
  intro k n hk hn h1 hc;obtain⟨n,rfl⟩:∃m,n=m+1:=⟨n-1,by omega⟩
  refine⟨.inr l,?_,.inr ⟨rfl,?_⟩⟩
  ·rw[yO,ka (by omega)];rfl
  ·rw[show k=l.length by omega,gj] at hc;exact hc
 |succ d ih=>
  intro k n hk hn h1 hc;obtain⟨n,rfl⟩:∃m,n=m+1:=⟨n-1,by omega⟩
  rw[yO,kd (by omega),qU (by omega),qK (n:=(k:Int)-1) (by omega),qU (by omega)];simp only[kn,ko];obtain⟨m,hm⟩:∃m,k=m+1:=⟨k-1,by omega⟩
  rw[show((k:Int)-1).toNat=m by omega];have hct:=qSA l (m:=m) (by omega);rw[<-hm,hc] at hct;by_cases c:l.getD k du=l.getD m du
  ·have cb:(l.getD k du==l.getD m du)=true:=by simpa using c
   rw[if_pos c.symm] at hct;obtain⟨a',i',e,g1,g2,g3⟩:=q1U l hl h1 (by omega) (l.length-k-1) 1 FUEL k l (by omega) (by rw[jF];omega) (by omega) rfl (ki _) (by omega) (by rw[hm];rw[show m+1+1=m+2 by omega,<-hm];exact hct.symm) (λ_ _=>rfl);have s1:slOk (k:Int) (l.length:Int) l.length=true:=by unfold slOk;simp;omega
   rw[cb,kn,s1,kn,show(1:Int)=((1:Nat):Int) from rfl,e];simp only[ke];have s2:slOk (i':Int) (a'.length:Int) a'.length=true:=by unfold slOk;simp;omega
   have s3:slOk 0 (i':Int) a'.length=true:=by unfold slOk;simp;omega
   rw[s2,s3,kn,kn,ko,g3];exact⟨_,rfl,.inl rfl⟩
  ·have cb:(l.getD k du==l.getD m du)=false:=by simpa using c
   rw[if_neg (λh=>c h.symm)] at hct;rw[cb,kp,qY (by omega)];exact ih (k+1) n (by omega) (by omega) (by omega) (by rw[show k+1=m+2 by omega,hct,show m+2=k+1 by omega,qFZ l (by omega)])
theorem qZu (l:List Int) (hl:l.length<=1000000):YK l=some (comp l,comp l):=by
 unfold YK;by_cases h:(l.length:Int)<2
 ·rw[kd h,kn]
  match l,h with
  |[],_=>rfl
  |[a],_=>rfl
  |a::b::l,h=>simp at h;omega
 ·rw[ka h,kp];have h1:comp (l.take 1)=l.take 1:=by
   match l with
   |[]=>rfl
   |a::l=>rfl
  obtain⟨r,e,hr⟩:=q2r l hl (l.length-1) 1 FUEL (by omega) (by rw[jF];omega) (by omega) h1;rw[show(1:Int)=((1:Nat):Int) from rfl,e];rcases hr with rfl|⟨rfl,hc⟩
  ·rfl
  ·simp only[ke,Sum.elim_inr,hc]
def allG (ps:List Product):List Int:=ps.flatMap (λp=>[(qZ p).1,(qZ p).2])
def hts (ps:List Product):List Int:=if wI ps=0 then comp (GO (λx y=>decide (x<=y)) (allG ps)) else[]
theorem qMT (ps:List Product):(allG ps).length=2*ps.length:=by
 unfold allG
 induction ps with
 |nil=>rfl
 |cons p ps ih=>simp only[uW,kS,ih,um,uT];omega
theorem q0X {ps:List Product} {x:Int}:x∈allG ps↔∃i,i<ps.length/\(x=(qZ (ps.getD i du)).1\/x=(qZ (ps.getD i du)).2):=by
 unfold allG;rw[List.mem_flatMap];constructor
 ·rintro⟨p,hp,hx⟩;obtain⟨i,hi,rfl⟩:=List.getElem_of_mem hp;refine⟨i,hi,?_⟩;rw[kg,kt hi];simpa using hx
 ·rintro⟨i,hi,hx⟩;exact⟨ps.getD i du,jE hi,by simpa using hx⟩
theorem qYs {ps:List Product} (h:wI ps=0) {x:Int}:x∈hts ps↔x∈allG ps:=by
 unfold hts;rw[if_pos h,qOs,(EV _ _).mem_iff]
theorem qSd (ps:List Product):(hts ps).length<=32:=by
 unfold hts;split
 ·rename_i h;have h1:=qWO (GO (λx y=>decide (x<=y)) (allG ps));rw[(EV _ _).length_eq,qMT] at h1;have:=qAJ (l:=ps) (by simpa using h);omega
 ·simp
theorem qPl :∀(l:List Product) (x:Nat) (s:List Int),foldi (λ_ p s=>s++[(qZ p).1,(qZ p).2]) x l s=s++allG l
 |[],_,s=>by simp[foldi,allG]
 |p::l,x,s=>by
  show foldi _ (x+1) l (s++[(qZ p).1,(qZ p).2])=_;rw[qPl l (x+1) _];unfold allG;simp only[uW,kX]
theorem qQL (ps:List Product):XJ ps=some (hts ps):=by
 unfold XJ hts;rw[qCb];simp only[ke];by_cases h:wI ps=0
 ·have hl:=qAJ (l:=ps) (by simpa using h);rw[h,if_pos rfl];simp only[kv,kp];have k:=ZC ps (λn (s:List Int) x=>KI ps n s x) (λx=>(x:Int)) (λ_ p s=>s++[(qZ p).1,(qZ p).2]) (λs=>s) (λx s=>s.length=2*x) (by omega)
   (λn x s hx hi=>by
    refine⟨?_,by simp[hi];omega⟩;rw[KI,kd (by omega),qU (by omega),qY (by omega)];simp only[kn,ko,(NU _).1,ke];rw[wO (by omega)];rfl)
   (λn s _=>by rw[KI];simp) (i:=0) rfl [] rfl
  rw[k.1,qPl,ur];simp only[ke];unfold ND;have hb:Nat.blt (allG ps).length 4611686018427387904=true:=by rw[kR,qMT];omega
  rw[hb];simp only[kn,ke];have hlen:(GO (λx y=>decide (x<=y)) (allG ps)).length=(allG ps).length:=(EV _ _).length_eq;rw[hlen];simp only[ut,kn];rw[qZu _ (by rw[hlen,qMT];omega)];rfl
 ·have h':(wI ps !=0)=true:=by simpa using h
  rw[h',if_neg h];rfl
end Go.SL.Saw

namespace Go.SL.Saw
def ripB (k:Int):Bool:=k==2||k==3
theorem qMV (k:Int):jH k=some (ripB k):=by
 unfold jH BS ripB;cases h:k==2<;>simp
def alP (r:Rect) (k:Int):Span:=bif k==2 then r.X else r.Y
def wiP (r:Rect) (k:Int) (s:Span):Rect:=bif k==2 then⟨s,r.Y⟩ else⟨r.X,s⟩
def enP (r:Rect) (n:Node) (kerf:Int):Int:=imin (w64 (n.At+kerf)) (alP r n.Kind).B
def fiP (r:Rect) (n:Node):Rect:=wiP r n.Kind ⟨(alP r n.Kind).A,n.At⟩
def cuP (r:Rect) (n:Node) (kerf:Int):Rect:=wiP r n.Kind ⟨n.At,enP r n kerf⟩
def seP (r:Rect) (n:Node) (kerf:Int):Rect:=wiP r n.Kind ⟨enP r n kerf,(alP r n.Kind).B⟩
theorem qV3 (r:Rect) (k:Int):JZ r k=some (alP r k):=by
 unfold JZ alP;cases k==2<;>rfl
theorem with_eq (r:Rect) (k:Int) (s:Span):SE r k s=some (wiP r k s):=by
 unfold SE qBv wiP;cases k==2<;>rfl
theorem qWj (r:Rect) (n:Node) (kerf:Int):JU r n kerf=some (fiP r n,cuP r n kerf,seP r n kerf):=by
 unfold JU;simp only[qV3,with_eq,ke];rfl
def pushP (kerf:Int) (n:Node) (x:qJ) (st:List qJ):List qJ:=
 bif ripB n.Kind then⟨fiP x.rect n,x.level+1⟩::⟨seP x.rect n kerf,x.level+1⟩::st else st
def runP {σ:Type} (f:Int->qJ->σ->Option (Nat×σ)) (kerf:Int):List Node->Int->List qJ->σ->Option (Nat×σ)
 |_,_,[],s=>some (0,s)
 |[],i,x::_,s=>f i x s
 |n::ns,i,x::st,s=>(f i x s).bind λr=>bif Nat.beq r.1 0 then runP f kerf ns (i+1) (pushP kerf n x st) r.2 else some r
def LU {σ:Type} (f:Int->qJ->σ->Option (Nat×σ)) (nodes:List Node) (kerf:Int):Nat->List qJ->Int->σ->Option ((Nat×σ)⊕σ)
 |0,_,_,_=>none
 |n+1,l,i,s=>
  bif decide ((l.length:Int)>0) then
   bif inb (w64 ((l.length:Int)-1)) l.length then
    bif slOk 0 (w64 ((l.length:Int)-1)) l.length then
     (f i (l.getD ((w64 ((l.length:Int)-1)).toNat) du) s).bind λv=>
     bif !(Nat.beq v.1 0) then
      some (Sum.inl v)
     else
      bif decide (i≥(nodes.length:Int)) then
       some (Sum.inl (0,v.2))
      else
       bif inb i nodes.length then
        (jH ((nodes.getD i.toNat du).Kind)).bind λv1=>
        bif v1 then
         (JU ((l.getD ((w64 ((l.length:Int)-1)).toNat) du).rect) (nodes.getD i.toNat du) kerf).bind λv2=>
         bif room ((w64 ((l.length:Int)-1)).toNat+2) 40 then
          LU f nodes kerf n ((l.take ((w64 ((l.length:Int)-1)).toNat))++([(qJ.mk v2.2.2 (w64 (((l.getD ((w64 ((l.length:Int)-1)).toNat) du).level)+1))),(qJ.mk v2.1 (w64 (((l.getD ((w64 ((l.length:Int)-1)).toNat) du).level)+1)))]:List qJ)) (w64 (i+1)) v.2
         else none
        else
         LU f nodes kerf n (l.take ((w64 ((l.length:Int)-1)).toNat)) (w64 (i+1)) v.2
       else none
    else none
   else none
  else
   some (Sum.inr s)
def outP {σ:Type} (u:(Nat×σ)⊕σ):Option (Nat×σ):=Sum.elim (λv=>some v) (λs=>some (0,s)) u
theorem q1j {α:Type} [Inhabited α] (x:α) (st:List α):(x::st).reverse.getD st.length du=x:=by
 simp[kg,kz]
theorem q1Z {α:Type} (x:α) (st:List α):(x::st).reverse.take st.length=st.reverse:=by
 rw[List.reverse_cons,List.take_append_of_le_length (by simp),List.take_of_length_le (by simp)]
theorem qVh {σ:Type} (f:Int->qJ->σ->Option (Nat×σ)) (nodes:List Node) (kerf:Int) (hn:nodes.length<=1000):
  ∀(fuel:Nat) (ns:List Node) (i:Nat) (st:List qJ) (s:σ),nodes.drop i=ns->i<=nodes.length->st.length<=i+1->(∀x∈st,0<=x.level/\x.level<=(i:Int)+1)->ns.length<fuel->
   (LU f nodes kerf fuel st.reverse (i:Int) s).bind outP=runP f kerf ns (i:Int) st s
 |0,_,_,_,_,_,_,_,_,hf=>by omega
 |fuel+1,ns,i,st,s,hd,hi,hl,hlv,hf=>by
  cases st with
  |nil=>
   have e:LU f nodes kerf (fuel+1) [] (i:Int) s=some (Sum.inr s):=rfl;rw[List.reverse_nil,e];cases ns<;>rfl
  |cons x st=>
   have hlen:(x::st).reverse.length=st.length+1:=by simp
   have hst:st.length<=1000:=by simp at hl;omega
   have ew:w64 (((st.length+1:Nat):Int)-1)=(st.length:Int):=by rw[qK (by omega)];omega
   have hx:=hlv x kK;have el:w64 (x.level+1)=x.level+1:=qK (by omega);have ei:w64 ((i:Int)+1)=((i+1:Nat):Int):=by rw[qK (by omega)];omega
   have c0:decide (((st.length+1:Nat):Int)>0)=true:=by simp
   have c1:inb (st.length:Int) (st.length+1)=true:=by unfold inb;simp;omega
   have c2:slOk 0 (st.length:Int) (st.length+1)=true:=by unfold slOk;simp;omega
   have c3:room (st.length+2) 40=true:=by unfold room;simp;omega
   unfold LU;rw[hlen,ew];simp only[c0,c1,c2,c3,kn,ko,q1j,q1Z,el,ei];cases ns with
   |nil=>
    have hil:nodes.length<=i:=by
     have:=congrArg List.length hd;simp at this;omega
    have c4:decide ((i:Int)≥(nodes.length:Int))=true:=by simp;omega
    simp only[c4,kn];show _=f (i:Int) x s;cases f (i:Int) x s with
    |none=>rfl
    |some v=>
     obtain⟨c,t⟩:=v;cases hb:Nat.beq c 0 with
     |false=>simp only[ke,hb,uq,kn];rfl
     |true=>
      simp only[ke,hb,ky,kp];rw[kq hb];rfl
   |cons n ns=>
    have hil:i<nodes.length:=by
     rcases Nat.lt_or_ge i nodes.length with h|h
     ·exact h
     ·rw[ug h] at hd;cases hd
    have hg:nodes.getD i du=n:=by
     have h0:=congrArg (λl=>l.getD 0 du) hd;simpa[kg] using h0
    have hd2:nodes.drop (i+1)=ns:=by
     have h0:=congrArg List.tail hd;simpa using h0
    have c4:decide ((i:Int)≥(nodes.length:Int))=false:=by simp;omega
    have c5:inb (i:Int) nodes.length=true:=by unfold inb;simp;omega
    simp only[c4,c5,kn,kp,hg,qMV,qWj,ke];show _=(f (i:Int) x s).bind _;cases f (i:Int) x s with
    |none=>rfl
    |some v=>
     simp only[ke];cases hb:Nat.beq v.1 0 with
     |false=>simp only[uq,kn,kp];rfl
     |true=>
      simp only[ky,kp,kn];simp at hf hl;have ih:=λst' h1 h2=>qVh f nodes kerf hn fuel ns (i+1) st' v.2 hd2 hil h1 h2 (by omega);have eii:((i:Int)+1)=((i+1:Nat):Int):=by omega
      rw[eii];unfold pushP;cases hr:ripB n.Kind with
      |false=>
       simp only[kp];exact ih st (by omega) λy hy=>by have:=hlv y (kM _ hy);omega
      |true=>
       simp only[kn];have e:st.reverse++[(⟨seP x.rect n kerf,x.level+1⟩:qJ),⟨fiP x.rect n,x.level+1⟩]=(⟨fiP x.rect n,x.level+1⟩::⟨seP x.rect n kerf,x.level+1⟩::st:List qJ).reverse:=by simp
       rw[e];refine ih _ (by simp;omega) λy hy=>?_;rcases kO.1 hy with rfl|hy
       ·simp only;omega
       ·rcases kO.1 hy with rfl|hy
        ·simp only;omega
        ·have:=hlv y (kM _ hy);omega
theorem q1I :1001<FUEL:=by unfold FUEL;omega
theorem qGp {σ:Type} (f:Int->qJ->σ->Option (Nat×σ)) (p:qN) (kerf:Int) (hn:p.Nodes.length<=1000) (s:σ):
  (LU f p.Nodes kerf FUEL [⟨p.Frame,1⟩] 0 s).bind outP=runP f kerf p.Nodes 0 [⟨p.Frame,1⟩] s:=
 qVh f p.Nodes kerf hn FUEL p.Nodes 0 [⟨p.Frame,1⟩] s rfl (ud _) (by simp) (λx hx=>by simp at hx;subst hx;simp) (by have:=q1I;omega)
theorem qGn {α β:Type} (c:Bool) (A B:Option α) (k:α->Option β):(bif c then A else B).bind k=bif c then A.bind k else B.bind k:=by cases c<;>rfl
theorem qYX (a1:qN) (a2:List Product) (a3 a4:Int) (a5:qN) (a6:Int) (hn:a5.Nodes.length<=1000):
  qAv a1 a2 a3 a4 a5 a6=runP (λi x (s:Int×Int)=>YH i x a1 a2 s.1 s.2) a6 a5.Nodes 0 [⟨a5.Frame,1⟩] (a3,a4):=by
 have key:∀(n:Nat) (l:List qJ) (i x y:Int),(YJ a1 a2 a5 a6 n l i x y).bind (λu=>Sum.elim (λv=>some v) (λo=>some (0,o.2,o.1)) u)=(LU (λi x (s:Int×Int)=>YH i x a1 a2 s.1 s.2) a5.Nodes a6 n l i (x,y)).bind outP:=by
  intro n
  induction n with
  |zero=>intro l i x y;rfl
  |succ n ih=>
   intro l i x y;unfold YJ LU LK;simp only[qGn,Option.bind_assoc,Option.bind_none,ke,ih,outP,Sum.elim_inl,Sum.elim_inr]
 unfold qAv;rw[<-qGp _ a5 a6 hn (a3,a4),<-key]
theorem qZn (a1:qN) (a2 a3:Int) (a4:qN) (a5:Int) (hn:a4.Nodes.length<=1000):
  LG a1 a2 a3 a4 a5=runP (λi x (s:Int×Int)=>ZJ i x a1 s.1 s.2) a5 a4.Nodes 0 [⟨a4.Frame,1⟩] (a2,a3):=by
 have key:∀(n:Nat) (l:List qJ) (i x y:Int),(ZM a1 a4 a5 n l i x y).bind (λu=>Sum.elim (λv=>some v) (λo=>some (0,o.2,o.1)) u)=(LU (λi x (s:Int×Int)=>ZJ i x a1 s.1 s.2) a4.Nodes a5 n l i (x,y)).bind outP:=by
  intro n
  induction n with
  |zero=>intro l i x y;rfl
  |succ n ih=>
   intro l i x y;unfold ZM LU GC;simp only[qGn,Option.bind_assoc,Option.bind_none,ke,ih,outP,Sum.elim_inl,Sum.elim_inr]
 unfold LG;rw[<-qGp _ a4 a5 hn (a2,a3),<-key]
theorem qZg (a1 a2:qN) (a3:Int) (a4:List Leaf) (hn:a2.Nodes.length<=1000):
  LL a1 a2 a3 a4=runP (λi x (s:List Leaf)=>WV i x a1 s) a3 a2.Nodes 0 [⟨a2.Frame,1⟩] a4:=by
 have key:∀(n:Nat) (l:List qJ) (i:Int) (x:List Leaf),(ZG a1 a2 a3 n l i x).bind (λu=>Sum.elim (λv=>some v) (λo=>some (0,o)) u)=(LU (λi x (s:List Leaf)=>WV i x a1 s) a2.Nodes a3 n l i x).bind outP:=by
  intro n
  induction n with
  |zero=>intro l i x;rfl
  |succ n ih=>
   intro l i x;unfold ZG LU GG;simp only[qGn,Option.bind_assoc,Option.bind_none,ke,ih,outP,Sum.elim_inl,Sum.elim_inr]
 unfold LL;rw[<-qGp _ a2 a3 hn a4,<-key]
theorem qZy (a1:qN) (a2:Int) (a3:qN) (a4:Int) (a5:List Rect) (hn:a3.Nodes.length<=1000):
  LO a1 a2 a3 a4 a5=runP (λi x (s:List Rect)=>XP i x a1 a2 s) a4 a3.Nodes 0 [⟨a3.Frame,1⟩] a5:=by
 have key:∀(n:Nat) (l:List qJ) (i:Int) (x:List Rect),(ZK a1 a2 a3 a4 n l i x).bind (λu=>Sum.elim (λv=>some v) (λo=>some (0,o)) u)=(LU (λi x (s:List Rect)=>XP i x a1 a2 s) a3.Nodes a4 n l i x).bind outP:=by
  intro n
  induction n with
  |zero=>intro l i x;rfl
  |succ n ih=>
   intro l i x;unfold ZK LU VV;simp only[qGn,Option.bind_assoc,Option.bind_none,ke,ih,outP,Sum.elim_inl,Sum.elim_inr]
 unfold LO;rw[<-qGp _ a3 a4 hn a5,<-key]
end Go.SL.Saw

namespace Go.SL.Saw
def chkN (bd:Rect->Int->Int) (n:Node) (x:qJ):Int:=
 if n.Kind<0\/3<n.Kind\/(n.Kind=0/\n.At≠0) then 10
 else if 64<x.level then 28
 else if ripB n.Kind=true/\(n.At<=(alP x.rect n.Kind).A\/(alP x.rect n.Kind).B<=n.At) then 20
 else if n.Kind=1 then bd x.rect n.At else 0
def chkP (bd:Rect->Int->Int) (kerf:Int):List Node->List qJ->Int
 |[],[]=>0
 |_::_,[]=>4
 |[],_::_=>3
 |n::ns,x::st=>if chkN bd n x≠0 then chkN bd n x else chkP bd kerf ns (pushP kerf n x st)
inductive T where
 |leaf (n:Node):T
 |rip (n:Node) (a b:T):T
def wX :T->List Node
 | .leaf n=>[n]
 | .rip n a b=>n::(wX a++wX b)
def qHT :T->Prop
 | .leaf n=>ripB n.Kind=false
 | .rip n a b=>ripB n.Kind=true/\qHT a/\qHT b
def okT (bd:Rect->Int->Int) (kerf:Int):T->qJ->Prop
 | .leaf n,x=>ripB n.Kind=false/\chkN bd n x=0
 | .rip n a b,x=>ripB n.Kind=true/\chkN bd n x=0/\okT bd kerf a ⟨fiP x.rect n,x.level+1⟩/\okT bd kerf b ⟨seP x.rect n kerf,x.level+1⟩
theorem qF4 {bd:Rect->Int->Int} {kerf:Int}:∀{t:T} {x:qJ},okT bd kerf t x->qHT t
 | .leaf _,_,h=>h.1
 | .rip _ _ _,_,h=>⟨h.1,qF4 h.2.2.1,qF4 h.2.2.2⟩
def allP {α:Type} (g:Node->qJ->List α) (kerf:Int):List Node->List qJ->List α
 |n::ns,x::st=>g n x++allP g kerf ns (pushP kerf n x st)
 |_,_=>[]
def allT {α:Type} (g:Node->qJ->List α) (kerf:Int):T->qJ->List α
 | .leaf n,x=>g n x
 | .rip n a b,x=>g n x++(allT g kerf a ⟨fiP x.rect n,x.level+1⟩++allT g kerf b ⟨seP x.rect n kerf,x.level+1⟩)
def okTs (bd:Rect->Int->Int) (kerf:Int):List T->List qJ->Prop
 |[],[]=>True
 |t::ts,x::st=>okT bd kerf t x/\okTs bd kerf ts st
 |_,_=>False
def qLd :List T->List Node
 |[]=>[]
 |t::ts=>wX t++qLd ts
theorem qTa {bd:Rect->Int->Int} {kerf:Int}:∀(ns:List Node) (st:List qJ),chkP bd kerf ns st=0->∃ts,ns=qLd ts/\okTs bd kerf ts st
 |[],[],_=>⟨[],rfl,trivial⟩
 |_::_,[],h=>by simp[chkP] at h
 |[],_::_,h=>by simp[chkP] at h
 |n::ns,x::st,h=>by
  unfold chkP at h;by_cases c:chkN bd n x=0
  ·rw[if_neg (by simpa using c)] at h;obtain⟨ts,e1,e2⟩:=qTa ns _ h;unfold pushP at e2;cases hr:ripB n.Kind with
   |false=>
    rw[hr,kp] at e2;exact⟨.leaf n::ts,by rw[e1];rfl,⟨hr,c⟩,e2⟩
   |true=>
    rw[hr,kn] at e2
    match ts,e1,e2 with
    |a::b::ts,e1,e2=>
     refine⟨.rip n a b::ts,?_,⟨hr,c,e2.1,e2.2.1⟩,e2.2.2⟩;rw[e1];simp[qLd,wX]
    |[a],_,e2=>exact e2.2.elim
    |[],_,e2=>exact e2.elim
  ·rw[if_pos c] at h;exact(c h).elim
theorem qWC {bd:Rect->Int->Int} {kerf:Int} {ns:List Node} {x:qJ} (h:chkP bd kerf ns [x]=0):∃t,ns=wX t/\okT bd kerf t x:=by
 obtain⟨ts,e1,e2⟩:=qTa ns [x] h
 match ts,e1,e2 with
 |[t],e1,e2=>exact⟨t,by rw[e1];simp[qLd],e2.1⟩
 |_::_::_,_,e2=>exact e2.2.elim
 |[],_,e2=>exact e2.elim
theorem qNq {bd:Rect->Int->Int} {kerf:Int}:∀(t:T) (x:qJ) (ns:List Node) (st:List qJ),okT bd kerf t x->chkP bd kerf (wX t++ns) (x::st)=chkP bd kerf ns st
 | .leaf n,x,ns,st,h=>by
  show(if chkN bd n x≠0 then _ else _)=_;rw[if_neg (by simp[h.2])];unfold pushP;rw[h.1,kp];rfl
 | .rip n a b,x,ns,st,h=>by
  show(if chkN bd n x≠0 then _ else chkP bd kerf ((wX a++wX b)++ns) (pushP kerf n x st))=_;rw[if_neg (by simp[h.2.1])];unfold pushP;rw[h.1,kn,kX];rw[qNq a _ _ _ h.2.2.1,qNq b _ _ _ h.2.2.2]
theorem qXZ {bd:Rect->Int->Int} {kerf:Int} {t:T} {x:qJ} (h:okT bd kerf t x):chkP bd kerf (wX t) [x]=0:=by
 have:=qNq t x [] [] h;rw[uw] at this;exact this
theorem qNB {α:Type} (g:Node->qJ->List α) (kerf:Int):∀(t:T) (x:qJ) (ns:List Node) (st:List qJ),qHT t->allP g kerf (wX t++ns) (x::st)=allT g kerf t x++allP g kerf ns st
 | .leaf n,x,ns,st,h=>by
  show g n x++allP g kerf ([]++ns) (pushP kerf n x st)=_;unfold pushP;rw[show ripB n.Kind=false from h,kp];rfl
 | .rip n a b,x,ns,st,h=>by
  show g n x++allP g kerf ((wX a++wX b)++ns) (pushP kerf n x st)=_;unfold pushP;rw[h.1,kn,kX,qNB g kerf a _ _ _ h.2.1,qNB g kerf b _ _ _ h.2.2];simp[allT]
theorem qIz {α:Type} (g:Node->qJ->List α) (kerf:Int) {t:T} (x:qJ) (h:qHT t):allP g kerf (wX t) [x]=allT g kerf t x:=by
 have:=qNB g kerf t x [] [] h;rw[uw] at this;rw[this];simp[allP]
def CT (n:Node) (x:qJ):List Leaf:=if n.Kind=0 then[⟨x.rect,-1⟩] else if n.Kind=1 then[⟨x.rect,n.At⟩] else[]
def cutG (kerf:Int) (n:Node) (x:qJ):List Rect:=if ripB n.Kind=true then[cuP x.rect n kerf] else[]
theorem qTm {bd bd':Rect->Int->Int} {n:Node} {x:qJ} (h:chkN bd n x=0) (hb:∀r,n.Kind=1->bd r n.At=0->bd' r n.At=0):chkN bd' n x=0:=by
 unfold chkN at h⊢;split at h
 ·cases h
 ·rename_i c1;rw[if_neg c1];split at h
  ·cases h
  ·rename_i c2;rw[if_neg c2];split at h
   ·cases h
   ·rename_i c3;rw[if_neg c3];split at h
    ·rename_i c4;rw[if_pos c4];exact hb _ c4 h
    ·rename_i c4;rw[if_neg c4]
theorem qNE {bd bd':Rect->Int->Int} {kerf:Int} (hb:∀r at_,bd r at_=0->bd' r at_=0):∀{t:T} {x:qJ},okT bd kerf t x->okT bd' kerf t x
 | .leaf _,_,h=>⟨h.1,qTm h.2 λr _=>hb r _⟩
 | .rip _ _ _,_,h=>⟨h.1,qTm h.2.1 λr _=>hb r _,qNE hb h.2.2.1,qNE hb h.2.2.2⟩
theorem qOE :∀(t:T),1<=(wX t).length
 | .leaf _=>ki _
 | .rip _ a b=>by simp[wX]
end Go.SL.Saw

namespace Go.SL.Saw
def WS (s:Span):Prop:= -600<=s.A/\s.A<=s.B/\s.B<=600
def WR (r:Rect):Prop:=WS r.X/\WS r.Y
def subS (a b:Span):Prop:=b.A<=a.A/\a.B<=b.B
def subR (a b:Rect):Prop:=subS a.X b.X/\subS a.Y b.Y
theorem qSS (a:Rect):subR a a:=⟨⟨kT _,kT _⟩,kT _,kT _⟩
theorem qO8 {a b c:Span} (h:subS a b) (k:subS b c):subS a c:=⟨ge k.1 h.1,ge h.2 k.2⟩
theorem qEE {a b c:Rect} (h:subR a b) (k:subR b c):subR a c:=⟨qO8 h.1 k.1,qO8 h.2 k.2⟩
def qK3 (a b:Rect):Prop:=a.X.B<=b.X.A\/b.X.B<=a.X.A\/a.Y.B<=b.Y.A\/b.Y.B<=a.Y.A
theorem q0H {a b c d:Rect} (h:qK3 c d) (h1:subR a c) (h2:subR b d):qK3 a b:=by
 obtain⟨⟨a1,a2⟩,a3,a4⟩:=h1;obtain⟨⟨b1,b2⟩,b3,b4⟩:=h2;unfold qK3 at*;omega
theorem ripB_iff {k:Int}:ripB k=true↔k=2\/k=3:=by unfold ripB;simp
theorem qYy {bd:Rect->Int->Int} {n:Node} {x:qJ} (hr:ripB n.Kind=true) (h:chkN bd n x=0):(alP x.rect n.Kind).A<n.At/\n.At<(alP x.rect n.Kind).B:=by
 unfold chkN at h;split at h
 ·cases h
 ·split at h
  ·cases h
  ·split at h
   ·cases h
   ·rename_i c;simp[hr] at c;omega
theorem chkN_kind {bd:Rect->Int->Int} {n:Node} {x:qJ} (hr:ripB n.Kind=false) (h:chkN bd n x=0):(n.Kind=0/\n.At=0)\/(n.Kind=1/\bd x.rect n.At=0):=by
 have:¬(n.Kind=2\/n.Kind=3):=by rw[<-ripB_iff,hr];simp
 unfold chkN at h;split at h
 ·cases h
 ·rename_i c;split at h
  ·cases h
  ·split at h
   ·cases h
   ·split at h
    ·rename_i c4;exact .inr ⟨c4,h⟩
    ·left;omega
structure Cut3 (r f c s:Rect):Prop where
 wf:WR f
 wc:WR c
 ws:WR s
 sf:subR f r
 sc:subR c r
 ss:subR s r
 fs:qK3 f s
structure AddR (μ:Rect->Int):Prop where
 x:∀{A m B:Int} (y:Span),A<=m->m<=B->μ ⟨⟨A,m⟩,y⟩+μ ⟨⟨m,B⟩,y⟩=μ ⟨⟨A,B⟩,y⟩
 y:∀{A m B:Int} (x:Span),A<=m->m<=B->μ ⟨x,⟨A,m⟩⟩+μ ⟨x,⟨m,B⟩⟩=μ ⟨x,⟨A,B⟩⟩
theorem cut3 {r:Rect} {n:Node} {kerf:Int} (hr:ripB n.Kind=true) (hw:WR r) (hi:(alP r n.Kind).A<n.At/\n.At<(alP r n.Kind).B) (hk:0<=kerf/\kerf<=20):
  Cut3 r (fiP r n) (cuP r n kerf) (seP r n kerf)/\∀μ,AddR μ->μ (fiP r n)+μ (cuP r n kerf)+μ (seP r n kerf)=μ r:=by
 obtain⟨⟨x1,x2,x3⟩,y1,y2,y3⟩:=hw;rcases ripB_iff.1 hr with e|e
 ·have ea:alP r n.Kind=r.X:=by unfold alP;rw[e];rfl
  have ew:∀s,wiP r n.Kind s=⟨s,r.Y⟩:=λs=>by unfold wiP;rw[e];rfl
  rw[ea] at hi;have ee:enP r n kerf=imin (n.At+kerf) r.X.B:=by unfold enP;rw[ea,qK (by omega)]
  unfold fiP cuP seP;simp only[ew,ea,ee];have hm:n.At<=imin (n.At+kerf) r.X.B/\imin (n.At+kerf) r.X.B<=r.X.B:=by
   rcases imin_or (n.At+kerf) r.X.B with h|h<;>omega
  refine⟨⟨⟨⟨?_,?_,?_⟩,y1,y2,y3⟩,⟨⟨?_,?_,?_⟩,y1,y2,y3⟩,⟨⟨?_,?_,?_⟩,y1,y2,y3⟩,⟨⟨?_,?_⟩,kT _,kT _⟩,⟨⟨?_,?_⟩,kT _,kT _⟩,⟨⟨?_,?_⟩,kT _,kT _⟩,.inl ?_⟩,λμ h=>?_⟩<;>(try (simp only;omega))
  rw[h.x r.Y (by omega) hm.1,h.x r.Y (by omega) hm.2]
 ·have ea:alP r n.Kind=r.Y:=by unfold alP;rw[e];rfl
  have ew:∀s,wiP r n.Kind s=⟨r.X,s⟩:=λs=>by unfold wiP;rw[e];rfl
  rw[ea] at hi;have ee:enP r n kerf=imin (n.At+kerf) r.Y.B:=by unfold enP;rw[ea,qK (by omega)]
  unfold fiP cuP seP;simp only[ew,ea,ee];have hm:n.At<=imin (n.At+kerf) r.Y.B/\imin (n.At+kerf) r.Y.B<=r.Y.B:=by
   rcases imin_or (n.At+kerf) r.Y.B with h|h<;>omega
  refine⟨⟨⟨⟨x1,x2,x3⟩,?_,?_,?_⟩,⟨⟨x1,x2,x3⟩,?_,?_,?_⟩,⟨⟨x1,x2,x3⟩,?_,?_,?_⟩,⟨⟨kT _,kT _⟩,?_,?_⟩,⟨⟨kT _,kT _⟩,?_,?_⟩,⟨⟨kT _,kT _⟩,?_,?_⟩,.inr (.inr (.inl ?_))⟩,λμ h=>?_⟩<;>(try (simp only;omega))
  rw[h.y r.X (by omega) hm.1,h.y r.X (by omega) hm.2]
def lvT (kerf:Int) (t:T) (x:qJ):List Leaf:=allT CT kerf t x
def ctT (kerf:Int) (t:T) (x:qJ):List Rect:=allT (cutG kerf) kerf t x
theorem lv_leaf {bd:Rect->Int->Int} {kerf:Int} {n:Node} {x:qJ} (h:okT bd kerf (.leaf n) x):(lvT kerf (.leaf n) x=[⟨x.rect,-1⟩]\/(lvT kerf (.leaf n) x=[⟨x.rect,n.At⟩]/\bd x.rect n.At=0))/\ctT kerf (.leaf n) x=[]:=by
 refine⟨?_,?_⟩
 ·rcases chkN_kind h.1 h.2 with⟨e,_⟩|⟨e,eb⟩
  ·left;simp[lvT,allT,CT,e]
  ·right;exact⟨by simp[lvT,allT,CT,e],eb⟩
 ·simp[ctT,allT,cutG,h.1]
theorem qQB {kerf:Int} {n:Node} {a b:T} {x:qJ} (hr:ripB n.Kind=true):lvT kerf (.rip n a b) x=lvT kerf a ⟨fiP x.rect n,x.level+1⟩++lvT kerf b ⟨seP x.rect n kerf,x.level+1⟩/\ctT kerf (.rip n a b) x=cuP x.rect n kerf::(ctT kerf a ⟨fiP x.rect n,x.level+1⟩++ctT kerf b ⟨seP x.rect n kerf,x.level+1⟩):=by
 refine⟨?_,?_⟩
 ·have e0:¬n.Kind=0:=by rcases ripB_iff.1 hr with e|e<;>omega
  have e1:¬n.Kind=1:=by rcases ripB_iff.1 hr with e|e<;>omega
  simp[lvT,allT,CT,e0,e1]
 ·simp[ctT,allT,cutG,hr]
def sumL {α:Type} (f:α->Int) (l:List α):Int:=(l.map f).sum
theorem qWJ {α:Type} (f:α->Int):sumL f []=0:=rfl
theorem ZB {α:Type} (f:α->Int) (x:α) (l:List α):sumL f (x::l)=f x+sumL f l:=by simp[sumL]
theorem SG {α:Type} (f:α->Int) (l t:List α):sumL f (l++t)=sumL f l+sumL f t:=by simp[sumL]
theorem qVm {α:Type} (c:Int) (f:α->Int):∀(l:List α),sumL (λx=>c*f x) l=c*sumL f l
 |[]=>by simp[sumL]
 |x::l=>by rw[ZB,ZB,qVm c f l,uz]
theorem qWx {α:Type} (f g:α->Int):∀(l:List α),sumL (λx=>f x+g x) l=sumL f l+sumL g l
 |[]=>by simp[sumL]
 |x::l=>by simp only[ZB,qWx f g l];omega
structure Parts (bd:Rect->Int->Int) (r:Rect) (lv:List Leaf) (ct:List Rect) (n:Nat):Prop where
 wl:∀l∈lv,WR l.Rect/\subR l.Rect r/\(l.Product= -1\/bd l.Rect l.Product=0)
 wc:∀c∈ct,WR c/\subR c r
 ap:lv.Pairwise λa b=>qK3 a.Rect b.Rect
 ll:lv.length<=n
 lc:ct.length<=n
 sum:∀μ,AddR μ->sumL (λl=>μ l.Rect) lv+sumL μ ct=μ r
theorem qSt {bd:Rect->Int->Int} {kerf:Int} (hk:0<=kerf/\kerf<=20):∀(t:T) (x:qJ),okT bd kerf t x->WR x.rect->Parts bd x.rect (lvT kerf t x) (ctT kerf t x) (wX t).length
 | .leaf n,x,h,hw=>by
  obtain⟨e1,e2⟩:=lv_leaf h;rcases e1 with e1|⟨e1,eb⟩
  ·rw[e1,e2];refine⟨λl hl=>?_,λc hc=>(uQ hc).elim,by simp,by simp[wX],by simp,λμ _=>by simp[sumL]⟩;simp at hl;subst hl;exact⟨hw,qSS _,.inl rfl⟩
  ·rw[e1,e2];refine⟨λl hl=>?_,λc hc=>(uQ hc).elim,by simp,by simp[wX],by simp,λμ _=>by simp[sumL]⟩;simp at hl;subst hl;exact⟨hw,qSS _,.inr eb⟩
 | .rip n a b,x,h,hw=>by
  obtain⟨hr,hc,ha,hb⟩:=h;obtain⟨c3,cs⟩:=cut3 hr hw (qYy hr hc) hk;have pa:=qSt hk a _ ha c3.wf;have pb:=qSt hk b _ hb c3.ws;rw[(qQB hr).1,(qQB hr).2];refine⟨λl hl=>?_,λc hc=>?_,?_,?_,?_,λμ hμ=>?_⟩
  ·rcases List.mem_append.1 hl with hl|hl
   ·exact⟨(pa.wl l hl).1,qEE (pa.wl l hl).2.1 c3.sf,(pa.wl l hl).2.2⟩
   ·exact⟨(pb.wl l hl).1,qEE (pb.wl l hl).2.1 c3.ss,(pb.wl l hl).2.2⟩
  ·rcases kO.1 hc with rfl|hc
   ·exact⟨c3.wc,c3.sc⟩
   rcases List.mem_append.1 hc with hc|hc
   ·exact⟨(pa.wc c hc).1,qEE (pa.wc c hc).2 c3.sf⟩
   ·exact⟨(pb.wc c hc).1,qEE (pb.wc c hc).2 c3.ss⟩
  ·exact List.pairwise_append.2 ⟨pa.ap,pb.ap,λl hl k hk=>q0H c3.fs (pa.wl l hl).2.1 (pb.wl k hk).2.1⟩
  ·have:=pa.ll;have:=pb.ll;simp[wX];omega
  ·have:=pa.lc;have:=pb.lc;simp[wX];omega
  ·rw[SG,ZB,SG];have:=pa.sum μ hμ;have:=pb.sum μ hμ;have:=cs μ hμ;simp only at*;omega
end Go.SL.Saw
