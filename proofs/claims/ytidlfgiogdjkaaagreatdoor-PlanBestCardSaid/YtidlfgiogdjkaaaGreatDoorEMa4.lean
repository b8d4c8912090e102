import Derived.Test.YtidlfgiogdjkaaaGreatDoorEMa3
import Derived.Test.YtidlfgiogdjkaaaGreatDoorEMod
import Derived.Test.YtidlfgiogdjkaaaGreatDoorEMa1
set_option linter.unusedVariables false
set_option linter.unusedSimpArgs false
namespace Go.SL.Saw
def comp :List Int->List Int
 |[]=>[]
 |[x]=>[x]
 |x::y::l=>if x=y then comp (y::l) else x::comp (y::l)
theorem qMN (x:Int):∀(p:List Int) (y:Int),comp (p++[y]++[x])=if y=x then comp (p++[y]) else comp (p++[y])++[x]
 |[],y=>by
  show comp [y,x]=_;by_cases h:y=x
  ·rw[if_pos h];simp[comp,h]
  ·rw[if_neg h];simp[comp,h]
 |[a],y=>by
  show comp [a,y,x]=if y=x then comp [a,y] else comp [a,y]++[x];by_cases h:y=x<;>by_cases h2:a=y<;>simp[comp,h,h2]
 |a::b::p,y=>by
  have ih:=qMN x (b::p) y;show comp (a::b::(p++[y]++[x]))=_;have e:∀q,comp (a::b::q)=if a=b then comp (b::q) else a::comp (b::q):=λq=>rfl;rw[e];have ih':comp (b::(p++[y]++[x]))=if y=x then comp (b::(p++[y])) else comp (b::(p++[y]))++[x]:=ih;rw[ih'];show _=if y=x then comp (a::b::(p++[y])) else comp (a::b::(p++[y]))++[x];rw[e];by_cases h:y=x
  ·rw[if_pos h,if_pos h]
  ·rw[if_neg h,if_neg h];by_cases h2:a=b
   ·rw[if_pos h2,if_pos h2]
   ·rw[if_neg h2,if_neg h2];rfl
theorem qCK (l:List Int) {m:Nat} (h:m<l.length):l.take (m+1)=l.take m++[l.getD m default]:=by
 rw[List.take_add_one,List.getElem?_eq_getElem h,List.getD_eq_getElem?_getD,List.getElem?_eq_getElem h];rfl
theorem qMy (l:List Int) {m:Nat} (h:m+1<l.length):comp (l.take (m+2))=if l.getD m default=l.getD (m+1) default then comp (l.take (m+1)) else comp (l.take (m+1))++[l.getD (m+1) default]:=by
 rw[qCK l h,qCK l (show m<l.length by omega),qMN]
theorem qOz :∀(l:List Int) (x:Int),x∈comp l↔x∈l
 |[],x=>Iff.rfl
 |[a],x=>Iff.rfl
 |a::b::l,x=>by
  have ih:=qOz (b::l) x;show x∈(if a=b then comp (b::l) else a::comp (b::l))↔_;by_cases h:a=b
  ·rw[if_pos h,ih,h];simp
  ·rw[if_neg h,List.mem_cons,ih,List.mem_cons (a:=x) (b:=a)]
theorem qOK :∀(l:List Int),(comp l).length<=l.length
 |[]=>Nat.le_refl _
 |[a]=>Nat.le_refl _
 |a::b::l=>by
  have ih:=qOK (b::l);show(if a=b then comp (b::l) else a::comp (b::l)).length<=_;by_cases h:a=b
  ·rw[if_pos h];simp at ih⊢;omega
  ·rw[if_neg h];simp at ih⊢;omega
theorem qT3 (l:List Int) (hl:l.length<=1000000) {k:Nat} (hk:1<=k) (hkl:k<l.length):∀(d j n i:Nat) (a:List Int),j+d=l.length-k->d<n->1<=j->a.length=l.length->k<=i->i+1<=k+j->a.take i=comp (l.take (k+j))->(∀m,i<=m->a.getD m default=l.getD m default)->
  ∃a' i',wA l (k:Int) n a (i:Int) (j:Int)=some (a',((i':Nat):Int))/\a'.length=l.length/\i'<=l.length/\a'.take i'=comp l:=by
 intro d
 induction d with
 |zero=>
  intro j n i a hj hn h1 ha hi1 hi2 ht hs;obtain⟨n,rfl⟩:∃m,n=m+1:=⟨n-1,by omega⟩
  refine⟨a,i,?_,ha,by omega,?_⟩
  ·rw[wA,Int.toNat_natCast,decide_eq_false (by omega)];rfl
  ·rw[ht,show k+j=l.length by omega,List.take_length]
 |succ d ih=>
  intro j n i a hj hn h1 ha hi1 hi2 ht hs;obtain⟨n,rfl⟩:∃m,n=m+1:=⟨n-1,by omega⟩
  rw[wA,Int.toNat_natCast,decide_eq_true (by omega),qL (by omega) (by omega)];rw[qF (n:=(j:Int)-1) (by omega) (by omega),qL (i:=(j:Int)-1) (by omega) (by omega)];have hble:Nat.ble (k+(l.length-k)) a.length=true:=Nat.ble_eq_true_of_le (by omega);rw[hble];unfold JT;rw[qL (i:=(i:Int)) (by omega) (by omega),qP (x:=j) (by omega),qP (x:=i) (by omega)];simp only[cond_true,Int.toNat_natCast];rw[show((j:Int)-1).toNat=j-1 by omega,hs (k+j) (by omega),hs (k+(j-1)) (by omega)];obtain⟨m,hm⟩:∃m,k+j=m+1:=⟨k+j-1,by omega⟩
  have hct:=qMy l (m:=m) (by omega);rw[show k+(j-1)=m by omega,hm];by_cases c:l.getD m default=l.getD (m+1) default
  ·have cb:(l.getD (m+1) default !=l.getD m default)=false:=by rw[c];simp
   rw[cb,cond_false];rw[if_pos c] at hct;exact ih (j+1) n i a (by omega) (by omega) (by omega) ha hi1 (by omega) (by rw[ht,hm,show k+(j+1)=m+2 by omega,hct]) hs
  ·have cb:(l.getD (m+1) default !=l.getD m default)=true:=by
    have:¬l.getD (m+1) default=l.getD m default:=λh=>c h.symm;simpa using this
   rw[cb,cond_true];rw[if_neg c] at hct;refine ih (j+1) n (i+1) (a.set i (l.getD (m+1) default)) (by omega) (by omega) (by omega) (by simpa using ha) (by omega) (by omega) ?_ ?_
   ·have hil:i<(a.set i (l.getD (m+1) default)).length:=by simp;omega
    rw[qCK _ hil,CO _ (by omega),List.take_set_of_le (by omega),ht,hm,show k+(j+1)=m+2 by omega,hct]
   ·intro q hq;rw[HO _ (by omega)];exact hs q (by omega)
theorem qTO (l:List Int) (hl:l.length<=1000000):∀(d k n:Nat),k+d=l.length->d<n->1<=k->comp (l.take k)=l.take k->(∃r,jO n l (k:Int)=some r/\(r= .inl (comp l,comp l)\/(r= .inr l/\comp l=l))):=by
 intro d
 induction d with
 |zero=>
  intro k n hk hn h1 hc;obtain⟨n,rfl⟩:∃m,n=m+1:=⟨n-1,by omega⟩
  refine⟨.inr l,?_,.inr ⟨rfl,?_⟩⟩
  ·rw[jO,decide_eq_false (by omega)];rfl
  ·rw[show k=l.length by omega,List.take_length] at hc;exact hc
 |succ d ih=>
  intro k n hk hn h1 hc;obtain⟨n,rfl⟩:∃m,n=m+1:=⟨n-1,by omega⟩
  rw[jO,decide_eq_true (by omega),qL (by omega) (by omega),qF (n:=(k:Int)-1) (by omega) (by omega),qL (by omega) (by omega)];simp only[cond_true,Int.toNat_natCast];obtain⟨m,hm⟩:∃m,k=m+1:=⟨k-1,by omega⟩
  rw[show((k:Int)-1).toNat=m by omega];have hct:=qMy l (m:=m) (by omega);rw[<-hm,hc] at hct;by_cases c:l.getD k default=l.getD m default
  ·have cb:(l.getD k default==l.getD m default)=true:=by simpa using c
   rw[if_pos c.symm] at hct;obtain⟨a',i',e,g1,g2,g3⟩:=qT3 l hl h1 (by omega) (l.length-k-1) 1 FUEL k l (by omega) (by rw[FUEL_eq];omega) (by omega) rfl (Nat.le_refl _) (by omega) (by rw[hm];rw[show m+1+1=m+2 by omega,<-hm];exact hct.symm) (λ_ _=>rfl);have s1:slOk (k:Int) ((l.length:Nat):Int) l.length=true:=by unfold slOk;simp;omega
   rw[cb,cond_true,s1,cond_true,show(1:Int)=((1:Nat):Int) from rfl,e];simp only[Option.bind_some];have s2:slOk ((i':Nat):Int) ((a'.length:Nat):Int) a'.length=true:=by unfold slOk;simp;omega
   have s3:slOk 0 ((i':Nat):Int) a'.length=true:=by unfold slOk;simp;omega
   rw[s2,s3,cond_true,cond_true,Int.toNat_natCast,g3];exact⟨_,rfl,.inl rfl⟩
  ·have cb:(l.getD k default==l.getD m default)=false:=by simpa using c
   rw[if_neg (λh=>c h.symm)] at hct;rw[cb,cond_false,qP (by omega)];exact ih (k+1) n (by omega) (by omega) (by omega) (by rw[show k+1=m+2 by omega,hct,show m+2=k+1 by omega,qCK l (by omega)])
theorem qR9 (l:List Int) (hl:l.length<=1000000):WU l=some (comp l,comp l):=by
 unfold WU;by_cases h:((l.length:Nat):Int)<2
 ·rw[decide_eq_true h,cond_true]
  match l,h with
  |[],_=>rfl
  |[a],_=>rfl
  |a::b::l,h=>simp at h;omega
 ·rw[decide_eq_false h,cond_false];have h1:comp (l.take 1)=l.take 1:=by
   match l with
   |[]=>rfl
   |a::l=>rfl
  obtain⟨r,e,hr⟩:=qTO l hl (l.length-1) 1 FUEL (by omega) (by rw[FUEL_eq];omega) (by omega) h1;rw[show(1:Int)=((1:Nat):Int) from rfl,e];rcases hr with rfl|⟨rfl,hc⟩
  ·rfl
  ·simp only[Option.bind_some,Sum.elim_inr,hc]
def allG (ps:List Product):List Int:=ps.flatMap (λp=>[(qN p).1,(qN p).2])
def hts (ps:List Product):List Int:=if zO ps=0 then comp (TU (λx y=>decide (x<=y)) (allG ps)) else[]
theorem qIm (ps:List Product):(allG ps).length=2*ps.length:=by
 unfold allG
 induction ps with
 |nil=>rfl
 |cons p ps ih=>simp only[List.flatMap_cons,List.length_append,ih,List.length_cons,List.length_nil];omega
theorem qUk {ps:List Product} {x:Int}:x∈allG ps↔∃i,i<ps.length/\(x=(qN (ps.getD i default)).1\/x=(qN (ps.getD i default)).2):=by
 unfold allG;rw[List.mem_flatMap];constructor
 ·rintro⟨p,hp,hx⟩;obtain⟨i,hi,rfl⟩:=List.getElem_of_mem hp;refine⟨i,hi,?_⟩;rw[List.getD_eq_getElem?_getD,List.getElem?_eq_getElem hi];simpa using hx
 ·rintro⟨i,hi,hx⟩;exact⟨ps.getD i default,jS hi,by simpa using hx⟩
theorem hts_mem {ps:List Product} (h:zO ps=0) {x:Int}:x∈hts ps↔x∈allG ps:=by
 unfold hts;rw[if_pos h,qOz,(LQ _ _).mem_iff]
theorem qLq (ps:List Product):(hts ps).length<=32:=by
 unfold hts;split
 ·rename_i h;have h1:=qOK (TU (λx y=>decide (x<=y)) (allG ps));rw[(LQ _ _).length_eq,qIm] at h1;have:=EG (l:=ps) (by simpa using h);omega
 ·simp
theorem qKD :∀(l:List Product) (x:Nat) (s:List Int),foldi (λ_ p s=>s++[(qN p).1,(qN p).2]) x l s=s++allG l
 |[],_,s=>by simp[foldi,allG]
 |p::l,x,s=>by
  show foldi _ (x+1) l (s++[(qN p).1,(qN p).2])=_;rw[qKD l (x+1) _];unfold allG;simp only[List.flatMap_cons,List.append_assoc]
theorem qER (ps:List Product):YH ps=some (hts ps):=by
 unfold YH hts;rw[SE];simp only[Option.bind_some];by_cases h:zO ps=0
 ·have hl:=EG (l:=ps) (by simpa using h);rw[h,if_pos rfl];simp only[bne_self_eq_false,cond_false];have k:=VU ps (λn (s:List Int) x=>YM ps n s x) (λx=>(x:Int)) (λ_ p s=>s++[(qN p).1,(qN p).2]) (λs=>s) (λx s=>s.length=2*x) (by omega)
   (λn x s hx hi=>by
    refine⟨?_,by simp[hi];omega⟩;rw[YM,decide_eq_true (by omega),qL (by omega) (by omega),qP (by omega)];simp only[cond_true,Int.toNat_natCast,(SJ _).1,Option.bind_some];rw[qW (by omega) (by omega)];rfl)
   (λn s _=>by rw[YM];simp) (i:=0) rfl [] rfl
  rw[k.1,qKD,List.nil_append];simp only[Option.bind_some];unfold GN;have hb:Nat.blt (allG ps).length 4611686018427387904=true:=by rw[Nat.blt_eq,qIm];omega
  rw[hb];simp only[cond_true,Option.bind_some];have hlen:(TU (λx y=>decide (x<=y)) (allG ps)).length=(allG ps).length:=(LQ _ _).length_eq;rw[hlen];simp only[beq_self_eq_true,cond_true];rw[qR9 _ (by rw[hlen,qIm];omega)];rfl
 ·have h':(zO ps !=0)=true:=by simpa using h
  rw[h',if_neg h];rfl
end Go.SL.Saw
namespace Go.SL.Saw
def ripB (k:Int):Bool:=k==2||k==3
theorem qIr (k:Int):wD k=some (ripB k):=by
 unfold wD GH ripB;cases h:k==2<;>simp
def alP (r:Rect) (k:Int):Span:=bif k==2 then r.X else r.Y
def wiP (r:Rect) (k:Int) (s:Span):Rect:=bif k==2 then⟨s,r.Y⟩ else⟨r.X,s⟩
def enP (r:Rect) (n:Node) (kerf:Int):Int:=imin (w64 (n.At+kerf)) (alP r n.Kind).B
def fiP (r:Rect) (n:Node):Rect:=wiP r n.Kind ⟨(alP r n.Kind).A,n.At⟩
def cuP (r:Rect) (n:Node) (kerf:Int):Rect:=wiP r n.Kind ⟨n.At,enP r n kerf⟩
def seP (r:Rect) (n:Node) (kerf:Int):Rect:=wiP r n.Kind ⟨enP r n kerf,(alP r n.Kind).B⟩
theorem qPY (r:Rect) (k:Int):QO r k=some (alP r k):=by
 unfold QO alP;cases k==2<;>rfl
theorem with_eq (r:Rect) (k:Int) (s:Span):KS r k s=some (wiP r k s):=by
 unfold KS BJ wiP;cases k==2<;>rfl
theorem qPC (r:Rect) (n:Node) (kerf:Int):yI r n kerf=some (fiP r n,cuP r n kerf,seP r n kerf):=by
 unfold yI;simp only[qPY,with_eq,Option.bind_some];rfl
def pushP (kerf:Int) (n:Node) (x:Pattern_place) (st:List Pattern_place):List Pattern_place:=
 bif ripB n.Kind then⟨fiP x.rect n,x.level+1⟩::⟨seP x.rect n kerf,x.level+1⟩::st else st
def runP {σ:Type} (f:Int->Pattern_place->σ->Option (Nat×σ)) (kerf:Int):List Node->Int->List Pattern_place->σ->Option (Nat×σ)
 |_,_,[],s=>some (0,s)
 |[],i,x::_,s=>f i x s
 |n::ns,i,x::st,s=>(f i x s).bind λr=>bif Nat.beq r.1 0 then runP f kerf ns (i+1) (pushP kerf n x st) r.2 else some r
def BT {σ:Type} (f:Int->Pattern_place->σ->Option (Nat×σ)) (nodes:List Node) (kerf:Int):Nat->List Pattern_place->Int->σ->Option ((Nat×σ)⊕σ)
 |0,_,_,_=>none
 |n+1,l,i,s=>
  bif decide (((l.length:Nat):Int)>0) then
   bif inb (w64 (((l.length:Nat):Int)-1)) l.length then
    bif slOk 0 (w64 (((l.length:Nat):Int)-1)) l.length then
     (f i (l.getD ((w64 (((l.length:Nat):Int)-1)).toNat) default) s).bind λv=>
     bif !(Nat.beq v.1 0) then
      some (Sum.inl v)
     else
      bif decide (i≥((nodes.length:Nat):Int)) then
       some (Sum.inl (0,v.2))
      else
       bif inb i nodes.length then
        (wD ((nodes.getD i.toNat default).Kind)).bind λv1=>
        bif v1 then
         (yI ((l.getD ((w64 (((l.length:Nat):Int)-1)).toNat) default).rect) (nodes.getD i.toNat default) kerf).bind λv2=>
         bif room ((w64 (((l.length:Nat):Int)-1)).toNat+2) 40 then
          BT f nodes kerf n ((l.take ((w64 (((l.length:Nat):Int)-1)).toNat))++([(Pattern_place.mk v2.2.2 (w64 (((l.getD ((w64 (((l.length:Nat):Int)-1)).toNat) default).level)+1))),(Pattern_place.mk v2.1 (w64 (((l.getD ((w64 (((l.length:Nat):Int)-1)).toNat) default).level)+1)))]:List Pattern_place)) (w64 (i+1)) v.2
         else none
        else
         BT f nodes kerf n (l.take ((w64 (((l.length:Nat):Int)-1)).toNat)) (w64 (i+1)) v.2
       else none
    else none
   else none
  else
   some (Sum.inr s)
def outP {σ:Type} (u:(Nat×σ)⊕σ):Option (Nat×σ):=Sum.elim (λv=>some v) (λs=>some (0,s)) u
theorem qUj {α:Type} [Inhabited α] (x:α) (st:List α):(x::st).reverse.getD st.length default=x:=by
 simp[List.getD_eq_getElem?_getD,List.getElem?_append_right]
theorem qUm {α:Type} (x:α) (st:List α):(x::st).reverse.take st.length=st.reverse:=by
 rw[List.reverse_cons,List.take_append_of_le_length (by simp),List.take_of_length_le (by simp)]
theorem qPX {σ:Type} (f:Int->Pattern_place->σ->Option (Nat×σ)) (nodes:List Node) (kerf:Int) (hn:nodes.length<=1000):
  ∀(fuel:Nat) (ns:List Node) (i:Nat) (st:List Pattern_place) (s:σ),nodes.drop i=ns->i<=nodes.length->st.length<=i+1->(∀x∈st,0<=x.level/\x.level<=(i:Int)+1)->ns.length<fuel->
   (BT f nodes kerf fuel st.reverse (i:Int) s).bind outP=runP f kerf ns (i:Int) st s
 |0,_,_,_,_,_,_,_,_,hf=>by omega
 |fuel+1,ns,i,st,s,hd,hi,hl,hlv,hf=>by
  cases st with
  |nil=>
   have e:BT f nodes kerf (fuel+1) [] (i:Int) s=some (Sum.inr s):=rfl;rw[List.reverse_nil,e];cases ns<;>rfl
  |cons x st=>
   have hlen:(x::st).reverse.length=st.length+1:=by simp
   have hst:st.length<=1000:=by simp at hl;omega
   have ew:w64 (((st.length+1:Nat):Int)-1)=(st.length:Int):=by rw[qF (by omega) (by omega)];omega
   have hx:=hlv x List.mem_cons_self;have el:w64 (x.level+1)=x.level+1:=qF (by omega) (by omega);have ei:w64 ((i:Int)+1)=((i+1:Nat):Int):=by rw[qF (by omega) (by omega)];omega
   have c0:decide (((st.length+1:Nat):Int)>0)=true:=by simp
   have c1:inb (st.length:Int) (st.length+1)=true:=by unfold inb;simp;omega
   have c2:slOk 0 (st.length:Int) (st.length+1)=true:=by unfold slOk;simp;omega
   have c3:room (st.length+2) 40=true:=by unfold room;simp;omega
   unfold BT;rw[hlen,ew];simp only[c0,c1,c2,c3,cond_true,Int.toNat_natCast,qUj,qUm,el,ei];cases ns with
   |nil=>
    have hil:nodes.length<=i:=by
     have:=congrArg List.length hd;simp at this;omega
    have c4:decide ((i:Int)≥((nodes.length:Nat):Int))=true:=by simp;omega
    simp only[c4,cond_true];show _=f (i:Int) x s;cases f (i:Int) x s with
    |none=>rfl
    |some v=>
     obtain⟨c,t⟩:=v;cases hb:Nat.beq c 0 with
     |false=>simp only[Option.bind_some,hb,Bool.not_false,cond_true];rfl
     |true=>
      simp only[Option.bind_some,hb,Bool.not_true,cond_false];rw[Nat.eq_of_beq_eq_true hb];rfl
   |cons n ns=>
    have hil:i<nodes.length:=by
     rcases Nat.lt_or_ge i nodes.length with h|h
     ·exact h
     ·rw[List.drop_eq_nil_of_le h] at hd;cases hd
    have hg:nodes.getD i default=n:=by
     have h0:=congrArg (λl=>l.getD 0 default) hd;simpa[List.getD_eq_getElem?_getD] using h0
    have hd2:nodes.drop (i+1)=ns:=by
     have h0:=congrArg List.tail hd;simpa using h0
    have c4:decide ((i:Int)≥((nodes.length:Nat):Int))=false:=by simp;omega
    have c5:inb (i:Int) nodes.length=true:=by unfold inb;simp;omega
    simp only[c4,c5,cond_true,cond_false,hg,qIr,qPC,Option.bind_some];show _=(f (i:Int) x s).bind _;cases f (i:Int) x s with
    |none=>rfl
    |some v=>
     simp only[Option.bind_some];cases hb:Nat.beq v.1 0 with
     |false=>simp only[Bool.not_false,cond_true,cond_false];rfl
     |true=>
      simp only[Bool.not_true,cond_false,cond_true];simp at hf hl;have ih:=λst' h1 h2=>qPX f nodes kerf hn fuel ns (i+1) st' v.2 hd2 hil h1 h2 (by omega);have eii:((i:Int)+1)=((i+1:Nat):Int):=by omega
      rw[eii];unfold pushP;cases hr:ripB n.Kind with
      |false=>
       simp only[cond_false];exact ih st (by omega) λy hy=>by have:=hlv y (List.mem_cons_of_mem _ hy);omega
      |true=>
       simp only[cond_true];have e:st.reverse++[(⟨seP x.rect n kerf,x.level+1⟩:Pattern_place),⟨fiP x.rect n,x.level+1⟩]=(⟨fiP x.rect n,x.level+1⟩::⟨seP x.rect n kerf,x.level+1⟩::st:List Pattern_place).reverse:=by simp
       rw[e];refine ih _ (by simp;omega) λy hy=>?_;rcases List.mem_cons.1 hy with rfl|hy
       ·simp only;omega
       ·rcases List.mem_cons.1 hy with rfl|hy
        ·simp only;omega
        ·have:=hlv y (List.mem_cons_of_mem _ hy);omega
theorem qTN :1001<FUEL:=by unfold FUEL;omega
theorem qCE {σ:Type} (f:Int->Pattern_place->σ->Option (Nat×σ)) (p:Pattern) (kerf:Int) (hn:p.Nodes.length<=1000) (s:σ):
  (BT f p.Nodes kerf FUEL [⟨p.Frame,1⟩] 0 s).bind outP=runP f kerf p.Nodes 0 [⟨p.Frame,1⟩] s:=
 qPX f p.Nodes kerf hn FUEL p.Nodes 0 [⟨p.Frame,1⟩] s rfl (Nat.zero_le _) (by simp) (λx hx=>by simp at hx;subst hx;simp) (by have:=qTN;omega)
theorem qCo {α β:Type} (c:Bool) (A B:Option α) (k:α->Option β):(bif c then A else B).bind k=bif c then A.bind k else B.bind k:=by cases c<;>rfl
theorem qRO (a1:Pattern) (a2:List Product) (a3 a4:Int) (a5:Pattern) (a6:Int) (hn:a5.Nodes.length<=1000):
  KF a1 a2 a3 a4 a5 a6=runP (λi x (s:Int×Int)=>jU i x a1 a2 s.1 s.2) a6 a5.Nodes 0 [⟨a5.Frame,1⟩] (a3,a4):=by
 have key:∀(n:Nat) (l:List Pattern_place) (i x y:Int),(jT a1 a2 a5 a6 n l i x y).bind (λu=>Sum.elim (λv=>some v) (λo=>some (0,o.2,o.1)) u)=(BT (λi x (s:Int×Int)=>jU i x a1 a2 s.1 s.2) a5.Nodes a6 n l i (x,y)).bind outP:=by
  intro n
  induction n with
  |zero=>intro l i x y;rfl
  |succ n ih=>
   intro l i x y;unfold jT BT PH;simp only[qCo,Option.bind_assoc,Option.bind_none,Option.bind_some,ih,outP,Sum.elim_inl,Sum.elim_inr]
 unfold KF;rw[<-qCE _ a5 a6 hn (a3,a4),<-key]
theorem qRV (a1:Pattern) (a2 a3:Int) (a4:Pattern) (a5:Int) (hn:a4.Nodes.length<=1000):
  WQ a1 a2 a3 a4 a5=runP (λi x (s:Int×Int)=>wM i x a1 s.1 s.2) a5 a4.Nodes 0 [⟨a4.Frame,1⟩] (a2,a3):=by
 have key:∀(n:Nat) (l:List Pattern_place) (i x y:Int),(wQ a1 a4 a5 n l i x y).bind (λu=>Sum.elim (λv=>some v) (λo=>some (0,o.2,o.1)) u)=(BT (λi x (s:Int×Int)=>wM i x a1 s.1 s.2) a4.Nodes a5 n l i (x,y)).bind outP:=by
  intro n
  induction n with
  |zero=>intro l i x y;rfl
  |succ n ih=>
   intro l i x y;unfold wQ BT JV;simp only[qCo,Option.bind_assoc,Option.bind_none,Option.bind_some,ih,outP,Sum.elim_inl,Sum.elim_inr]
 unfold WQ;rw[<-qCE _ a4 a5 hn (a2,a3),<-key]
theorem qSd (a1 a2:Pattern) (a3:Int) (a4:List Leaf) (hn:a2.Nodes.length<=1000):
  WT a1 a2 a3 a4=runP (λi x (s:List Leaf)=>jE i x a1 s) a3 a2.Nodes 0 [⟨a2.Frame,1⟩] a4:=by
 have key:∀(n:Nat) (l:List Pattern_place) (i:Int) (x:List Leaf),(wP a1 a2 a3 n l i x).bind (λu=>Sum.elim (λv=>some v) (λo=>some (0,o)) u)=(BT (λi x (s:List Leaf)=>jE i x a1 s) a2.Nodes a3 n l i x).bind outP:=by
  intro n
  induction n with
  |zero=>intro l i x;rfl
  |succ n ih=>
   intro l i x;unfold wP BT JU;simp only[qCo,Option.bind_assoc,Option.bind_none,Option.bind_some,ih,outP,Sum.elim_inl,Sum.elim_inr]
 unfold WT;rw[<-qCE _ a2 a3 hn a4,<-key]
theorem qRH (a1:Pattern) (a2:Int) (a3:Pattern) (a4:Int) (a5:List Rect) (hn:a3.Nodes.length<=1000):
  WP a1 a2 a3 a4 a5=runP (λi x (s:List Rect)=>yG i x a1 a2 s) a4 a3.Nodes 0 [⟨a3.Frame,1⟩] a5:=by
 have key:∀(n:Nat) (l:List Pattern_place) (i:Int) (x:List Rect),(wO a1 a2 a3 a4 n l i x).bind (λu=>Sum.elim (λv=>some v) (λo=>some (0,o)) u)=(BT (λi x (s:List Rect)=>yG i x a1 a2 s) a3.Nodes a4 n l i x).bind outP:=by
  intro n
  induction n with
  |zero=>intro l i x;rfl
  |succ n ih=>
   intro l i x;unfold wO BT JO;simp only[qCo,Option.bind_assoc,Option.bind_none,Option.bind_some,ih,outP,Sum.elim_inl,Sum.elim_inr]
 unfold WP;rw[<-qCE _ a3 a4 hn a5,<-key]
end Go.SL.Saw
namespace Go.SL.Saw
def chkN (bd:Rect->Int->Int) (n:Node) (x:Pattern_place):Int:=
 if n.Kind<0\/3<n.Kind\/(n.Kind=0/\n.At≠0) then 10
 else if 64<x.level then 28
 else if ripB n.Kind=true/\(n.At<=(alP x.rect n.Kind).A\/(alP x.rect n.Kind).B<=n.At) then 20
 else if n.Kind=1 then bd x.rect n.At else 0
def chkP (bd:Rect->Int->Int) (kerf:Int):List Node->List Pattern_place->Int
 |[],[]=>0
 |_::_,[]=>4
 |[],_::_=>3
 |n::ns,x::st=>if chkN bd n x≠0 then chkN bd n x else chkP bd kerf ns (pushP kerf n x st)
inductive T where
 |leaf (n:Node):T
 |rip (n:Node) (a b:T):T
def qX :T->List Node
 | .leaf n=>[n]
 | .rip n a b=>n::(qX a++qX b)
def FY :T->Prop
 | .leaf n=>ripB n.Kind=false
 | .rip n a b=>ripB n.Kind=true/\FY a/\FY b
def okT (bd:Rect->Int->Int) (kerf:Int):T->Pattern_place->Prop
 | .leaf n,x=>ripB n.Kind=false/\chkN bd n x=0
 | .rip n a b,x=>ripB n.Kind=true/\chkN bd n x=0/\okT bd kerf a ⟨fiP x.rect n,x.level+1⟩/\okT bd kerf b ⟨seP x.rect n kerf,x.level+1⟩
theorem qCq {bd:Rect->Int->Int} {kerf:Int}:∀{t:T} {x:Pattern_place},okT bd kerf t x->FY t
 | .leaf _,_,h=>h.1
 | .rip _ _ _,_,h=>⟨h.1,qCq h.2.2.1,qCq h.2.2.2⟩
def allP {α:Type} (g:Node->Pattern_place->List α) (kerf:Int):List Node->List Pattern_place->List α
 |n::ns,x::st=>g n x++allP g kerf ns (pushP kerf n x st)
 |_,_=>[]
def allT {α:Type} (g:Node->Pattern_place->List α) (kerf:Int):T->Pattern_place->List α
 | .leaf n,x=>g n x
 | .rip n a b,x=>g n x++(allT g kerf a ⟨fiP x.rect n,x.level+1⟩++allT g kerf b ⟨seP x.rect n kerf,x.level+1⟩)
def okTs (bd:Rect->Int->Int) (kerf:Int):List T->List Pattern_place->Prop
 |[],[]=>True
 |t::ts,x::st=>okT bd kerf t x/\okTs bd kerf ts st
 |_,_=>False
def qG4 :List T->List Node
 |[]=>[]
 |t::ts=>qX t++qG4 ts
theorem qMX {bd:Rect->Int->Int} {kerf:Int}:∀(ns:List Node) (st:List Pattern_place),chkP bd kerf ns st=0->∃ts,ns=qG4 ts/\okTs bd kerf ts st
 |[],[],_=>⟨[],rfl,trivial⟩
 |_::_,[],h=>by simp[chkP] at h
 |[],_::_,h=>by simp[chkP] at h
 |n::ns,x::st,h=>by
  unfold chkP at h;by_cases c:chkN bd n x=0
  ·rw[if_neg (by simpa using c)] at h;obtain⟨ts,e1,e2⟩:=qMX ns _ h;unfold pushP at e2;cases hr:ripB n.Kind with
   |false=>
    rw[hr,cond_false] at e2;exact⟨.leaf n::ts,by rw[e1];rfl,⟨hr,c⟩,e2⟩
   |true=>
    rw[hr,cond_true] at e2
    match ts,e1,e2 with
    |a::b::ts,e1,e2=>
     refine⟨.rip n a b::ts,?_,⟨hr,c,e2.1,e2.2.1⟩,e2.2.2⟩;rw[e1];simp[qG4,qX]
    |[a],_,e2=>exact e2.2.elim
    |[],_,e2=>exact e2.elim
  ·rw[if_pos c] at h;exact(c h).elim
theorem qPO {bd:Rect->Int->Int} {kerf:Int} {ns:List Node} {x:Pattern_place} (h:chkP bd kerf ns [x]=0):∃t,ns=qX t/\okT bd kerf t x:=by
 obtain⟨ts,e1,e2⟩:=qMX ns [x] h
 match ts,e1,e2 with
 |[t],e1,e2=>exact⟨t,by rw[e1];simp[qG4],e2.1⟩
 |_::_::_,_,e2=>exact e2.2.elim
 |[],_,e2=>exact e2.elim
theorem qIa {bd:Rect->Int->Int} {kerf:Int}:∀(t:T) (x:Pattern_place) (ns:List Node) (st:List Pattern_place),okT bd kerf t x->chkP bd kerf (qX t++ns) (x::st)=chkP bd kerf ns st
 | .leaf n,x,ns,st,h=>by
  show(if chkN bd n x≠0 then _ else _)=_;rw[if_neg (by simp[h.2])];unfold pushP;rw[h.1,cond_false];rfl
 | .rip n a b,x,ns,st,h=>by
  show(if chkN bd n x≠0 then _ else chkP bd kerf ((qX a++qX b)++ns) (pushP kerf n x st))=_;rw[if_neg (by simp[h.2.1])];unfold pushP;rw[h.1,cond_true,List.append_assoc];rw[qIa a _ _ _ h.2.2.1,qIa b _ _ _ h.2.2.2]
theorem qQZ {bd:Rect->Int->Int} {kerf:Int} {t:T} {x:Pattern_place} (h:okT bd kerf t x):chkP bd kerf (qX t) [x]=0:=by
 have:=qIa t x [] [] h;rw[List.append_nil] at this;exact this
theorem qJf {α:Type} (g:Node->Pattern_place->List α) (kerf:Int):∀(t:T) (x:Pattern_place) (ns:List Node) (st:List Pattern_place),FY t->allP g kerf (qX t++ns) (x::st)=allT g kerf t x++allP g kerf ns st
 | .leaf n,x,ns,st,h=>by
  show g n x++allP g kerf ([]++ns) (pushP kerf n x st)=_;unfold pushP;rw[show ripB n.Kind=false from h,cond_false];rfl
 | .rip n a b,x,ns,st,h=>by
  show g n x++allP g kerf ((qX a++qX b)++ns) (pushP kerf n x st)=_;unfold pushP;rw[h.1,cond_true,List.append_assoc,qJf g kerf a _ _ _ h.2.1,qJf g kerf b _ _ _ h.2.2];simp[allT]
theorem IZ {α:Type} (g:Node->Pattern_place->List α) (kerf:Int) {t:T} (x:Pattern_place) (h:FY t):allP g kerf (qX t) [x]=allT g kerf t x:=by
 have:=qJf g kerf t x [] [] h;rw[List.append_nil] at this;rw[this];simp[allP]
def TR (n:Node) (x:Pattern_place):List Leaf:=if n.Kind=0 then[⟨x.rect,-1⟩] else if n.Kind=1 then[⟨x.rect,n.At⟩] else[]
def cutG (kerf:Int) (n:Node) (x:Pattern_place):List Rect:=if ripB n.Kind=true then[cuP x.rect n kerf] else[]
theorem qMm {bd bd':Rect->Int->Int} {n:Node} {x:Pattern_place} (h:chkN bd n x=0) (hb:∀r,n.Kind=1->bd r n.At=0->bd' r n.At=0):chkN bd' n x=0:=by
 unfold chkN at h⊢;split at h
 ·cases h
 ·rename_i c1;rw[if_neg c1];split at h
  ·cases h
  ·rename_i c2;rw[if_neg c2];split at h
   ·cases h
   ·rename_i c3;rw[if_neg c3];split at h
    ·rename_i c4;rw[if_pos c4];exact hb _ c4 h
    ·rename_i c4;rw[if_neg c4]
theorem qIO {bd bd':Rect->Int->Int} {kerf:Int} (hb:∀r at_,bd r at_=0->bd' r at_=0):∀{t:T} {x:Pattern_place},okT bd kerf t x->okT bd' kerf t x
 | .leaf _,_,h=>⟨h.1,qMm h.2 λr _=>hb r _⟩
 | .rip _ _ _,_,h=>⟨h.1,qMm h.2.1 λr _=>hb r _,qIO hb h.2.2.1,qIO hb h.2.2.2⟩
theorem qEj :∀(t:T),1<=(qX t).length
 | .leaf _=>Nat.le_refl _
 | .rip _ a b=>by simp[qX]
end Go.SL.Saw
namespace Go.SL.Saw
def WS (s:Span):Prop:= -600<=s.A/\s.A<=s.B/\s.B<=600
def WR (r:Rect):Prop:=WS r.X/\WS r.Y
def subS (a b:Span):Prop:=b.A<=a.A/\a.B<=b.B
def subR (a b:Rect):Prop:=subS a.X b.X/\subS a.Y b.Y
theorem qM2 (a:Rect):subR a a:=⟨⟨Int.le_refl _,Int.le_refl _⟩,Int.le_refl _,Int.le_refl _⟩
theorem qKN {a b c:Span} (h:subS a b) (k:subS b c):subS a c:=⟨Int.le_trans k.1 h.1,Int.le_trans h.2 k.2⟩
theorem qBt {a b c:Rect} (h:subR a b) (k:subR b c):subR a c:=⟨qKN h.1 k.1,qKN h.2 k.2⟩
def qFP (a b:Rect):Prop:=a.X.B<=b.X.A\/b.X.B<=a.X.A\/a.Y.B<=b.Y.A\/b.Y.B<=a.Y.A
theorem qTC {a b c d:Rect} (h:qFP c d) (h1:subR a c) (h2:subR b d):qFP a b:=by
 obtain⟨⟨a1,a2⟩,a3,a4⟩:=h1;obtain⟨⟨b1,b2⟩,b3,b4⟩:=h2;unfold qFP at*;omega
theorem ripB_iff {k:Int}:ripB k=true↔k=2\/k=3:=by unfold ripB;simp
theorem qRb {bd:Rect->Int->Int} {n:Node} {x:Pattern_place} (hr:ripB n.Kind=true) (h:chkN bd n x=0):(alP x.rect n.Kind).A<n.At/\n.At<(alP x.rect n.Kind).B:=by
 unfold chkN at h;split at h
 ·cases h
 ·split at h
  ·cases h
  ·split at h
   ·cases h
   ·rename_i c;simp[hr] at c;omega
theorem chkN_kind {bd:Rect->Int->Int} {n:Node} {x:Pattern_place} (hr:ripB n.Kind=false) (h:chkN bd n x=0):(n.Kind=0/\n.At=0)\/(n.Kind=1/\bd x.rect n.At=0):=by
 have:¬(n.Kind=2\/n.Kind=3):=by rw[<-ripB_iff,hr];simp
 unfold chkN at h;split at h
 ·cases h
 ·rename_i c;split at h
  ·cases h
  ·split at h
   ·cases h
   ·split at h
    ·rename_i c4;exact .inr ⟨c4,h⟩
    ·left;omega
structure Cut3 (r f c s:Rect):Prop where
 wf:WR f
 wc:WR c
 ws:WR s
 sf:subR f r
 sc:subR c r
 ss:subR s r
 fs:qFP f s
structure AddR (μ:Rect->Int):Prop where
 x:∀{A m B:Int} (y:Span),A<=m->m<=B->μ ⟨⟨A,m⟩,y⟩+μ ⟨⟨m,B⟩,y⟩=μ ⟨⟨A,B⟩,y⟩
 y:∀{A m B:Int} (x:Span),A<=m->m<=B->μ ⟨x,⟨A,m⟩⟩+μ ⟨x,⟨m,B⟩⟩=μ ⟨x,⟨A,B⟩⟩
theorem cut3 {r:Rect} {n:Node} {kerf:Int} (hr:ripB n.Kind=true) (hw:WR r) (hi:(alP r n.Kind).A<n.At/\n.At<(alP r n.Kind).B) (hk:0<=kerf/\kerf<=20):
  Cut3 r (fiP r n) (cuP r n kerf) (seP r n kerf)/\∀μ,AddR μ->μ (fiP r n)+μ (cuP r n kerf)+μ (seP r n kerf)=μ r:=by
 obtain⟨⟨x1,x2,x3⟩,y1,y2,y3⟩:=hw;rcases ripB_iff.1 hr with e|e
 ·have ea:alP r n.Kind=r.X:=by unfold alP;rw[e];rfl
  have ew:∀s,wiP r n.Kind s=⟨s,r.Y⟩:=λs=>by unfold wiP;rw[e];rfl
  rw[ea] at hi;have ee:enP r n kerf=imin (n.At+kerf) r.X.B:=by unfold enP;rw[ea,qF (by omega) (by omega)]
  unfold fiP cuP seP;simp only[ew,ea,ee];have hm:n.At<=imin (n.At+kerf) r.X.B/\imin (n.At+kerf) r.X.B<=r.X.B:=by
   rcases imin_or (n.At+kerf) r.X.B with h|h<;>omega
  refine⟨⟨⟨⟨?_,?_,?_⟩,y1,y2,y3⟩,⟨⟨?_,?_,?_⟩,y1,y2,y3⟩,⟨⟨?_,?_,?_⟩,y1,y2,y3⟩,⟨⟨?_,?_⟩,Int.le_refl _,Int.le_refl _⟩,⟨⟨?_,?_⟩,Int.le_refl _,Int.le_refl _⟩,⟨⟨?_,?_⟩,Int.le_refl _,Int.le_refl _⟩,.inl ?_⟩,λμ h=>?_⟩<;>(try (simp only;omega))
  rw[h.x r.Y (by omega) hm.1,h.x r.Y (by omega) hm.2]
 ·have ea:alP r n.Kind=r.Y:=by unfold alP;rw[e];rfl
  have ew:∀s,wiP r n.Kind s=⟨r.X,s⟩:=λs=>by unfold wiP;rw[e];rfl
  rw[ea] at hi;have ee:enP r n kerf=imin (n.At+kerf) r.Y.B:=by unfold enP;rw[ea,qF (by omega) (by omega)]
  unfold fiP cuP seP;simp only[ew,ea,ee];have hm:n.At<=imin (n.At+kerf) r.Y.B/\imin (n.At+kerf) r.Y.B<=r.Y.B:=by
   rcases imin_or (n.At+kerf) r.Y.B with h|h<;>omega
  refine⟨⟨⟨⟨x1,x2,x3⟩,?_,?_,?_⟩,⟨⟨x1,x2,x3⟩,?_,?_,?_⟩,⟨⟨x1,x2,x3⟩,?_,?_,?_⟩,⟨⟨Int.le_refl _,Int.le_refl _⟩,?_,?_⟩,⟨⟨Int.le_refl _,Int.le_refl _⟩,?_,?_⟩,⟨⟨Int.le_refl _,Int.le_refl _⟩,?_,?_⟩,.inr (.inr (.inl ?_))⟩,λμ h=>?_⟩<;>(try (simp only;omega))
  rw[h.y r.X (by omega) hm.1,h.y r.X (by omega) hm.2]
def lvT (kerf:Int) (t:T) (x:Pattern_place):List Leaf:=allT TR kerf t x
def ctT (kerf:Int) (t:T) (x:Pattern_place):List Rect:=allT (cutG kerf) kerf t x
theorem lv_leaf {bd:Rect->Int->Int} {kerf:Int} {n:Node} {x:Pattern_place} (h:okT bd kerf (.leaf n) x):(lvT kerf (.leaf n) x=[⟨x.rect,-1⟩]\/(lvT kerf (.leaf n) x=[⟨x.rect,n.At⟩]/\bd x.rect n.At=0))/\ctT kerf (.leaf n) x=[]:=by
 refine⟨?_,?_⟩
 ·rcases chkN_kind h.1 h.2 with⟨e,_⟩|⟨e,eb⟩
  ·left;simp[lvT,allT,TR,e]
  ·right;exact⟨by simp[lvT,allT,TR,e],eb⟩
 ·simp[ctT,allT,cutG,h.1]
theorem qBN {kerf:Int} {n:Node} {a b:T} {x:Pattern_place} (hr:ripB n.Kind=true):lvT kerf (.rip n a b) x=lvT kerf a ⟨fiP x.rect n,x.level+1⟩++lvT kerf b ⟨seP x.rect n kerf,x.level+1⟩/\ctT kerf (.rip n a b) x=cuP x.rect n kerf::(ctT kerf a ⟨fiP x.rect n,x.level+1⟩++ctT kerf b ⟨seP x.rect n kerf,x.level+1⟩):=by
 refine⟨?_,?_⟩
 ·have e0:¬n.Kind=0:=by rcases ripB_iff.1 hr with e|e<;>omega
  have e1:¬n.Kind=1:=by rcases ripB_iff.1 hr with e|e<;>omega
  simp[lvT,allT,TR,e0,e1]
 ·simp[ctT,allT,cutG,hr]
def sumL {α:Type} (f:α->Int) (l:List α):Int:=(l.map f).sum
theorem qOM {α:Type} (f:α->Int):sumL f []=0:=rfl
theorem QA {α:Type} (f:α->Int) (x:α) (l:List α):sumL f (x::l)=f x+sumL f l:=by simp[sumL]
theorem FH {α:Type} (f:α->Int) (l t:List α):sumL f (l++t)=sumL f l+sumL f t:=by simp[sumL]
theorem qO9 {α:Type} (c:Int) (f:α->Int):∀(l:List α),sumL (λx=>c*f x) l=c*sumL f l
 |[]=>by simp[sumL]
 |x::l=>by rw[QA,QA,qO9 c f l,Int.mul_add]
theorem qPz {α:Type} (f g:α->Int):∀(l:List α),sumL (λx=>f x+g x) l=sumL f l+sumL g l
 |[]=>by simp[sumL]
 |x::l=>by simp only[QA,qPz f g l];omega
structure Parts (bd:Rect->Int->Int) (r:Rect) (lv:List Leaf) (ct:List Rect) (n:Nat):Prop where
 wl:∀l∈lv,WR l.Rect/\subR l.Rect r/\(l.Product= -1\/bd l.Rect l.Product=0)
 wc:∀c∈ct,WR c/\subR c r
 ap:lv.Pairwise λa b=>qFP a.Rect b.Rect
 ll:lv.length<=n
 lc:ct.length<=n
 sum:∀μ,AddR μ->sumL (λl=>μ l.Rect) lv+sumL μ ct=μ r
theorem qL2 {bd:Rect->Int->Int} {kerf:Int} (hk:0<=kerf/\kerf<=20):∀(t:T) (x:Pattern_place),okT bd kerf t x->WR x.rect->Parts bd x.rect (lvT kerf t x) (ctT kerf t x) (qX t).length
 | .leaf n,x,h,hw=>by
  obtain⟨e1,e2⟩:=lv_leaf h;rcases e1 with e1|⟨e1,eb⟩
  ·rw[e1,e2];refine⟨λl hl=>?_,λc hc=>(List.not_mem_nil hc).elim,by simp,by simp[qX],by simp,λμ _=>by simp[sumL]⟩;simp at hl;subst hl;exact⟨hw,qM2 _,.inl rfl⟩
  ·rw[e1,e2];refine⟨λl hl=>?_,λc hc=>(List.not_mem_nil hc).elim,by simp,by simp[qX],by simp,λμ _=>by simp[sumL]⟩;simp at hl;subst hl;exact⟨hw,qM2 _,.inr eb⟩
 | .rip n a b,x,h,hw=>by
  obtain⟨hr,hc,ha,hb⟩:=h;obtain⟨c3,cs⟩:=cut3 hr hw (qRb hr hc) hk;have pa:=qL2 hk a _ ha c3.wf;have pb:=qL2 hk b _ hb c3.ws;rw[(qBN hr).1,(qBN hr).2];refine⟨λl hl=>?_,λc hc=>?_,?_,?_,?_,λμ hμ=>?_⟩
  ·rcases List.mem_append.1 hl with hl|hl
   ·exact⟨(pa.wl l hl).1,qBt (pa.wl l hl).2.1 c3.sf,(pa.wl l hl).2.2⟩
   ·exact⟨(pb.wl l hl).1,qBt (pb.wl l hl).2.1 c3.ss,(pb.wl l hl).2.2⟩
  ·rcases List.mem_cons.1 hc with rfl|hc
   ·exact⟨c3.wc,c3.sc⟩
   rcases List.mem_append.1 hc with hc|hc
   ·exact⟨(pa.wc c hc).1,qBt (pa.wc c hc).2 c3.sf⟩
   ·exact⟨(pb.wc c hc).1,qBt (pb.wc c hc).2 c3.ss⟩
  ·exact List.pairwise_append.2 ⟨pa.ap,pb.ap,λl hl k hk=>qTC c3.fs (pa.wl l hl).2.1 (pb.wl k hk).2.1⟩
  ·have:=pa.ll;have:=pb.ll;simp[qX];omega
  ·have:=pa.lc;have:=pb.lc;simp[qX];omega
  ·rw[FH,QA,FH];have:=pa.sum μ hμ;have:=pb.sum μ hμ;have:=cs μ hμ;simp only at*;omega
end Go.SL.Saw
