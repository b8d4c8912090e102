/- Wire: scans are written alike. -/
import Derived.Test.YthbamnkheinbgaaGreatDoorSMa12
set_option linter.unusedVariables false
set_option linter.unusedSimpArgs false
namespace Go.SL
namespace Saw
def bnd (l:List Int):Prop:=∀n∈l,-1000000<=n/\n<=1000000
theorem bnd.ok {l:List Int} (h:bnd l):Okl l:=λn hn=>by have:=h n hn;omega
theorem EA {β:Type} (N:Nat) (L:Nat->List Int->Int->Option β) (f:Nat->List Int) (out:List Int->β) (hN:N<=1000000) (hf:∀x,x<N->(f x).length<=7)
  (h0:∀n x l,x<N->l.length<=7*x->L (n+1) l (x:Int)=L n (l++f x) ((x+1:Nat):Int))
  (h1:∀n l,L (n+1) l (N:Int)=some (out l)):L FUEL [] 0=some (out (((List.range N).map f).flatten)):=by
 have h:=CA N L (λx l=>l++f x) out (λx l=>l=((List.range x).map f).flatten/\l.length<=7*x) 0 (by omega) (by omega) (λn x l hx hi=>⟨h0 n x l hx hi.2,by
   rw[hi.1,List.range_succ,uL,gh];simp,by
   have:=hf x hx;have:=hi.2;rw[ky];omega⟩) (λn l _=>h1 n l) [] ⟨rfl,by simp⟩
 obtain⟨e1,e2⟩:=h;rw[e2.1] at e1;exact e1
theorem LN {α β:Type} [Inhabited α] (l:List α) (f:α->β):(List.range l.length).map (λi=>f (l.getD i dd))=l.map f:=by
 refine List.ext_getElem (by simp) λi h1 h2=>?_;simp only[uV,List.length_range] at h1;simp only[List.getElem_map,List.getElem_range];rw[ka,kr h1];rfl
def numR (x:qB):List Int:=bif x.Ok then[1,x.P.X,x.P.Y] else[0]
def nums (l:List qB):List Int:=(l.map numR).flatten
def numD (d:qG):List Int:=[d.Kind,d.Box.X.A,d.Box.X.B,d.Box.Y.A,d.Box.Y.B,d.Box.Z.A,d.Box.Z.B]
def LJ (l:List qG):List Int:=(l.map numD).flatten
theorem qDa (x:qB):(numR x).length<=3:=by unfold numR;cases x.Ok<;>simp
theorem OB (l:List qB):(nums l).length<=3*l.length:=by
 induction l with
 |nil=>simp[nums]
 |cons x l ih=>
  have:=qDa x;unfold nums at ih⊢;simp only[kY,uD,ky,kv];omega
theorem qKM (l:List qG):(LJ l).length=7*l.length:=by
 induction l with
 |nil=>simp[LJ]
 |cons x l ih=>
  unfold LJ at ih⊢;simp only[kY,uD,ky,kv,ih,numD,kL];omega
theorem qLr (l:List qB) (h:l.length<=1000000):QH l=some (nums l):=by
 unfold QH;rw[EA l.length (zU l) (λi=>numR (l.getD i dd)) id h (λx _=>by have:=qDa (l.getD x dd);omega) (λn x t hx ht=>by
  rw[zU,kf (by omega),zL (by omega),kB];simp only[kq,QL,wL (show x<4611686018427387904 by omega),numR];cases (l.getD x dd).Ok with
  |true=>rw[jK (by omega)];rfl
  |false=>simp only[ks];rw[jK (by omega)];rfl) (λn t=>by rw[zU,ke (by omega)];rfl)]
 rw[LN l numR];rfl
theorem qLy (r:Ring) (h:r.Read.length<=1000000):YS r=some (nums r.Read):=by
 unfold YS;rw[EA r.Read.length (wM r) (λi=>numR (r.Read.getD i dd)) id h (λx _=>by have:=qDa (r.Read.getD x dd);omega) (λn x t hx ht=>by
  rw[wM,kf (by omega),zL (by omega),kB];simp only[kq,YA,wL (show x<4611686018427387904 by omega),numR];cases (r.Read.getD x dd).Ok with
  |true=>rw[jK (by omega)];rfl
  |false=>simp only[ks];rw[jK (by omega)];rfl) (λn t=>by rw[wM,ke (by omega)];rfl)]
 rw[LN r.Read numR];rfl
theorem qLo (l:List qG) (h:l.length<=1000000):ZD l=some (LJ l):=by
 unfold ZD;rw[EA l.length (wV l) (λi=>numD (l.getD i dd)) id h (λx _=>by simp[numD]) (λn x t hx ht=>by
  rw[wV,kf (by omega),zL (by omega),kB,jK (by omega),wL (by omega)];rfl) (λn t=>by rw[wV,ke (by omega)];rfl)]
 rw[LN l numD];rfl
theorem qKo (s:Scan) (h:s.Defects.length<=1000000):jO s FUEL [] 0=some (LJ s.Defects):=by
 rw[EA s.Defects.length (jO s) (λi=>numD (s.Defects.getD i dd)) id h (λx _=>by simp[numD]) (λn x t hx ht=>by
  rw[jO,kf (by omega),zL (by omega),kB,jK (by omega),wL (by omega)];rfl) (λn t=>by rw[jO,ke (by omega)];rfl)]
 rw[LN s.Defects numD];rfl
theorem SC {r:Ring} (g:UP r):bnd (nums r.Read):=by
 intro n hn;unfold nums at hn;obtain⟨t,ht,hm⟩:=List.mem_flatten.1 hn;obtain⟨x,hx,rfl⟩:=uK.1 ht;have h:=g.all x hx;unfold YD at h;unfold numR at hm;cases ho:x.Ok with
 |false=>rw[ho] at hm;simp at hm;omega
 |true=>
  rw[ho] at hm h;cases hr:YF x.P with
  |false=>rw[hr] at h;exact absurd h (show¬((9:Int)=0) by decide)
  |true=>
   unfold YF at hr;simp only[kp,decide_eq_true_eq] at hr;simp only[kq,un,List.not_mem_nil,or_false] at hm;omega
theorem qKk {l:List qG} (h:∀d∈l,VD d):bnd (LJ l):=by
 intro n hn;unfold LJ at hn;obtain⟨t,ht,hm⟩:=List.mem_flatten.1 hn;obtain⟨d,hd,rfl⟩:=uK.1 ht;have v:=h d hd;have k1:=v.k1;have k2:=v.k2;have x:=v.x;have y:=v.y;have z:=v.z;simp only[numD,un,List.not_mem_nil,or_false] at hm;omega
theorem HV {l:List Int} (h:Okl l) (hl:l.length<=1000000):(encI l).length<=10+10*l.length:=by
 have a:=(IS (v:=l.length) (by omega)).1;have b:=qDe h;unfold encI;rw[ky];omega
def zsS (s:Scan):List Int:=s.Rings.map (λr=>r.Z)
def encR (l:List Ring):List Nat:=(l.map λr=>encI (nums r.Read)).flatten
def enc15 (s:Scan):List Nat:=encI (zsS s)++encR s.Rings++encI (LJ s.Defects)
theorem qHa {s:Scan} (v:V15 s):bnd (zsS s):=by
 intro n hn;obtain⟨r,hr,rfl⟩:=uK.1 hn;obtain⟨i,hi,rfl⟩:=List.getElem_of_mem hr;have g:=v.good i hi;unfold rgs at g;rw[ka,kr hi] at g;have a:0<=s.Rings[i].Z:=g.z0;have b:s.Rings[i].Z<=20000:=g.z1;exact⟨by omega,by omega⟩
theorem qIq {l:List Ring} (h:∀r∈l,UP r):(encR l).length<=1000*l.length:=by
 induction l with
 |nil=>simp[encR]
 |cons r l ih=>
  have g:=h r (kX ..);have a:=HV (SC g).ok (by have:=OB r.Read;have:=g.hi;omega);have b:=OB r.Read;have c:=g.hi;have d:=ih (λx hx=>h x (kN _ hx));unfold encR at d⊢;simp only[kY,uD,ky,kv];omega
theorem V15.mem {s:Scan} (v:V15 s):∀r∈s.Rings,UP r:=λr hr=>by
 obtain⟨i,hi,rfl⟩:=List.getElem_of_mem hr;have g:=v.good i hi;unfold rgs at g;rw[ka,kr hi] at g;exact g
theorem qIs (s:Scan) (v:V15 s) (L:Nat->List Int->ByteArray->Int->Option (List Int×ByteArray))
  (h0:∀n x l b,x<s.Rings.length->l.length<=1000->b.size<=1000000->L (n+1) l b (x:Int)=L n (l++[(rgs s x).Z]) (b++bOf (encI (nums (rgs s x).Read))) ((x+1:Nat):Int))
  (h1:∀n l b,L (n+1) l b (s.Rings.length:Int)=some (l,b)):L FUEL [] (ByteArray.mk #[]) 0=some (zsS s,bOf (encR s.Rings)):=by
 have v24:=v.many;have k:=CA s.Rings.length (λn (t:List Int×ByteArray) i=>L n t.1 t.2 i) (λx t=>(t.1++[(rgs s x).Z],t.2++bOf (encI (nums (rgs s x).Read)))) (λt=>t) (λx t=>t=(((s.Rings.take x).map λr=>r.Z),bOf (encR (s.Rings.take x)))) 0 (by omega) (by omega) (λn x t hx hi=>by
   subst hi;refine⟨h0 n x _ _ hx (by simp only[uV,kZ];omega) (by
    have:=qIq (l:=s.Rings.take x) (λr hr=>v.mem r (List.mem_of_mem_take hr));rw[jA];have e:(s.Rings.take x).length<=x:=by rw[kZ];omega
    omega),?_⟩
   have e:s.Rings[x]=rgs s x:=by unfold rgs;rw[ka,kr hx];rfl
   unfold encR;rw[List.take_succ_eq_append_getElem hx,e];simp only[uL,kY,uX,gh,uD,List.flatten_nil,uU,YP]) (λn t _=>h1 n t.1 t.2) ([],ByteArray.mk #[]) (by simp[encR,bOf])
 obtain⟨k1,k2⟩:=k;rw[k2,List.take_length] at k1;exact k1
def qC1 (s:Scan):ByteArray×Int:=if WA s≠0 then(ByteArray.mk #[],WA s) else(bOf (enc15 s),0)
theorem qKh (s:Scan):yL s=some (qC1 s)/\KR s=some (qC1 s):=by
 unfold yL KR qC1;rw[qH9,qFB];simp only[ki];by_cases hc:¬WA s=0
 ·rw[show(WA s !=0)=true from uv.2 hc,if_pos hc];exact⟨rfl,rfl⟩
 have hc:WA s=0:=Classical.not_not.1 hc;have v:=(qD7 s).1 hc;have v24:=v.many;have d64:=(PN _).1 v.def13;have dl:=qKM s.Defects;have dok:=(qKk d64.2).ok;have zl:(zsS s).length=s.Rings.length:=by simp[zsS]
 have a1:=HV (qHa v).ok (by omega);have a2:=qIq v.mem;have a3:=HV dok (by omega);rw[hc,if_neg (by simp)];simp only[kM,ks];rw[qIs s v (λn l b i=>jJ s n l b i) (λn x l b hx hl hb=>by
   have g:=v.good x hx;have g2:=OB (rgs s x).Read;have g3:=g.hi;have g4:=HV (SC g).ok (by omega);show jJ s (n+1) l b (x:Int)=_;rw[jJ,kf (by omega),zL (by omega),kB,jK (by omega),show s.Rings.getD x dd=rgs s x from rfl,qLr _ (by omega)];simp only[kq,ki];rw[(LO (SC g).ok (by omega)).1];simp only[ki];rw[show wD b (bOf (encI (nums (rgs s x).Read)))=true by unfold wD;rw[jA];exact kf (by omega),wL (by omega)];rfl) (λn l b=>by
   show jJ s (n+1) l b _=_;rw[jJ,ke (by omega)];rfl),
  qIs s v (λn l b i=>wS s n l b i) (λn x l b hx hl hb=>by
   have g:=v.good x hx;have g2:=OB (rgs s x).Read;have g3:=g.hi;have g4:=HV (SC g).ok (by omega);show wS s (n+1) l b (x:Int)=_;rw[wS,kf (by omega),zL (by omega),kB,jK (by omega),show s.Rings.getD x dd=rgs s x from rfl,qLy _ (by omega)];simp only[kq,ki];rw[(LO (SC g).ok (by omega)).2];simp only[ki];rw[show wD b (bOf (encI (nums (rgs s x).Read)))=true by unfold wD;rw[jA];exact kf (by omega),wL (by omega)];rfl) (λn l b=>by
   show wS s (n+1) l b _=_;rw[wS,ke (by omega)];rfl)]
 simp only[ki];rw[(LO (qHa v).ok (by omega)).1,(LO (qHa v).ok (by omega)).2,qKo s (by omega)];simp only[ki];rw[show wD (bOf (encI (zsS s))) (bOf (encR s.Rings))=true by unfold wD;rw[jA,jA];exact kf (by omega),qLo _ (by omega)];simp only[kq,ki];rw[(LO dok (by omega)).1,(LO dok (by omega)).2];simp only[ki];rw[<-YP,show wD (bOf (encI (zsS s)++encR s.Rings)) (bOf (encI (LJ s.Defects)))=true by unfold wD;rw[jA,jA,ky];exact kf (by omega),<-YP];exact⟨rfl,rfl⟩
def numF (l:List Nat) (p:Nat):Nat->Nat->Nat->(Int⊕(Nat×Nat))
 |0,_,_=> .inl 5
 |f+1,i,v=>
  if l.length<=p+i then .inl 3
  else if i=9/\1<l.getD (p+i) 0 then .inl 5
  else if 128<=l.getD (p+i) 0 then numF l p f (i+1) (v+(l.getD (p+i) 0-128)*128^i)
  else if l.getD (p+i) 0=0/\0<i then .inl 5
  else .inr (v+l.getD (p+i) 0*128^i,p+i+1)
def num (l:List Nat) (p:Nat):Int⊕(Nat×Nat):=numF l p 10 0 0
def resP :Int⊕(Nat×Nat)->Int×Int×Int
 | .inl e=>(0,0,e)
 | .inr (v,q)=>((v:Int),(q:Int),0)
def resQ (p:Int):Int⊕(Nat×Nat)->Int×Int×Int
 | .inl e=>(0,p,e)
 | .inr (v,q)=>((v:Int),(q:Int),0)
theorem qGY {i v d:Nat} (hi:i<=9) (hv:v<128^i) (hd:d<128) (h9:i=9->d<=1):d*128^i+v<18446744073709551616/\(i<9->v+d*128^i<128^(i+1)):=by
 rcases(show i=0\/i=1\/i=2\/i=3\/i=4\/i=5\/i=6\/i=7\/i=8\/i=9 by omega) with rfl|rfl|rfl|rfl|rfl|rfl|rfl|rfl|rfl|rfl<;>omega
theorem qLc {i:Nat} (hi:i<=9):128^i<18446744073709551616:=by
 rcases(show i=0\/i=1\/i=2\/i=3\/i=4\/i=5\/i=6\/i=7\/i=8\/i=9 by omega) with rfl|rfl|rfl|rfl|rfl|rfl|rfl|rfl|rfl|rfl<;>decide
theorem and127 {b:Nat} (h:b<256):andI .u8 (b:Int) 127=((b % 128:Nat):Int):=by
 have k:∀y:_root_.Fin 256,andI .u8 (y.1:Int) 127=((y.1 % 128:Nat):Int):=by decide+kernel
 exact k ⟨b,h⟩
theorem shlP {d i:Nat} (hi:i<=9) (h:d*128^i<18446744073709551616):shlI .u64 (d:Int) (((7*i:Nat):Int))=((d*128^i:Nat):Int):=by
 unfold shlI;rw[kB,show IntKind.u64.bits=64 from rfl,show min (7*i) 64=7*i by omega,Int.pow_mul,show(2:Int)^7=((128:Nat):Int) from rfl,<-Int.natCast_pow,<-Int.natCast_mul,u64w (by omega) (by omega)]
theorem orP {i v d:Nat} (hv:v<128^i) (h:d*128^i+v<18446744073709551616):orI .u64 (v:Int) ((d*128^i:Nat):Int)=((v+d*128^i:Nat):Int):=by
 unfold orI;show IntKind.u64.wrap (((BitVec.ofInt 64 (v:Int)|||BitVec.ofInt 64 ((d*128^i:Nat):Int)).toNat:Nat):Int)=_;rw[BitVec.toNat_or,BitVec.ofInt_natCast,BitVec.ofInt_natCast,BitVec.toNat_ofNat,BitVec.toNat_ofNat,uH (by omega),uH (by omega)];have e2:(128:Nat)^i=2^(7*i):=by rw[Nat.pow_mul]
 have e:v|||d*128^i=v+d*128^i:=by
  rw[Nat.or_comm,e2,uz d,<-Nat.two_pow_add_eq_or_of_lt (by rw[<-e2];exact hv),Nat.add_comm]
 rw[e,u64w (by omega) (by omega)]
theorem wX (s:ByteArray) (k:Nat):(bl s).getD k 0<256:=by
 by_cases h:k<(bl s).length
 ·rw[ka,kr h];exact bl_lt s _ (uB h)
 ·rw[ka,List.getElem?_eq_none (by omega)];decide
theorem qHe (s:ByteArray) (at_ e:Int) (p:Nat) (hs:(bl s).length<=1000000) (hp:p<=1000000):∀(f i v n:Nat),f+1+i=10->v<128^i->f+1<n->
  zQ (p:Int) (qF.mk s at_ e) n (v:Int) (i:Int)=some (.inl (resP (numF (bl s) p (f+1) i v)))
 |f,i,v,0,_,_,hn=>by omega
 |f,i,v,n+1,hf,hv,hn=>by
  have hb:=wX s (p+i);rw[zQ,numF,wF (n:=(p:Int)+i) (by omega),show(p:Int)+(i:Int)=((p+i:Nat):Int) by omega,kB,OK];simp only;rw[IL];generalize hbb:(bl s).getD (p+i) 0=b at hb⊢;by_cases hsz:(bl s).length<=p+i
  ·rw[kf (show((p+i:Nat):Int)≥((bl s).length:Int) by omega),if_pos hsz];rfl
  rw[ke (show¬((p+i:Nat):Int)≥((bl s).length:Int) by omega),if_neg hsz,zL (by omega)];simp only[kq,ks];have core:¬(i=9/\1<b)->jG (p:Int) (qF.mk s at_ e) (v:Int) (i:Int) (zQ (p:Int) (qF.mk s at_ e) n) false=some (.inl (resP (if 128<=b then numF (bl s) p f (i+1) (v+(b-128)*128^i) else if b=0/\0<i then .inl 5 else .inr (v+b*128^i,p+i+1)))):=λh9=>by
   unfold jG yS;simp only[ks];rw[wF (n:=(p:Int)+i) (by omega),show(p:Int)+(i:Int)=((p+i:Nat):Int) by omega,kB,OK,hbb,wF (n:=7*(i:Int)) (by omega),show 7*(i:Int)=((7*i:Nat):Int) by omega,show nneg (((7*i:Nat):Int))=true from kf (by omega),and127 hb,u64w (by omega) (by omega),wF (n:=((p+i:Nat):Int)+1) (by omega)];have pb:=qGY (i:=i) (v:=v) (d:=b % 128) (by omega) hv (by omega) (λh=>by omega);rw[shlP (by omega) (by omega),orP hv pb.1];simp only[kq];by_cases h1:128<=b
   ·rw[kf (show(b:Int)≥128 by omega),if_pos h1,wL (by omega)];obtain⟨f',rfl⟩:∃f',f=f'+1:=⟨f-1,by omega⟩
    have e1:b % 128=b-128:=by omega
    rw[e1] at pb⊢;exact qHe s at_ e p hs hp f' (i+1) _ n (by omega) (pb.2 (by omega)) (by omega)
   ·have e1:b % 128=b:=by omega
    rw[ke (show¬(b:Int)≥128 by omega),if_neg h1,e1];simp only[ks];by_cases h2:b=0
    ·subst h2;rw[show(((0:Nat):Int)==0)=true from rfl];by_cases h3:0<i
     ·rw[kf (show(i:Int)>0 by omega),if_pos ⟨rfl,h3⟩];rfl
     ·rw[ke (show¬(i:Int)>0 by omega),if_neg (λq=>h3 q.2)];rfl
    ·rw[show(((b:Nat):Int)==0)=false from kV.2 (by omega),if_neg (λq=>h2 q.1)];rfl
  by_cases h9:i=9
  ·rw[show(((i:Nat):Int)==9)=true by rw[h9];rfl];by_cases h1:1<b
   ·rw[kf (show(b:Int)>1 by omega),if_pos ⟨h9,h1⟩];rfl
   ·rw[ke (show¬(b:Int)>1 by omega),if_neg (λq=>h1 q.2)];simp only[kq];exact core (λq=>h1 q.2)
  ·rw[show(((i:Nat):Int)==9)=false from kV.2 (by omega),if_neg (λq=>h9 q.1)];simp only[ks];exact core (λq=>h9 q.1)
theorem qFJ (s:ByteArray) (at_ e:Int) (p:Nat) (hs:(bl s).length<=1000000) (hp:p<=1000000):jH (p:Int) (qF.mk s at_ e)=some (resP (num (bl s) p)):=by
 unfold jH;have k:=qHe s at_ e p hs hp 9 0 0 FUEL (by omega) (by omega) (by rw[jF];omega);rw[show((0:Nat):Int)=0 from rfl] at k;rw[k];rfl
theorem qFI (s:ByteArray) (p:Nat) (hs:(bl s).length<=1000000) (hp:p<=1000000):∀(f i v n:Nat),f+1+i=10->v<128^i->f+1<n->
  wU s (p:Int) n (v:Int) ((128^i:Nat):Int) (i:Int)=some (.inl (resQ (p:Int) (numF (bl s) p (f+1) i v)))
 |f,i,v,0,_,_,hn=>by omega
 |f,i,v,n+1,hf,hv,hn=>by
  have hb:=wX s (p+i);rw[wU,numF,kf (show(i:Int)<10 by omega),wF (n:=(p:Int)+i) (by omega),show(p:Int)+(i:Int)=((p+i:Nat):Int) by omega,kB,OK,IL];generalize hbb:(bl s).getD (p+i) 0=b at hb⊢;simp only[kq];by_cases hsz:(bl s).length<=p+i
  ·rw[kf (show((p+i:Nat):Int)≥((bl s).length:Int) by omega),if_pos hsz];rfl
  rw[ke (show¬((p+i:Nat):Int)≥((bl s).length:Int) by omega),if_neg hsz,zL (by omega),u64w (n:=(b:Int)) (by omega) (by omega)];simp only[kq,ks];have core:¬(i=9/\1<b)->WO s (p:Int) (v:Int) ((128^i:Nat):Int) (i:Int) (wU s (p:Int) n) false=some (.inl (resQ (p:Int) (if 128<=b then numF (bl s) p f (i+1) (v+(b-128)*128^i) else if b=0/\0<i then .inl 5 else .inr (v+b*128^i,p+i+1)))):=λh9=>by
   have pb:=qGY (i:=i) (v:=v) (d:=b % 128) (by omega) hv (by omega) (λh=>by omega);have p64:=qLc (i:=i) (by omega);unfold WO XX;simp only[ks];rw[wF (n:=(p:Int)+i) (by omega),show(p:Int)+(i:Int)=((p+i:Nat):Int) by omega,kB,OK,hbb,u64w (n:=(b:Int)) (by omega) (by omega),wF (n:=((p+i:Nat):Int)+1) (by omega),show Int.tmod (b:Int) 128=((b % 128:Nat):Int) by rw[uN (by omega)];omega,<-Int.natCast_mul,u64w (n:=((b % 128*128^i:Nat):Int)) (by omega) (by omega),<-Int.natCast_add,u64w (n:=((v+b % 128*128^i:Nat):Int)) (by omega) (by omega)];by_cases h1:128<=b
   ·rw[ke (show¬(b:Int)<128 by omega),if_pos h1,wL (by omega)];obtain⟨f',rfl⟩:∃f',f=f'+1:=⟨f-1,by omega⟩
    have e1:b % 128=b-128:=by omega
    have p65:=qLc (i:=i+1) (by omega);rw[e1] at pb⊢;rw[show((128^i:Nat):Int)*128=((128^(i+1):Nat):Int) by rw[Nat.pow_succ];omega,u64w (n:=((128^(i+1):Nat):Int)) (by omega) (by omega)];exact qFI s p hs hp f' (i+1) _ n (by omega) (pb.2 (by omega)) (by omega)
   ·have e1:b % 128=b:=by omega
    rw[kf (show(b:Int)<128 by omega),if_neg h1,e1];simp only[kq];by_cases h2:b=0
    ·subst h2;rw[show(((0:Nat):Int)==0)=true from rfl];by_cases h3:0<i
     ·rw[kf (show(i:Int)>0 by omega),if_pos ⟨rfl,h3⟩];simp only[kq];rfl
     ·rw[ke (show¬(i:Int)>0 by omega),if_neg (λq=>h3 q.2)];simp only[kq,ks,resQ];rfl
    ·rw[show(((b:Nat):Int)==0)=false from kV.2 (by omega),if_neg (λq=>h2 q.1)];simp only[kq,ks,resQ];rfl
  by_cases h9:i=9
  ·rw[show(((i:Nat):Int)==9)=true by rw[h9];rfl];by_cases h1:1<b
   ·rw[kf (show(b:Int)>1 by omega),if_pos ⟨h9,h1⟩];rfl
   ·rw[ke (show¬(b:Int)>1 by omega),if_neg (λq=>h1 q.2)];simp only[kq];exact core (λq=>h1 q.2)
  ·rw[show(((i:Nat):Int)==9)=false from kV.2 (by omega),if_neg (λq=>h9 q.1)];simp only[ks];exact core (λq=>h9 q.1)
theorem qEs (s:ByteArray) (p:Nat) (hs:(bl s).length<=1000000) (hp:p<=1000000):JP s (p:Int)=some (resQ (p:Int) (num (bl s) p)):=by
 unfold JP;have k:=qFI s p hs hp 9 0 0 FUEL (by omega) (by omega) (by rw[jF];omega);rw[show((0:Nat):Int)=0 from rfl,show((128^0:Nat):Int)=1 from rfl] at k;rw[k];rfl
theorem numF_inl {l:List Nat} {p:Nat}:∀{f i v:Nat} {e:Int},numF l p f i v= .inl e->e=3\/e=5
 |0,i,v,e,h=>by cases h;exact .inr rfl
 |f+1,i,v,e,h=>by
  rw[numF] at h;split at h
  ·cases h;exact .inl rfl
  ·split at h
   ·cases h;exact .inr rfl
   ·split at h
    ·exact numF_inl h
    ·split at h
     ·cases h;exact .inr rfl
     ·cases h
theorem qKC {l:List Nat} {x:Nat} (h:x<l.length):l.drop x=l.getD x 0::l.drop (x+1):=wJ l x h
theorem qHm {l:List Nat} {p:Nat} (hl:∀k,l.getD k 0<256):∀{f i v r q:Nat},f+1+i=10->v<128^i->numF l p (f+1) i v= .inr (r,q)->
  ∃w,r=v+w*128^i/\r<18446744073709551616/\q=p+i+(encN w).length/\q<=l.length/\encN w<+:l.drop (p+i)/\(0<i->w≠0)
 |f,i,v,r,q,hf,hv,h=>by
  have hb:=hl (p+i);rw[numF] at h;by_cases hsz:l.length<=p+i
  ·rw[if_pos hsz] at h;cases h
  rw[if_neg hsz] at h;have hd:=qKC (l:=l) (x:=p+i) (by omega);generalize l.getD (p+i) 0=b at hb h hd;by_cases h9:i=9/\1<b
  ·rw[if_pos h9] at h;cases h
  rw[if_neg h9] at h;by_cases h1:128<=b
  ·rw[if_pos h1] at h;obtain⟨f',rfl⟩:∃f',f=f'+1:=⟨f-1,by omega⟩
   have pb:=qGY (i:=i) (v:=v) (d:=b-128) (by omega) hv (by omega) (by omega);obtain⟨w,e1,e2,e3,e4,e5,e6⟩:=qHm hl (f:=f') (by omega) (pb.2 (by omega)) h;have w0:=e6 (by omega);have ee:encN (b-128+128*w)=b::encN w:=by
    rw[qBy (by omega),show 128+(b-128+128*w) % 128=b by omega,show(b-128+128*w)/128=w by omega]
   refine⟨b-128+128*w,?_,e2,?_,e4,?_,λ_=>by omega⟩
   ·rw[e1,Nat.pow_succ,kP,uR]
    congr 2
    rw[uz 128 w,Nat.mul_assoc,uz 128]
   ·rw[ee,kv];omega
   ·rw[ee,hd,List.cons_prefix_cons];exact⟨rfl,by rw[show p+i+1=p+(i+1) by omega];exact e5⟩
  ·rw[if_neg h1] at h;by_cases h2:b=0/\0<i
   ·rw[if_pos h2] at h;cases h
   rw[if_neg h2] at h;cases h;have pb:=qGY (i:=i) (v:=v) (d:=b) (by omega) hv (by omega) (by omega);refine⟨b,rfl,by omega,by rw[LQ (by omega)];rfl,by omega,?_,λh0 hb0=>h2 ⟨hb0,h0⟩⟩;rw[LQ (by omega),hd,List.cons_prefix_cons];exact⟨rfl,List.nil_prefix⟩
theorem num_inr {l:List Nat} {p v q:Nat} (hl:∀k,l.getD k 0<256) (h:num l p= .inr (v,q)):v<18446744073709551616/\q=p+(encN v).length/\q<=l.length/\encN v<+:l.drop p:=by
 obtain⟨w,e1,e2,e3,e4,e5,_⟩:=qHm hl (f:=9) (by omega) (by omega) h;obtain rfl:v=w:=by rw[Nat.pow_zero] at e1;omega
 exact⟨e2,e3,e4,e5⟩
def unzz (v:Nat):Int:=if v % 2=1 then-((v/2:Nat):Int)-1 else((v/2:Nat):Int)
def sg (l:List Nat) (p:Nat) (lo hi:Int):Int⊕(Int×Nat):=match num l p with
 | .inl e=> .inl e
 | .inr (v,q)=>if unzz v<lo\/hi<unzz v then .inl 9 else .inr (unzz v,q)
theorem and1 {v:Nat} (h:v<18446744073709551616):andI .u64 (v:Int) 1=((v % 2:Nat):Int):=by
 unfold andI;show IntKind.u64.wrap (((BitVec.ofInt 64 (v:Int)&&&BitVec.ofInt 64 ((1:Nat):Int)).toNat:Nat):Int)=_;rw[BitVec.toNat_and,BitVec.ofInt_natCast,BitVec.ofInt_natCast,BitVec.toNat_ofNat,BitVec.toNat_ofNat,uH (by omega),uH (by omega),Nat.and_one_is_mod,u64w (by omega) (by omega)]
theorem shr1 (n:Nat):shrI .u64 (n:Int) 1=((n/2:Nat):Int):=by
 unfold shrI;show Int.fdiv (n:Int) 2=_;rw[Int.fdiv_eq_ediv_of_nonneg _ (by omega)];omega
theorem i64w_hi {x:Int} (h1:9223372036854775808<=x) (h2:x<18446744073709551616):IntKind.i64.wrap x=x-18446744073709551616:=by
 show(if(true&&decide (x % 18446744073709551616≥9223372036854775808))=true then x % 18446744073709551616-18446744073709551616 else x % 18446744073709551616)=_;have e:x % 18446744073709551616=x:=Int.emod_eq_of_lt (by omega) h2;rw[if_pos (by rw[Bool.true_and];exact kf (by omega))];omega
theorem noti {n:Nat} (h:n<9223372036854775808):notI .i64 (n:Int)= -(n:Int)-1:=by
 unfold notI xorI;show IntKind.i64.wrap (((BitVec.ofInt 64 (-1)^^^BitVec.ofInt 64 (n:Int)).toNat:Nat):Int)=_;have e1:BitVec.ofInt 64 (-1)=BitVec.allOnes 64:=by decide
 rw[e1,BitVec.xor_comm,BitVec.xor_allOnes,BitVec.toNat_not];have e2:(BitVec.ofInt 64 (n:Int)).toNat=n:=by
  rw[BitVec.ofInt_natCast,BitVec.toNat_ofNat];omega
 rw[e2];rw[i64w_hi (by omega) (by omega)];omega
def sgP :Int⊕(Int×Nat)->Int×Int×Int
 | .inl e=>(0,0,e)
 | .inr (n,q)=>(n,(q:Int),0)
def sgQ (p:Int):Int⊕(Int×Nat)->Int×Int×Int
 | .inl e=>(0,p,e)
 | .inr (n,q)=>(n,(q:Int),0)
theorem inl_ne {l:List Nat} {p:Nat} {e:Int} (h:num l p= .inl e):(e !=0)=true:=by
 rcases numF_inl h with rfl|rfl<;>rfl
theorem qKA (s:ByteArray) (at_ e lo hi:Int) (p:Nat) (hs:(bl s).length<=1000000) (hp:p<=1000000):yQ (p:Int) lo hi (qF.mk s at_ e)=some (sgP (sg (bl s) p lo hi)):=by
 unfold yQ sg;rw[qFJ s at_ e p hs hp];simp only[ki];cases hn:num (bl s) p with
 |inl e'=>simp only[resP];rw[inl_ne hn];rfl
 |inr r=>
  obtain⟨v,q⟩:=r;have hv:=(num_inr (wX s) hn).1;simp only[resP,kM,ks];rw[and1 hv,shr1,wF (n:=((v/2:Nat):Int)) (by omega),noti (by omega)];have fin:∀x:Int,jD lo hi ((v:Int),(q:Int),0) x=some (sgP (if x<lo\/hi<x then .inl 9 else .inr (x,q))):=λx=>by
   unfold jD yW;by_cases h1:x<lo
   ·rw[kf h1,if_pos (.inl h1)];rfl
   ·rw[ke h1];by_cases h2:x>hi
    ·rw[kf h2,if_pos (.inr h2)];rfl
    ·rw[ke h2,if_neg (by omega)];rfl
  by_cases ho:v % 2=1
  ·rw[show(((v % 2:Nat):Int)==1)=true by rw[ho];rfl];unfold unzz;rw[if_pos ho];exact fin _
  ·rw[show(((v % 2:Nat):Int)==1)=false from kV.2 (by omega)];unfold unzz;rw[if_neg ho];exact fin _
theorem qJZ (s:ByteArray) (lo hi:Int) (p:Nat) (hs:(bl s).length<=1000000) (hp:p<=1000000):KO s (p:Int) lo hi=some (sgQ (p:Int) (sg (bl s) p lo hi)):=by
 unfold KO sg;rw[qEs s p hs hp];simp only[ki];cases hn:num (bl s) p with
 |inl e'=>simp only[resQ];rw[inl_ne hn];rfl
 |inr r=>
  obtain⟨v,q⟩:=r;have hv:=(num_inr (wX s) hn).1;simp only[resQ,kM,ks];rw[show Int.tmod (v:Int) 2=((v % 2:Nat):Int) by rw[uN (by omega)];omega,show Int.tdiv (v:Int) 2=((v/2:Nat):Int) by rw[Int.tdiv_eq_ediv_of_nonneg (by omega)];omega,u64w (by omega) (by omega),wF (n:=((v/2:Nat):Int)) (by omega),wF (n:=0-((v/2:Nat):Int)) (by omega),wF (by omega),show 0-((v/2:Nat):Int)-1= -((v/2:Nat):Int)-1 by omega];have fin:∀x:Int,WB (p:Int) lo hi ((v:Int),(q:Int),0) x=some (sgQ (p:Int) (if x<lo\/hi<x then .inl 9 else .inr (x,q))):=λx=>by
   unfold WB XV;by_cases h1:x<lo
   ·rw[kf h1,if_pos (.inl h1)];rfl
   ·rw[ke h1];by_cases h2:x>hi
    ·rw[kf h2,if_pos (.inr h2)];rfl
    ·rw[ke h2,if_neg (by omega)];rfl
  by_cases ho:v % 2=1
  ·rw[show(((v % 2:Nat):Int)==1)=true by rw[ho];rfl];unfold unzz;rw[if_pos ho];exact fin _
  ·rw[show(((v % 2:Nat):Int)==1)=false from kV.2 (by omega)];unfold unzz;rw[if_neg ho];exact fin _
theorem qLh {l:List Nat} {p:Nat} {lo hi e:Int} (h:sg l p lo hi= .inl e):(e !=0)=true:=by
 unfold sg at h;cases hn:num l p with
 |inl e'=>rw[hn] at h;cases h;exact inl_ne hn
 |inr r=>
  rw[hn] at h;simp only at h;split at h
  ·cases h;rfl
  ·cases h
theorem sg_q {l:List Nat} {p q:Nat} {lo hi n:Int} (hl:∀k,l.getD k 0<256) (h:sg l p lo hi= .inr (n,q)):q<=l.length:=by
 unfold sg at h;cases hn:num l p with
 |inl e'=>rw[hn] at h;cases h
 |inr r=>
  obtain⟨v,q'⟩:=r;rw[hn] at h;simp only at h;split at h
  ·cases h
  ·cases h;exact(num_inr hl hn).2.2.1
def rdL (l:List Nat) (lo hi:Int):Nat->Nat->List Int->(Int⊕(List Int×Nat))
 |0,p,acc=> .inr (acc,p)
 |k+1,p,acc=>match sg l p lo hi with
  | .inl e=> .inl e
  | .inr (n,q)=>rdL l lo hi k q (acc++[n])
theorem qFL (s:ByteArray) (at_ e lo hi:Int) (cnt:Nat) (z:Int×Int) (hs:(bl s).length<=1000000) (hc:cnt<=1000):∀(k p n:Nat) (acc:List Int),acc.length+k=cnt->p<=1000000->k+1<n->
  ∃r,zG lo hi (qF.mk s at_ e) ((cnt:Int),z) n (p:Int) 0 acc (acc.length:Int)=some r/\(match rdL (bl s) lo hi k p acc with| .inl e=>r.2.1=e/\(e !=0)=true| .inr (t,q)=>r=((q:Int),0,t))
 |0,p,0,acc,_,_,hn=>by omega
 |0,p,n+1,acc,hk,hp,hn=>by
  refine⟨((p:Int),0,acc),?_,rfl⟩;rw[zG,ke (by omega)];rfl
 |k+1,p,0,acc,_,_,hn=>by omega
 |k+1,p,n+1,acc,hk,hp,hn=>by
  rw[zG,kf (by omega),rdL];simp only[kq,wW,uP];rw[qKA s at_ e lo hi p hs hp,jK (by omega)];simp only[kq,ki];rw[u64w (by omega) (by omega)];cases hsg:sg (bl s) p lo hi with
  |inl e'=>
   have he:=qLh hsg;refine⟨(0,e',acc++[0]),?_,rfl,he⟩;obtain⟨n',rfl⟩:∃n',n=n'+1:=⟨n-1,by omega⟩
   simp only[sgP];rw[zG];have hz:(e'==0)=false:=kV.2 (uv.1 he);rw[hz];unfold wW;cases decide ((acc.length:Int)+1<(cnt:Int))<;>rfl
  |inr r=>
   obtain⟨m,q⟩:=r;have hq:=sg_q (wX s) hsg;obtain⟨r,h1,h2⟩:=qFL s at_ e lo hi cnt z hs hc k q n (acc++[m]) (by rw[ky];simp only[kv,kL];omega) (by omega) (by omega);refine⟨r,?_,h2⟩;simp only[sgP];rw[<-h1,ky];simp only[kv,kL];rw[show((acc.length+(0+1):Nat):Int)=(acc.length:Int)+1 by omega]
theorem qEg (s:ByteArray) (at_ e lo hi:Int) (cnt:Nat) (z:Int×Int) (x:qI) (hs:(bl s).length<=1000000) (hc:cnt<=1000):∀(k p n:Nat) (acc:List Int),acc.length+k=cnt->p<=1000000->k+1<n->
  jY (qI.mk s at_ e) lo hi ((cnt:Int),z) n (p:Int) acc x=some (match rdL (bl s) lo hi k p acc with| .inl e=> .inl (qI.mk s at_ e,[])| .inr (t,q)=> .inr ((q:Int),t,x))
 |0,p,0,acc,_,_,hn=>by omega
 |0,p,n+1,acc,hk,hp,hn=>by
  rw[jY,u64w (by omega) (by omega),ke (by omega)];rfl
 |k+1,p,0,acc,_,_,hn=>by omega
 |k+1,p,n+1,acc,hk,hp,hn=>by
  rw[jY,u64w (by omega) (by omega),kf (by omega),rdL];simp only[kq];rw[qJZ s lo hi p hs hp];simp only[ki];cases hsg:sg (bl s) p lo hi with
  |inl e'=>
   have he:=qLh hsg;simp only[sgQ,he,kq,YK,ki]
  |inr r=>
   obtain⟨m,q⟩:=r;have hq:=sg_q (wX s) hsg;simp only[sgQ,kM,ks];rw[jK (by omega)];simp only[kq];exact qEg s at_ e lo hi cnt z x hs hc k q n (acc++[m]) (by rw[ky];simp only[kv,kL];omega) (by omega) (by omega)
def qU (l:List Nat) (m:Nat) (at_:Nat) (e:Int):List Int×Nat×Int:=
 if e≠0 then([],at_,e) else match num l at_ with
  | .inl e=>([],at_,e)
  | .inr (v,q)=>if m<v then([],at_,4) else match rdL l (-1099511627776) 1099511627776 v q [] with
   | .inl e=>([],at_,e)
   | .inr (t,q)=>(t,q,0)
theorem qH0 (s:ByteArray) (m at_:Nat) (e:Int) (hs:(bl s).length<=1000000) (hp:at_<=1000000) (hm:m<=1000):
  ZE (m:Int) (qF.mk s (at_:Int) e)=some ((qU (bl s) m at_ e).1,((qU (bl s) m at_ e).2.1:Int),(qU (bl s) m at_ e).2.2):=by
 unfold ZE YO ZL qU;simp only[ki];by_cases he:e≠0
 ·rw[show(e !=0)=true from uv.2 he,if_pos he];rfl
 have he:e=0:=Classical.not_not.1 he;subst he;rw[if_neg (by simp)];simp only[kM,ks,ZJ];rw[qFJ s _ _ at_ hs hp];simp only[ki];have stop:∀e':Int,(e' !=0)=true->((zG (-1099511627776) 1099511627776 (qF.mk s (at_:Int) 0) ((0:Int),(0:Int),e') FUEL 0 e' [] 0).bind λo23=>
   (yE o23.1 o23.2.1 (qF.mk s (at_:Int) 0)).bind λv25=>bif o23.2.1 !=0 then some (([]:List Int),v25.1,v25.2) else some (o23.2.2,v25.1,v25.2))=some ([],(at_:Int),e'):=λe' h=>by
  rw[show FUEL=4611686018427387903+1 from jF,zG,ke (by simp)];simp only[ks,wW,ki,yE,h,kq]
 cases hn:num (bl s) at_ with
 |inl e'=>
  have h:=inl_ne hn;simp only[resP,h,kq,ki];rw[stop e' h];rfl
 |inr r=>
  obtain⟨v,q⟩:=r;obtain⟨hv,_,hq,_⟩:=num_inr (wX s) hn;have um:IntKind.u64.wrap (m:Int)=m:=u64w (by omega) (by omega);unfold yK;rw[show(resP (Sum.inr (v,q))).2.2=0 from rfl,ke (show¬(m:Int)<0 by omega)];simp only[kM,ks];by_cases hmv:m<v
  ·rw[kf (show(resP (Sum.inr (v,q))).1>IntKind.u64.wrap (m:Int) by rw[um];show(m:Int)<(v:Int);omega),if_pos hmv];simp only[kq,ki];rw[stop 4 rfl];rfl
  ·rw[ke (show¬(resP (Sum.inr (v,q))).1>IntKind.u64.wrap (m:Int) by rw[um];show¬(m:Int)<(v:Int);omega),if_neg hmv];simp only[ks,ki,resP];obtain⟨r,h1,h2⟩:=qFL s (at_:Int) 0 (-1099511627776) 1099511627776 v ((q:Int),0) hs (by omega) v q FUEL [] (by simp) (by omega) (by rw[jF];omega);rw[show(([]:List Int).length:Int)=0 from rfl] at h1;rw[h1];simp only[ki];cases hr:rdL (bl s) (-1099511627776) 1099511627776 v q [] with
   |inl e'=>
    rw[hr] at h2;obtain⟨h3,h4⟩:=h2;rw[h3];simp only[yE,h4,kq,ki]
   |inr t=>
    obtain⟨t,q'⟩:=t;rw[hr] at h2;simp only at h2;subst h2;rfl
theorem qHY (s:ByteArray) (m at_:Nat) (e:Int) (hs:(bl s).length<=1000000) (hp:at_<=1000000) (hm:m<=1000):
  yI (qI.mk s (at_:Int) e) (m:Int) (-1099511627776) 1099511627776=some (qI.mk s ((qU (bl s) m at_ e).2.1:Int) (qU (bl s) m at_ e).2.2,(qU (bl s) m at_ e).1):=by
 unfold yI qU;by_cases he:e≠0
 ·rw[show(e !=0)=true from uv.2 he,if_pos he];rfl
 have he:e=0:=Classical.not_not.1 he;subst he;rw[if_neg (by simp)];simp only[kM,ks];rw[qEs s at_ hs hp];simp only[ki];cases hn:num (bl s) at_ with
 |inl e'=>
  have h:=inl_ne hn;simp only[resQ,h,kq,ki,YK]
 |inr r=>
  obtain⟨v,q⟩:=r;obtain⟨hv,_,hq,_⟩:=num_inr (wX s) hn;have um:IntKind.u64.wrap (m:Int)=m:=u64w (by omega) (by omega);unfold WY;rw[show(resQ (at_:Int) (Sum.inr (v,q))).2.2=0 from rfl,ke (show¬(m:Int)<0 by omega)];simp only[kM,ks];by_cases hmv:m<v
  ·rw[kf (show(resQ (at_:Int) (Sum.inr (v,q))).1>IntKind.u64.wrap (m:Int) by rw[um];show(m:Int)<(v:Int);omega),if_pos hmv];rfl
  ·rw[ke (show¬(resQ (at_:Int) (Sum.inr (v,q))).1>IntKind.u64.wrap (m:Int) by rw[um];show¬(m:Int)<(v:Int);omega),if_neg hmv];simp only[ks,resQ];rw[qEg s (at_:Int) 0 (-1099511627776) 1099511627776 v ((q:Int),0) _ hs (by omega) v q FUEL [] (by simp) (by omega) (by rw[jF];omega)];simp only[ki];cases hr:rdL (bl s) (-1099511627776) 1099511627776 v q [] with
   |inl e'=>rfl
   |inr t=>rfl
end Saw
end Go.SL
