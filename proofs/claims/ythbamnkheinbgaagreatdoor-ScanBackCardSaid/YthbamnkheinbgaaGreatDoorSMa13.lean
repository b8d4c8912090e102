/- Wire: scans are written alike. -/
import Derived.Test.YthbamnkheinbgaaGreatDoorSMa12
set_option linter.unusedVariables false
set_option linter.unusedSimpArgs false
namespace Go.SL
namespace Saw
def bnd (l:List Int):Prop:=∀n∈l,-1000000<=n/\n<=1000000
theorem bnd.ok {l:List Int} (h:bnd l):Okl l:=λn hn=>by have:=h n hn;omega
theorem MT {β:Type} (N:Nat) (L:Nat->List Int->Int->Option β) (f:Nat->List Int) (out:List Int->β) (hN:N<=1000000) (hf:∀x,x<N->(f x).length<=7)
  (h0:∀n x l,x<N->l.length<=7*x->L (n+1) l (x:Int)=L n (l++f x) ((x+1:Nat):Int))
  (h1:∀n l,L (n+1) l (N:Int)=some (out l)):L FUEL [] 0=some (out (((List.range N).map f).flatten)):=by
 have h:=EJ N L (λx l=>l++f x) out (λx l=>l=((List.range x).map f).flatten/\l.length<=7*x) 0 (by omega) (by omega) (λn x l hx hi=>⟨h0 n x l hx hi.2,by
   rw[hi.1,List.range_succ,uP,gm];simp,by
   have:=hf x hx;have:=hi.2;rw[kv];omega⟩) (λn l _=>h1 n l) [] ⟨rfl,by simp⟩
 obtain⟨e1,e2⟩:=h;rw[e2.1] at e1;exact e1
theorem NH {α β:Type} [Inhabited α] (l:List α) (f:α->β):(List.range l.length).map (λi=>f (l.getD i dd))=l.map f:=by
 refine List.ext_getElem (by simp) λi h1 h2=>?_;simp only[uV,List.length_range] at h1;simp only[List.getElem_map,List.getElem_range];rw[ka,ks h1];rfl
def numR (x:qC):List Int:=bif x.Ok then[1,x.P.X,x.P.Y] else[0]
def nums (l:List qC):List Int:=(l.map numR).flatten
def numD (d:qI):List Int:=[d.Kind,d.Box.X.A,d.Box.X.B,d.Box.Y.A,d.Box.Y.B,d.Box.Z.A,d.Box.Z.B]
def yR (l:List qI):List Int:=(l.map numD).flatten
theorem qBw (x:qC):(numR x).length<=3:=by unfold numR;cases x.Ok<;>simp
theorem GB (l:List qC):(nums l).length<=3*l.length:=by
 induction l with
 |nil=>simp[nums]
 |cons x l ih=>
  have:=qBw x;unfold nums at ih⊢;simp only[kV,uI,kv,kw];omega
theorem qAh (l:List qI):(yR l).length=7*l.length:=by
 induction l with
 |nil=>simp[yR]
 |cons x l ih=>
  unfold yR at ih⊢;simp only[kV,uI,kv,kw,ih,numD,kN];omega
theorem qJD (l:List qC) (h:l.length<=1000000):QE l=some (nums l):=by
 unfold QE;rw[MT l.length (zP l) (λi=>numR (l.getD i dd)) id h (λx _=>by have:=qBw (l.getD x dd);omega) (λn x t hx ht=>by
  rw[zP,kg (by omega),zD (by omega),kB];simp only[kp,QL,wF (show x<4611686018427387904 by omega),numR];cases (l.getD x dd).Ok with
  |true=>rw[jC (by omega)];rfl
  |false=>simp only[kq];rw[jC (by omega)];rfl) (λn t=>by rw[zP,kf (by omega)];rfl)]
 rw[NH l numR];rfl
theorem qJv (r:Ring) (h:r.Read.length<=1000000):DY r=some (nums r.Read):=by
 unfold DY;rw[MT r.Read.length (yG r) (λi=>numR (r.Read.getD i dd)) id h (λx _=>by have:=qBw (r.Read.getD x dd);omega) (λn x t hx ht=>by
  rw[yG,kg (by omega),zD (by omega),kB];simp only[kp,RB,wF (show x<4611686018427387904 by omega),numR];cases (r.Read.getD x dd).Ok with
  |true=>rw[jC (by omega)];rfl
  |false=>simp only[kq];rw[jC (by omega)];rfl) (λn t=>by rw[yG,kf (by omega)];rfl)]
 rw[NH r.Read numR];rfl
theorem qJG (l:List qI) (h:l.length<=1000000):ZC l=some (yR l):=by
 unfold ZC;rw[MT l.length (wP l) (λi=>numD (l.getD i dd)) id h (λx _=>by simp[numD]) (λn x t hx ht=>by
  rw[wP,kg (by omega),zD (by omega),kB,jC (by omega),wF (by omega)];rfl) (λn t=>by rw[wP,kf (by omega)];rfl)]
 rw[NH l numD];rfl
theorem qIA (s:Scan) (h:s.Defects.length<=1000000):yQ s FUEL [] 0=some (yR s.Defects):=by
 rw[MT s.Defects.length (yQ s) (λi=>numD (s.Defects.getD i dd)) id h (λx _=>by simp[numD]) (λn x t hx ht=>by
  rw[yQ,kg (by omega),zD (by omega),kB,jC (by omega),wF (by omega)];rfl) (λn t=>by rw[yQ,kf (by omega)];rfl)]
 rw[NH s.Defects numD];rfl
theorem RN {r:Ring} (g:YO r):bnd (nums r.Read):=by
 intro n hn;unfold nums at hn;obtain⟨t,ht,hm⟩:=List.mem_flatten.1 hn;obtain⟨x,hx,rfl⟩:=uD.1 ht;have h:=g.all x hx;unfold WC at h;unfold numR at hm;cases ho:x.Ok with
 |false=>rw[ho] at hm;simp at hm;omega
 |true=>
  rw[ho] at hm h;cases hr:JH x.P with
  |false=>rw[hr] at h;exact absurd h (show¬((9:Int)=0) by decide)
  |true=>
   unfold JH at hr;simp only[ko,decide_eq_true_eq] at hr;simp only[kp,uo,List.not_mem_nil,or_false] at hm;omega
theorem CY {l:List qI} (h:∀d∈l,VD d):bnd (yR l):=by
 intro n hn;unfold yR at hn;obtain⟨t,ht,hm⟩:=List.mem_flatten.1 hn;obtain⟨d,hd,rfl⟩:=uD.1 ht;have v:=h d hd;have k1:=v.k1;have k2:=v.k2;have x:=v.x;have y:=v.y;have z:=v.z;simp only[numD,uo,List.not_mem_nil,or_false] at hm;omega
theorem RG {l:List Int} (h:Okl l) (hl:l.length<=1000000):(encI l).length<=10+10*l.length:=by
 have a:=(DP (v:=l.length) (by omega)).1;have b:=qBy h;unfold encI;rw[kv];omega
def zsS (s:Scan):List Int:=s.Rings.map (λr=>r.Z)
def encR (l:List Ring):List Nat:=(l.map λr=>encI (nums r.Read)).flatten
def enc15 (s:Scan):List Nat:=encI (zsS s)++encR s.Rings++encI (yR s.Defects)
theorem SH {s:Scan} (v:V15 s):bnd (zsS s):=by
 intro n hn;obtain⟨r,hr,rfl⟩:=uD.1 hn;obtain⟨i,hi,rfl⟩:=List.getElem_of_mem hr;have g:=v.good i hi;unfold rgs at g;rw[ka,ks hi] at g;have a:0<=s.Rings[i].Z:=g.z0;have b:s.Rings[i].Z<=20000:=g.z1;exact⟨by omega,by omega⟩
theorem qBd {l:List Ring} (h:∀r∈l,YO r):(encR l).length<=1000*l.length:=by
 induction l with
 |nil=>simp[encR]
 |cons r l ih=>
  have g:=h r (kO ..);have a:=RG (RN g).ok (by have:=GB r.Read;have:=g.hi;omega);have b:=GB r.Read;have c:=g.hi;have d:=ih (λx hx=>h x (kL _ hx));unfold encR at d⊢;simp only[kV,uI,kv,kw];omega
theorem V15.mem {s:Scan} (v:V15 s):∀r∈s.Rings,YO r:=λr hr=>by
 obtain⟨i,hi,rfl⟩:=List.getElem_of_mem hr;have g:=v.good i hi;unfold rgs at g;rw[ka,ks hi] at g;exact g
theorem qGE (s:Scan) (v:V15 s) (L:Nat->List Int->ByteArray->Int->Option (List Int×ByteArray))
  (h0:∀n x l b,x<s.Rings.length->l.length<=1000->b.size<=1000000->L (n+1) l b (x:Int)=L n (l++[(rgs s x).Z]) (b++bOf (encI (nums (rgs s x).Read))) ((x+1:Nat):Int))
  (h1:∀n l b,L (n+1) l b (s.Rings.length:Int)=some (l,b)):L FUEL [] (ByteArray.mk #[]) 0=some (zsS s,bOf (encR s.Rings)):=by
 have v24:=v.many;have k:=EJ s.Rings.length (λn (t:List Int×ByteArray) i=>L n t.1 t.2 i) (λx t=>(t.1++[(rgs s x).Z],t.2++bOf (encI (nums (rgs s x).Read)))) (λt=>t) (λx t=>t=(((s.Rings.take x).map λr=>r.Z),bOf (encR (s.Rings.take x)))) 0 (by omega) (by omega) (λn x t hx hi=>by
   subst hi;refine⟨h0 n x _ _ hx (by simp only[uV,ub];omega) (by
    have:=qBd (l:=s.Rings.take x) (λr hr=>v.mem r (List.mem_of_mem_take hr));rw[wT];have e:(s.Rings.take x).length<=x:=by rw[ub];omega
    omega),?_⟩
   have e:s.Rings[x]=rgs s x:=by unfold rgs;rw[ka,ks hx];rfl
   unfold encR;rw[List.take_succ_eq_append_getElem hx,e];simp only[uP,kV,uY,gm,uI,List.flatten_nil,uU,JS]) (λn t _=>h1 n t.1 t.2) ([],ByteArray.mk #[]) (by simp[encR,bOf])
 obtain⟨k1,k2⟩:=k;rw[k2,List.take_length] at k1;exact k1
def FC (s:Scan):ByteArray×Int:=if yK s≠0 then(ByteArray.mk #[],yK s) else(bOf (enc15 s),0)
theorem qEd (s:Scan):jH s=some (FC s)/\OH s=some (FC s):=by
 unfold jH OH FC;rw[qBF,qD9];simp only[ke];by_cases hc:¬yK s=0
 ·rw[show(yK s !=0)=true from ui.2 hc,if_pos hc];exact⟨rfl,rfl⟩
 have hc:yK s=0:=Classical.not_not.1 hc;have v:=(AZ s).1 hc;have v24:=v.many;have d64:=(JT _).1 v.def13;have dl:=qAh s.Defects;have dok:=(CY d64.2).ok;have zl:(zsS s).length=s.Rings.length:=by simp[zsS]
 have a1:=RG (SH v).ok (by omega);have a2:=qBd v.mem;have a3:=RG dok (by omega);rw[hc,if_neg (by simp)];simp only[kJ,kq];rw[qGE s v (λn l b i=>wW s n l b i) (λn x l b hx hl hb=>by
   have g:=v.good x hx;have g2:=GB (rgs s x).Read;have g3:=g.hi;have g4:=RG (RN g).ok (by omega);show wW s (n+1) l b (x:Int)=_;rw[wW,kg (by omega),zD (by omega),kB,jC (by omega),show s.Rings.getD x dd=rgs s x from rfl,qJD _ (by omega)];simp only[kp,ke];rw[(NN (RN g).ok (by omega)).1];simp only[ke];rw[show wA b (bOf (encI (nums (rgs s x).Read)))=true by unfold wA;rw[wT];exact kg (by omega),wF (by omega)];rfl) (λn l b=>by
   show wW s (n+1) l b _=_;rw[wW,kf (by omega)];rfl),
  qGE s v (λn l b i=>jK s n l b i) (λn x l b hx hl hb=>by
   have g:=v.good x hx;have g2:=GB (rgs s x).Read;have g3:=g.hi;have g4:=RG (RN g).ok (by omega);show jK s (n+1) l b (x:Int)=_;rw[jK,kg (by omega),zD (by omega),kB,jC (by omega),show s.Rings.getD x dd=rgs s x from rfl,qJv _ (by omega)];simp only[kp,ke];rw[(NN (RN g).ok (by omega)).2];simp only[ke];rw[show wA b (bOf (encI (nums (rgs s x).Read)))=true by unfold wA;rw[wT];exact kg (by omega),wF (by omega)];rfl) (λn l b=>by
   show jK s (n+1) l b _=_;rw[jK,kf (by omega)];rfl)]
 simp only[ke];rw[(NN (SH v).ok (by omega)).1,(NN (SH v).ok (by omega)).2,qIA s (by omega)];simp only[ke];rw[show wA (bOf (encI (zsS s))) (bOf (encR s.Rings))=true by unfold wA;rw[wT,wT];exact kg (by omega),qJG _ (by omega)];simp only[kp,ke];rw[(NN dok (by omega)).1,(NN dok (by omega)).2];simp only[ke];rw[<-JS,show wA (bOf (encI (zsS s)++encR s.Rings)) (bOf (encI (yR s.Defects)))=true by unfold wA;rw[wT,wT,kv];exact kg (by omega),<-JS];exact⟨rfl,rfl⟩
def numF (l:List Nat) (p:Nat):Nat->Nat->Nat->(Int⊕(Nat×Nat))
 |0,_,_=> .inl 5
 |f+1,i,v=>
  if l.length<=p+i then .inl 3
  else if i=9/\1<l.getD (p+i) 0 then .inl 5
  else if 128<=l.getD (p+i) 0 then numF l p f (i+1) (v+(l.getD (p+i) 0-128)*128^i)
  else if l.getD (p+i) 0=0/\0<i then .inl 5
  else .inr (v+l.getD (p+i) 0*128^i,p+i+1)
def num (l:List Nat) (p:Nat):Int⊕(Nat×Nat):=numF l p 10 0 0
def resP :Int⊕(Nat×Nat)->Int×Int×Int
 | .inl e=>(0,0,e)
 | .inr (v,q)=>((v:Int),(q:Int),0)
def resQ (p:Int):Int⊕(Nat×Nat)->Int×Int×Int
 | .inl e=>(0,p,e)
 | .inr (v,q)=>((v:Int),(q:Int),0)
theorem qER {i v d:Nat} (hi:i<=9) (hv:v<128^i) (hd:d<128) (h9:i=9->d<=1):d*128^i+v<18446744073709551616/\(i<9->v+d*128^i<128^(i+1)):=by
 rcases(show i=0\/i=1\/i=2\/i=3\/i=4\/i=5\/i=6\/i=7\/i=8\/i=9 by omega) with rfl|rfl|rfl|rfl|rfl|rfl|rfl|rfl|rfl|rfl<;>omega
theorem qIu {i:Nat} (hi:i<=9):128^i<18446744073709551616:=by
 rcases(show i=0\/i=1\/i=2\/i=3\/i=4\/i=5\/i=6\/i=7\/i=8\/i=9 by omega) with rfl|rfl|rfl|rfl|rfl|rfl|rfl|rfl|rfl|rfl<;>decide
theorem and127 {b:Nat} (h:b<256):andI .u8 (b:Int) 127=((b % 128:Nat):Int):=by
 have k:∀y:_root_.Fin 256,andI .u8 (y.1:Int) 127=((y.1 % 128:Nat):Int):=by decide+kernel
 exact k ⟨b,h⟩
theorem shlP {d i:Nat} (hi:i<=9) (h:d*128^i<18446744073709551616):shlI .u64 (d:Int) (((7*i:Nat):Int))=((d*128^i:Nat):Int):=by
 unfold shlI;rw[kB,show IntKind.u64.bits=64 from rfl,show min (7*i) 64=7*i by omega,Int.pow_mul,show(2:Int)^7=((128:Nat):Int) from rfl,<-Int.natCast_pow,<-Int.natCast_mul,u64w (by omega) (by omega)]
theorem orP {i v d:Nat} (hv:v<128^i) (h:d*128^i+v<18446744073709551616):orI .u64 (v:Int) ((d*128^i:Nat):Int)=((v+d*128^i:Nat):Int):=by
 unfold orI;show IntKind.u64.wrap (((BitVec.ofInt 64 (v:Int)|||BitVec.ofInt 64 ((d*128^i:Nat):Int)).toNat:Nat):Int)=_;rw[BitVec.toNat_or,BitVec.ofInt_natCast,BitVec.ofInt_natCast,BitVec.toNat_ofNat,BitVec.toNat_ofNat,uM (by omega),uM (by omega)];have e2:(128:Nat)^i=2^(7*i):=by rw[Nat.pow_mul]
 have e:v|||d*128^i=v+d*128^i:=by
  rw[Nat.or_comm,e2,ur d,<-Nat.two_pow_add_eq_or_of_lt (by rw[<-e2];exact hv),Nat.add_comm]
 rw[e,u64w (by omega) (by omega)]
theorem wJ (s:ByteArray) (k:Nat):(bl s).getD k 0<256:=by
 by_cases h:k<(bl s).length
 ·rw[ka,ks h];exact bl_lt s _ (uF h)
 ·rw[ka,List.getElem?_eq_none (by omega)];decide
theorem qFe (s:ByteArray) (at_ e:Int) (p:Nat) (hs:(bl s).length<=1000000) (hp:p<=1000000):∀(f i v n:Nat),f+1+i=10->v<128^i->f+1<n->
  zL (p:Int) (qD.mk s at_ e) n (v:Int) (i:Int)=some (.inl (resP (numF (bl s) p (f+1) i v)))
 |f,i,v,0,_,_,hn=>by omega
 |f,i,v,n+1,hf,hv,hn=>by
  have hb:=wJ s (p+i);rw[zL,numF,wB (n:=(p:Int)+i) (by omega),show(p:Int)+(i:Int)=((p+i:Nat):Int) by omega,kB,AR];simp only;rw[SG];generalize hbb:(bl s).getD (p+i) 0=b at hb⊢;by_cases hsz:(bl s).length<=p+i
  ·rw[kg (show((p+i:Nat):Int)≥((bl s).length:Int) by omega),if_pos hsz];rfl
  rw[kf (show¬((p+i:Nat):Int)≥((bl s).length:Int) by omega),if_neg hsz,zD (by omega)];simp only[kp,kq];have core:¬(i=9/\1<b)->wZ (p:Int) (qD.mk s at_ e) (v:Int) (i:Int) (zL (p:Int) (qD.mk s at_ e) n) false=some (.inl (resP (if 128<=b then numF (bl s) p f (i+1) (v+(b-128)*128^i) else if b=0/\0<i then .inl 5 else .inr (v+b*128^i,p+i+1)))):=λh9=>by
   unfold wZ yP;simp only[kq];rw[wB (n:=(p:Int)+i) (by omega),show(p:Int)+(i:Int)=((p+i:Nat):Int) by omega,kB,AR,hbb,wB (n:=7*(i:Int)) (by omega),show 7*(i:Int)=((7*i:Nat):Int) by omega,show nneg (((7*i:Nat):Int))=true from kg (by omega),and127 hb,u64w (by omega) (by omega),wB (n:=((p+i:Nat):Int)+1) (by omega)];have pb:=qER (i:=i) (v:=v) (d:=b % 128) (by omega) hv (by omega) (λh=>by omega);rw[shlP (by omega) (by omega),orP hv pb.1];simp only[kp];by_cases h1:128<=b
   ·rw[kg (show(b:Int)≥128 by omega),if_pos h1,wF (by omega)];obtain⟨f',rfl⟩:∃f',f=f'+1:=⟨f-1,by omega⟩
    have e1:b % 128=b-128:=by omega
    rw[e1] at pb⊢;exact qFe s at_ e p hs hp f' (i+1) _ n (by omega) (pb.2 (by omega)) (by omega)
   ·have e1:b % 128=b:=by omega
    rw[kf (show¬(b:Int)≥128 by omega),if_neg h1,e1];simp only[kq];by_cases h2:b=0
    ·subst h2;rw[show(((0:Nat):Int)==0)=true from rfl];by_cases h3:0<i
     ·rw[kg (show(i:Int)>0 by omega),if_pos ⟨rfl,h3⟩];rfl
     ·rw[kf (show¬(i:Int)>0 by omega),if_neg (λq=>h3 q.2)];rfl
    ·rw[show(((b:Nat):Int)==0)=false from kU.2 (by omega),if_neg (λq=>h2 q.1)];rfl
  by_cases h9:i=9
  ·rw[show(((i:Nat):Int)==9)=true by rw[h9];rfl];by_cases h1:1<b
   ·rw[kg (show(b:Int)>1 by omega),if_pos ⟨h9,h1⟩];rfl
   ·rw[kf (show¬(b:Int)>1 by omega),if_neg (λq=>h1 q.2)];simp only[kp];exact core (λq=>h1 q.2)
  ·rw[show(((i:Nat):Int)==9)=false from kU.2 (by omega),if_neg (λq=>h9 q.1)];simp only[kq];exact core (λq=>h9 q.1)
theorem qD8 (s:ByteArray) (at_ e:Int) (p:Nat) (hs:(bl s).length<=1000000) (hp:p<=1000000):jB (p:Int) (qD.mk s at_ e)=some (resP (num (bl s) p)):=by
 unfold jB;have k:=qFe s at_ e p hs hp 9 0 0 FUEL (by omega) (by omega) (by rw[jA];omega);rw[show((0:Nat):Int)=0 from rfl] at k;rw[k];rfl
theorem qDU (s:ByteArray) (p:Nat) (hs:(bl s).length<=1000000) (hp:p<=1000000):∀(f i v n:Nat),f+1+i=10->v<128^i->f+1<n->
  yV s (p:Int) n (v:Int) ((128^i:Nat):Int) (i:Int)=some (.inl (resQ (p:Int) (numF (bl s) p (f+1) i v)))
 |f,i,v,0,_,_,hn=>by omega
 |f,i,v,n+1,hf,hv,hn=>by
  have hb:=wJ s (p+i);rw[yV,numF,kg (show(i:Int)<10 by omega),wB (n:=(p:Int)+i) (by omega),show(p:Int)+(i:Int)=((p+i:Nat):Int) by omega,kB,AR,SG];generalize hbb:(bl s).getD (p+i) 0=b at hb⊢;simp only[kp];by_cases hsz:(bl s).length<=p+i
  ·rw[kg (show((p+i:Nat):Int)≥((bl s).length:Int) by omega),if_pos hsz];rfl
  rw[kf (show¬((p+i:Nat):Int)≥((bl s).length:Int) by omega),if_neg hsz,zD (by omega),u64w (n:=(b:Int)) (by omega) (by omega)];simp only[kp,kq];have core:¬(i=9/\1<b)->XG s (p:Int) (v:Int) ((128^i:Nat):Int) (i:Int) (yV s (p:Int) n) false=some (.inl (resQ (p:Int) (if 128<=b then numF (bl s) p f (i+1) (v+(b-128)*128^i) else if b=0/\0<i then .inl 5 else .inr (v+b*128^i,p+i+1)))):=λh9=>by
   have pb:=qER (i:=i) (v:=v) (d:=b % 128) (by omega) hv (by omega) (λh=>by omega);have p64:=qIu (i:=i) (by omega);unfold XG UD;simp only[kq];rw[wB (n:=(p:Int)+i) (by omega),show(p:Int)+(i:Int)=((p+i:Nat):Int) by omega,kB,AR,hbb,u64w (n:=(b:Int)) (by omega) (by omega),wB (n:=((p+i:Nat):Int)+1) (by omega),show Int.tmod (b:Int) 128=((b % 128:Nat):Int) by rw[uR (by omega)];omega,<-Int.natCast_mul,u64w (n:=((b % 128*128^i:Nat):Int)) (by omega) (by omega),<-Int.natCast_add,u64w (n:=((v+b % 128*128^i:Nat):Int)) (by omega) (by omega)];by_cases h1:128<=b
   ·rw[kf (show¬(b:Int)<128 by omega),if_pos h1,wF (by omega)];obtain⟨f',rfl⟩:∃f',f=f'+1:=⟨f-1,by omega⟩
    have e1:b % 128=b-128:=by omega
    have p65:=qIu (i:=i+1) (by omega);rw[e1] at pb⊢;rw[show((128^i:Nat):Int)*128=((128^(i+1):Nat):Int) by rw[gc];omega,u64w (n:=((128^(i+1):Nat):Int)) (by omega) (by omega)];exact qDU s p hs hp f' (i+1) _ n (by omega) (pb.2 (by omega)) (by omega)
   ·have e1:b % 128=b:=by omega
    rw[kg (show(b:Int)<128 by omega),if_neg h1,e1];simp only[kp];by_cases h2:b=0
    ·subst h2;rw[show(((0:Nat):Int)==0)=true from rfl];by_cases h3:0<i
     ·rw[kg (show(i:Int)>0 by omega),if_pos ⟨rfl,h3⟩];simp only[kp];rfl
     ·rw[kf (show¬(i:Int)>0 by omega),if_neg (λq=>h3 q.2)];simp only[kp,kq,resQ];rfl
    ·rw[show(((b:Nat):Int)==0)=false from kU.2 (by omega),if_neg (λq=>h2 q.1)];simp only[kp,kq,resQ];rfl
  by_cases h9:i=9
  ·rw[show(((i:Nat):Int)==9)=true by rw[h9];rfl];by_cases h1:1<b
   ·rw[kg (show(b:Int)>1 by omega),if_pos ⟨h9,h1⟩];rfl
   ·rw[kf (show¬(b:Int)>1 by omega),if_neg (λq=>h1 q.2)];simp only[kp];exact core (λq=>h1 q.2)
  ·rw[show(((i:Nat):Int)==9)=false from kU.2 (by omega),if_neg (λq=>h9 q.1)];simp only[kq];exact core (λq=>h9 q.1)
theorem qCX (s:ByteArray) (p:Nat) (hs:(bl s).length<=1000000) (hp:p<=1000000):TX s (p:Int)=some (resQ (p:Int) (num (bl s) p)):=by
 unfold TX;have k:=qDU s p hs hp 9 0 0 FUEL (by omega) (by omega) (by rw[jA];omega);rw[show((0:Nat):Int)=0 from rfl,show((128^0:Nat):Int)=1 from rfl] at k;rw[k];rfl
theorem numF_inl {l:List Nat} {p:Nat}:∀{f i v:Nat} {e:Int},numF l p f i v= .inl e->e=3\/e=5
 |0,i,v,e,h=>by cases h;exact .inr rfl
 |f+1,i,v,e,h=>by
  rw[numF] at h;split at h
  ·cases h;exact .inl rfl
  ·split at h
   ·cases h;exact .inr rfl
   ·split at h
    ·exact numF_inl h
    ·split at h
     ·cases h;exact .inr rfl
     ·cases h
theorem OU {l:List Nat} {x:Nat} (h:x<l.length):l.drop x=l.getD x 0::l.drop (x+1):=wD l x h
theorem qF9 {l:List Nat} {p:Nat} (hl:∀k,l.getD k 0<256):∀{f i v r q:Nat},f+1+i=10->v<128^i->numF l p (f+1) i v= .inr (r,q)->
  ∃w,r=v+w*128^i/\r<18446744073709551616/\q=p+i+(encN w).length/\q<=l.length/\encN w<+:l.drop (p+i)/\(0<i->w≠0)
 |f,i,v,r,q,hf,hv,h=>by
  have hb:=hl (p+i);rw[numF] at h;by_cases hsz:l.length<=p+i
  ·rw[if_pos hsz] at h;cases h
  rw[if_neg hsz] at h;have hd:=OU (l:=l) (x:=p+i) (by omega);generalize l.getD (p+i) 0=b at hb h hd;by_cases h9:i=9/\1<b
  ·rw[if_pos h9] at h;cases h
  rw[if_neg h9] at h;by_cases h1:128<=b
  ·rw[if_pos h1] at h;obtain⟨f',rfl⟩:∃f',f=f'+1:=⟨f-1,by omega⟩
   have pb:=qER (i:=i) (v:=v) (d:=b-128) (by omega) hv (by omega) (by omega);obtain⟨w,e1,e2,e3,e4,e5,e6⟩:=qF9 hl (f:=f') (by omega) (pb.2 (by omega)) h;have w0:=e6 (by omega);have ee:encN (b-128+128*w)=b::encN w:=by
    rw[SS (by omega),show 128+(b-128+128*w) % 128=b by omega,show(b-128+128*w)/128=w by omega]
   refine⟨b-128+128*w,?_,e2,?_,e4,?_,λ_=>by omega⟩
   ·rw[e1,gc,kP,uq]
    congr 2
    rw[ur 128 w,Nat.mul_assoc,ur 128]
   ·rw[ee,kw];omega
   ·rw[ee,hd,ge];exact⟨rfl,by rw[show p+i+1=p+(i+1) by omega];exact e5⟩
  ·rw[if_neg h1] at h;by_cases h2:b=0/\0<i
   ·rw[if_pos h2] at h;cases h
   rw[if_neg h2] at h;cases h;have pb:=qER (i:=i) (v:=v) (d:=b) (by omega) hv (by omega) (by omega);refine⟨b,rfl,by omega,by rw[VI (by omega)];rfl,by omega,?_,λh0 hb0=>h2 ⟨hb0,h0⟩⟩;rw[VI (by omega),hd,ge];exact⟨rfl,List.nil_prefix⟩
theorem num_inr {l:List Nat} {p v q:Nat} (hl:∀k,l.getD k 0<256) (h:num l p= .inr (v,q)):v<18446744073709551616/\q=p+(encN v).length/\q<=l.length/\encN v<+:l.drop p:=by
 obtain⟨w,e1,e2,e3,e4,e5,_⟩:=qF9 hl (f:=9) (by omega) (by omega) h;obtain rfl:v=w:=by rw[Nat.pow_zero] at e1;omega
 exact⟨e2,e3,e4,e5⟩
def unzz (v:Nat):Int:=if v % 2=1 then-((v/2:Nat):Int)-1 else((v/2:Nat):Int)
def sg (l:List Nat) (p:Nat) (lo hi:Int):Int⊕(Int×Nat):=match num l p with
 | .inl e=> .inl e
 | .inr (v,q)=>if unzz v<lo\/hi<unzz v then .inl 9 else .inr (unzz v,q)
theorem and1 {v:Nat} (h:v<18446744073709551616):andI .u64 (v:Int) 1=((v % 2:Nat):Int):=by
 unfold andI;show IntKind.u64.wrap (((BitVec.ofInt 64 (v:Int)&&&BitVec.ofInt 64 ((1:Nat):Int)).toNat:Nat):Int)=_;rw[BitVec.toNat_and,BitVec.ofInt_natCast,BitVec.ofInt_natCast,BitVec.toNat_ofNat,BitVec.toNat_ofNat,uM (by omega),uM (by omega),Nat.and_one_is_mod,u64w (by omega) (by omega)]
theorem shr1 (n:Nat):shrI .u64 (n:Int) 1=((n/2:Nat):Int):=by
 unfold shrI;show Int.fdiv (n:Int) 2=_;rw[Int.fdiv_eq_ediv_of_nonneg _ (by omega)];omega
theorem i64w_hi {x:Int} (h1:9223372036854775808<=x) (h2:x<18446744073709551616):IntKind.i64.wrap x=x-18446744073709551616:=by
 show(if(true&&decide (x % 18446744073709551616≥9223372036854775808))=true then x % 18446744073709551616-18446744073709551616 else x % 18446744073709551616)=_;have e:x % 18446744073709551616=x:=Int.emod_eq_of_lt (by omega) h2;rw[if_pos (by rw[Bool.true_and];exact kg (by omega))];omega
theorem noti {n:Nat} (h:n<9223372036854775808):notI .i64 (n:Int)= -(n:Int)-1:=by
 unfold notI xorI;show IntKind.i64.wrap (((BitVec.ofInt 64 (-1)^^^BitVec.ofInt 64 (n:Int)).toNat:Nat):Int)=_;have e1:BitVec.ofInt 64 (-1)=BitVec.allOnes 64:=by decide
 rw[e1,BitVec.xor_comm,BitVec.xor_allOnes,BitVec.toNat_not];have e2:(BitVec.ofInt 64 (n:Int)).toNat=n:=by
  rw[BitVec.ofInt_natCast,BitVec.toNat_ofNat];omega
 rw[e2];rw[i64w_hi (by omega) (by omega)];omega
def sgP :Int⊕(Int×Nat)->Int×Int×Int
 | .inl e=>(0,0,e)
 | .inr (n,q)=>(n,(q:Int),0)
def sgQ (p:Int):Int⊕(Int×Nat)->Int×Int×Int
 | .inl e=>(0,p,e)
 | .inr (n,q)=>(n,(q:Int),0)
theorem inl_ne {l:List Nat} {p:Nat} {e:Int} (h:num l p= .inl e):(e !=0)=true:=by
 rcases numF_inl h with rfl|rfl<;>rfl
theorem qIK (s:ByteArray) (at_ e lo hi:Int) (p:Nat) (hs:(bl s).length<=1000000) (hp:p<=1000000):yN (p:Int) lo hi (qD.mk s at_ e)=some (sgP (sg (bl s) p lo hi)):=by
 unfold yN sg;rw[qD8 s at_ e p hs hp];simp only[ke];cases hn:num (bl s) p with
 |inl e'=>simp only[resP];rw[inl_ne hn];rfl
 |inr r=>
  obtain⟨v,q⟩:=r;have hv:=(num_inr (wJ s) hn).1;simp only[resP,kJ,kq];rw[and1 hv,shr1,wB (n:=((v/2:Nat):Int)) (by omega),noti (by omega)];have fin:∀x:Int,jD lo hi ((v:Int),(q:Int),0) x=some (sgP (if x<lo\/hi<x then .inl 9 else .inr (x,q))):=λx=>by
   unfold jD yW;by_cases h1:x<lo
   ·rw[kg h1,if_pos (.inl h1)];rfl
   ·rw[kf h1];by_cases h2:x>hi
    ·rw[kg h2,if_pos (.inr h2)];rfl
    ·rw[kf h2,if_neg (by omega)];rfl
  by_cases ho:v % 2=1
  ·rw[show(((v % 2:Nat):Int)==1)=true by rw[ho];rfl];unfold unzz;rw[if_pos ho];exact fin _
  ·rw[show(((v % 2:Nat):Int)==1)=false from kU.2 (by omega)];unfold unzz;rw[if_neg ho];exact fin _
theorem qHE (s:ByteArray) (lo hi:Int) (p:Nat) (hs:(bl s).length<=1000000) (hp:p<=1000000):NS s (p:Int) lo hi=some (sgQ (p:Int) (sg (bl s) p lo hi)):=by
 unfold NS sg;rw[qCX s p hs hp];simp only[ke];cases hn:num (bl s) p with
 |inl e'=>simp only[resQ];rw[inl_ne hn];rfl
 |inr r=>
  obtain⟨v,q⟩:=r;have hv:=(num_inr (wJ s) hn).1;simp only[resQ,kJ,kq];rw[show Int.tmod (v:Int) 2=((v % 2:Nat):Int) by rw[uR (by omega)];omega,show Int.tdiv (v:Int) 2=((v/2:Nat):Int) by rw[Int.tdiv_eq_ediv_of_nonneg (by omega)];omega,u64w (by omega) (by omega),wB (n:=((v/2:Nat):Int)) (by omega),wB (n:=0-((v/2:Nat):Int)) (by omega),wB (by omega),show 0-((v/2:Nat):Int)-1= -((v/2:Nat):Int)-1 by omega];have fin:∀x:Int,YV (p:Int) lo hi ((v:Int),(q:Int),0) x=some (sgQ (p:Int) (if x<lo\/hi<x then .inl 9 else .inr (x,q))):=λx=>by
   unfold YV TT;by_cases h1:x<lo
   ·rw[kg h1,if_pos (.inl h1)];rfl
   ·rw[kf h1];by_cases h2:x>hi
    ·rw[kg h2,if_pos (.inr h2)];rfl
    ·rw[kf h2,if_neg (by omega)];rfl
  by_cases ho:v % 2=1
  ·rw[show(((v % 2:Nat):Int)==1)=true by rw[ho];rfl];unfold unzz;rw[if_pos ho];exact fin _
  ·rw[show(((v % 2:Nat):Int)==1)=false from kU.2 (by omega)];unfold unzz;rw[if_neg ho];exact fin _
theorem sg_inl {l:List Nat} {p:Nat} {lo hi e:Int} (h:sg l p lo hi= .inl e):(e !=0)=true:=by
 unfold sg at h;cases hn:num l p with
 |inl e'=>rw[hn] at h;cases h;exact inl_ne hn
 |inr r=>
  rw[hn] at h;simp only at h;split at h
  ·cases h;rfl
  ·cases h
theorem sg_q {l:List Nat} {p q:Nat} {lo hi n:Int} (hl:∀k,l.getD k 0<256) (h:sg l p lo hi= .inr (n,q)):q<=l.length:=by
 unfold sg at h;cases hn:num l p with
 |inl e'=>rw[hn] at h;cases h
 |inr r=>
  obtain⟨v,q'⟩:=r;rw[hn] at h;simp only at h;split at h
  ·cases h
  ·cases h;exact(num_inr hl hn).2.2.1
def rdL (l:List Nat) (lo hi:Int):Nat->Nat->List Int->(Int⊕(List Int×Nat))
 |0,p,acc=> .inr (acc,p)
 |k+1,p,acc=>match sg l p lo hi with
  | .inl e=> .inl e
  | .inr (n,q)=>rdL l lo hi k q (acc++[n])
theorem qDS (s:ByteArray) (at_ e lo hi:Int) (cnt:Nat) (z:Int×Int) (hs:(bl s).length<=1000000) (hc:cnt<=1000):∀(k p n:Nat) (acc:List Int),acc.length+k=cnt->p<=1000000->k+1<n->
  ∃r,zB lo hi (qD.mk s at_ e) ((cnt:Int),z) n (p:Int) 0 acc (acc.length:Int)=some r/\(match rdL (bl s) lo hi k p acc with| .inl e=>r.2.1=e/\(e !=0)=true| .inr (t,q)=>r=((q:Int),0,t))
 |0,p,0,acc,_,_,hn=>by omega
 |0,p,n+1,acc,hk,hp,hn=>by
  refine⟨((p:Int),0,acc),?_,rfl⟩;rw[zB,kf (by omega)];rfl
 |k+1,p,0,acc,_,_,hn=>by omega
 |k+1,p,n+1,acc,hk,hp,hn=>by
  rw[zB,kg (by omega),rdL];simp only[kp,wQ,uG];rw[qIK s at_ e lo hi p hs hp,jC (by omega)];simp only[kp,ke];rw[u64w (by omega) (by omega)];cases hsg:sg (bl s) p lo hi with
  |inl e'=>
   have he:=sg_inl hsg;refine⟨(0,e',acc++[0]),?_,rfl,he⟩;obtain⟨n',rfl⟩:∃n',n=n'+1:=⟨n-1,by omega⟩
   simp only[sgP];rw[zB];have hz:(e'==0)=false:=kU.2 (ui.1 he);rw[hz];unfold wQ;cases decide ((acc.length:Int)+1<(cnt:Int))<;>rfl
  |inr r=>
   obtain⟨m,q⟩:=r;have hq:=sg_q (wJ s) hsg;obtain⟨r,h1,h2⟩:=qDS s at_ e lo hi cnt z hs hc k q n (acc++[m]) (by rw[kv];simp only[kw,kN];omega) (by omega) (by omega);refine⟨r,?_,h2⟩;simp only[sgP];rw[<-h1,kv];simp only[kw,kN];rw[show((acc.length+(0+1):Nat):Int)=(acc.length:Int)+1 by omega]
theorem qCt (s:ByteArray) (at_ e lo hi:Int) (cnt:Nat) (z:Int×Int) (x:qR) (hs:(bl s).length<=1000000) (hc:cnt<=1000):∀(k p n:Nat) (acc:List Int),acc.length+k=cnt->p<=1000000->k+1<n->
  QG (qR.mk s at_ e) lo hi ((cnt:Int),z) n (p:Int) acc x=some (match rdL (bl s) lo hi k p acc with| .inl e=> .inl (qR.mk s at_ e,[])| .inr (t,q)=> .inr ((q:Int),t,x))
 |0,p,0,acc,_,_,hn=>by omega
 |0,p,n+1,acc,hk,hp,hn=>by
  rw[QG,u64w (by omega) (by omega),kf (by omega)];rfl
 |k+1,p,0,acc,_,_,hn=>by omega
 |k+1,p,n+1,acc,hk,hp,hn=>by
  rw[QG,u64w (by omega) (by omega),kg (by omega),rdL];simp only[kp];rw[qHE s lo hi p hs hp];simp only[ke];cases hsg:sg (bl s) p lo hi with
  |inl e'=>
   have he:=sg_inl hsg;simp only[sgQ,he,kp,UF,ke]
  |inr r=>
   obtain⟨m,q⟩:=r;have hq:=sg_q (wJ s) hsg;simp only[sgQ,kJ,kq];rw[jC (by omega)];simp only[kp];exact qCt s at_ e lo hi cnt z x hs hc k q n (acc++[m]) (by rw[kv];simp only[kw,kN];omega) (by omega) (by omega)
def qN (l:List Nat) (m:Nat) (at_:Nat) (e:Int):List Int×Nat×Int:=
 if e≠0 then([],at_,e) else match num l at_ with
  | .inl e=>([],at_,e)
  | .inr (v,q)=>if m<v then([],at_,4) else match rdL l (-1099511627776) 1099511627776 v q [] with
   | .inl e=>([],at_,e)
   | .inr (t,q)=>(t,q,0)
theorem qFT (s:ByteArray) (m at_:Nat) (e:Int) (hs:(bl s).length<=1000000) (hp:at_<=1000000) (hm:m<=1000):
  QZ (m:Int) (qD.mk s (at_:Int) e)=some ((qN (bl s) m at_ e).1,((qN (bl s) m at_ e).2.1:Int),(qN (bl s) m at_ e).2.2):=by
 unfold QZ JI ZH qN;simp only[ke];by_cases he:e≠0
 ·rw[show(e !=0)=true from ui.2 he,if_pos he];rfl
 have he:e=0:=Classical.not_not.1 he;subst he;rw[if_neg (by simp)];simp only[kJ,kq,ZI];rw[qD8 s _ _ at_ hs hp];simp only[ke];have stop:∀e':Int,(e' !=0)=true->((zB (-1099511627776) 1099511627776 (qD.mk s (at_:Int) 0) ((0:Int),(0:Int),e') FUEL 0 e' [] 0).bind λo23=>
   (yC o23.1 o23.2.1 (qD.mk s (at_:Int) 0)).bind λv25=>bif o23.2.1 !=0 then some (([]:List Int),v25.1,v25.2) else some (o23.2.2,v25.1,v25.2))=some ([],(at_:Int),e'):=λe' h=>by
  rw[show FUEL=4611686018427387903+1 from jA,zB,kf (by simp)];simp only[kq,wQ,ke,yC,h,kp]
 cases hn:num (bl s) at_ with
 |inl e'=>
  have h:=inl_ne hn;simp only[resP,h,kp,ke];rw[stop e' h];rfl
 |inr r=>
  obtain⟨v,q⟩:=r;obtain⟨hv,_,hq,_⟩:=num_inr (wJ s) hn;have um:IntKind.u64.wrap (m:Int)=m:=u64w (by omega) (by omega);unfold yI;rw[show(resP (Sum.inr (v,q))).2.2=0 from rfl,kf (show¬(m:Int)<0 by omega)];simp only[kJ,kq];by_cases hmv:m<v
  ·rw[kg (show(resP (Sum.inr (v,q))).1>IntKind.u64.wrap (m:Int) by rw[um];show(m:Int)<(v:Int);omega),if_pos hmv];simp only[kp,ke];rw[stop 4 rfl];rfl
  ·rw[kf (show¬(resP (Sum.inr (v,q))).1>IntKind.u64.wrap (m:Int) by rw[um];show¬(m:Int)<(v:Int);omega),if_neg hmv];simp only[kq,ke,resP];obtain⟨r,h1,h2⟩:=qDS s (at_:Int) 0 (-1099511627776) 1099511627776 v ((q:Int),0) hs (by omega) v q FUEL [] (by simp) (by omega) (by rw[jA];omega);rw[show(([]:List Int).length:Int)=0 from rfl] at h1;rw[h1];simp only[ke];cases hr:rdL (bl s) (-1099511627776) 1099511627776 v q [] with
   |inl e'=>
    rw[hr] at h2;obtain⟨h3,h4⟩:=h2;rw[h3];simp only[yC,h4,kp,ke]
   |inr t=>
    obtain⟨t,q'⟩:=t;rw[hr] at h2;simp only at h2;subst h2;rfl
theorem qFI (s:ByteArray) (m at_:Nat) (e:Int) (hs:(bl s).length<=1000000) (hp:at_<=1000000) (hm:m<=1000):
  WO (qR.mk s (at_:Int) e) (m:Int) (-1099511627776) 1099511627776=some (qR.mk s ((qN (bl s) m at_ e).2.1:Int) (qN (bl s) m at_ e).2.2,(qN (bl s) m at_ e).1):=by
 unfold WO qN;by_cases he:e≠0
 ·rw[show(e !=0)=true from ui.2 he,if_pos he];rfl
 have he:e=0:=Classical.not_not.1 he;subst he;rw[if_neg (by simp)];simp only[kJ,kq];rw[qCX s at_ hs hp];simp only[ke];cases hn:num (bl s) at_ with
 |inl e'=>
  have h:=inl_ne hn;simp only[resQ,h,kp,ke,UF]
 |inr r=>
  obtain⟨v,q⟩:=r;obtain⟨hv,_,hq,_⟩:=num_inr (wJ s) hn;have um:IntKind.u64.wrap (m:Int)=m:=u64w (by omega) (by omega);unfold KY;rw[show(resQ (at_:Int) (Sum.inr (v,q))).2.2=0 from rfl,kf (show¬(m:Int)<0 by omega)];simp only[kJ,kq];by_cases hmv:m<v
  ·rw[kg (show(resQ (at_:Int) (Sum.inr (v,q))).1>IntKind.u64.wrap (m:Int) by rw[um];show(m:Int)<(v:Int);omega),if_pos hmv];rfl
  ·rw[kf (show¬(resQ (at_:Int) (Sum.inr (v,q))).1>IntKind.u64.wrap (m:Int) by rw[um];show¬(m:Int)<(v:Int);omega),if_neg hmv];simp only[kq,resQ];rw[qCt s (at_:Int) 0 (-1099511627776) 1099511627776 v ((q:Int),0) _ hs (by omega) v q FUEL [] (by simp) (by omega) (by rw[jA];omega)];simp only[ke];cases hr:rdL (bl s) (-1099511627776) 1099511627776 v q [] with
   |inl e'=>rfl
   |inr t=>rfl
end Saw
end Go.SL
