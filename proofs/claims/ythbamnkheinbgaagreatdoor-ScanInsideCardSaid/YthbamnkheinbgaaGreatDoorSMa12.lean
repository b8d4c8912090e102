/- Scan's plain mathematics, part 6: sameness; merging; ScanMerges. -/
import Derived.Test.YthbamnkheinbgaaGreatDoorSMa11
set_option linter.unusedVariables false
set_option linter.unusedSimpArgs false
namespace Go.SL
namespace Saw
structure SmallS (s:Scan):Prop where
 r:s.Rings.length<=1000000
 d:s.Defects.length<=1000000
 p:∀i,i<s.Rings.length->(rgs s i).Read.length<=1000000
def ptsR (r:Ring):List qA:=r.Read.map (λx=>x.P)
theorem qIl (r:Ring) (h:r.Read.length<=1000000):UC r=some (hull (ptsR r)):=by
 unfold UC;have k:=(SR r.Read (λn l i=>jI r n l i) (λx=>(x:Int)) (λ_ d (l:List qA)=>l++[d.P]) id (λx l=>l.length=x) (by omega) (λn x l hx hi=>⟨by
   show jI r (n+1) l (x:Int)=_;rw[jI,kg (by omega),qX (by omega),JY (by omega),zQ (by omega)];rfl,by simp[hi]⟩) (λn l _=>by show jI r (n+1) l _=_;rw[jI,kf (by omega)];rfl) (i:=0) rfl [] rfl).1
 rw[qAl (λ_ (d:qD)=>d.P),qK5,uu] at k;have k':jI r FUEL [] 0=some (ptsR r):=k;rw[k'];simp only[kd,qEF]
def badO (r:Ring):Bool⊕Unit:=findN (λj=>if(r.Read.getD j dd).Ok=true then none else some false) 0 r.Read.length
theorem badO_ok {r:Ring} (h:badO r= .inr ()):∀j,j<r.Read.length->rg_okAt r j=true:=λj hj=>by
 have h:=ZL.1 h j (by omega) (by omega);unfold rg_okAt;cases ho:(r.Read.getD j dd).Ok with
 |true=>rfl
 |false=>rw[ho] at h;cases h
theorem qOE {r:Ring} {e:Bool} (h:badO r= .inl e):e=false:=by
 obtain⟨j,_,_,he,_⟩:=KA h;cases ho:(r.Read.getD j dd).Ok with
 |true=>rw[ho] at he;cases he
 |false=>rw[ho] at he;cases he;rfl
theorem whole_eq (s:Scan):PI s=some false\/(PI s=some true/\fewB s=true/\V15 s/\∀i,i<s.Rings.length->∀j,j<(rgs s i).Read.length->rg_okAt (rgs s i) j=true):=by
 unfold PI;rw[qO9];cases hf:fewB s with
 |false=>exact .inl rfl
 |true=>
  simp only[kd,uh,ku,qK9];by_cases hc:¬TX s=0
  ·rw[show(TX s !=0)=true from bne_iff_ne.2 hc];exact .inl rfl
  have hc:TX s=0:=Classical.not_not.1 hc;have v:=(chk15_zero s).1 hc;have v24:=v.many;rw[hc];simp only[uc,UT,ku];have L3:∀i,i<s.Rings.length->yZ s (i:Int) FUEL 0=some (badO (rgs s i)):=λi hi=>by
   have gi:=(v.good i hi).hi;refine TW (rgs s i).Read.length (yZ s (i:Int)) _ 0 (by omega) (by omega) (λn j _ hj=>?_) (λn=>?_)
   ·rw[yZ,qX (by omega),ks,show s.Rings.getD i dd=rgs s i from rfl,kg (by omega),qX (by omega)];simp only[ko,ks,zQ (show j<4611686018427387904 by omega)];cases ((rgs s i).Read.getD j dd).Ok<;>rfl
   ·rw[yZ,qX (by omega),ks,show s.Rings.getD i dd=rgs s i from rfl,kf (by omega)];rfl
  have L2:QC s FUEL 0=some (findN (λi=>match badO (rgs s i) with| .inl e=>some e| .inr _=>none) 0 s.Rings.length):=by
   refine TW s.Rings.length (QC s) _ 0 (by omega) (by omega) (λn i _ hi=>?_) (λn=>?_)
   ·rw[QC,kg (by omega),L3 i hi];simp only[ko,kd,zQ (show i<4611686018427387904 by omega)];cases badO (rgs s i)<;>rfl
   ·rw[QC,kf (by omega)];rfl
  rw[L2];simp only[kd];cases hF:findN (λi=>match badO (rgs s i) with| .inl e=>some e| .inr _=>none) 0 s.Rings.length with
  |inl e=>
   obtain⟨i,_,_,he,_⟩:=KA hF;cases hb:badO (rgs s i) with
   |inl e'=>
    rw[hb] at he;cases he;rw[qOE hb];exact .inl rfl
   |inr u=>rw[hb] at he;cases he
  |inr u=>
   refine .inr ⟨rfl,trivial,v,λi hi j hj=>?_⟩;have h:=ZL.1 hF i (by omega) (by omega);cases hb:badO (rgs s i) with
   |inl e'=>rw[hb] at h;cases h
   |inr u=>exact badO_ok hb j hj
theorem qMz (a:Ring) (g:jF a) (ho:∀j,j<a.Read.length->rg_okAt a j=true):fill a=ptsR a:=by
 have hm:rg_meas a=List.range a.Read.length:=by
  unfold rg_meas;exact List.filter_eq_self.2 (λj hj=>ho j (uz.1 hj))
 have lo:=g.lo;have h2:2<=(rg_meas a).length:=by rw[hm,uD];omega
 have hl:=(RT a g h2).1;refine qE8 (by rw[hl];simp[ptsR]) (λj hj=>?_);rw[hl] at hj;rw[qML a g h2 hj (ho j hj)];unfold ptsR rg_Pt;rw[qFA _ _ hj]
theorem qG4 (s:Scan) (i:Nat) (g:jF (rgs s i)) (ho:∀j,j<(rgs s i).Read.length->rg_okAt (rgs s i) j=true) (h:(secI s (-1) 0 i).2=0):(secI s (-1) 0 i).1=ofS (ptsR (rgs s i)):=by
 unfold secI secR at h⊢;have e:rg_cleaned (rgs s i) (-1)=rgs s i:=by unfold rg_cleaned;rfl
 rw[e] at h⊢;cases hc:rg_canFill (rgs s i) 0 with
 |false=>rw[hc] at h;exact absurd h (show¬((30:Int)=0) by decide)
 |true=>
  rw[hc] at h;simp only[ko] at h⊢;rw[qMz _ g ho] at h⊢;unfold ofR at h⊢;by_cases h1:chk (ptsR (rgs s i))=0
  ·rw[if_pos h1] at h⊢;by_cases h2:(ofS (ptsR (rgs s i))).Rows=[]
   ·rw[if_pos h2] at h;exact absurd h (show¬((18:Int)=0) by decide)
   ·rw[if_neg h2]
  ·rw[if_neg h1] at h;exact absurd h h1
def InP (p:List qA) (t:qC):Prop:=∀x:Nat,x<t.Rows.length->(t.Rows.getD x dd).A<(t.Rows.getD x dd).B->
 has (hull p) ⟨(t.Rows.getD x dd).A,10*(t.Low+x)⟩=true/\has (hull p) ⟨(t.Rows.getD x dd).B,10*(t.Low+x)⟩=true/\has (hull p) ⟨(t.Rows.getD x dd).A,10*(t.Low+x)+10⟩=true/\has (hull p) ⟨(t.Rows.getD x dd).B,10*(t.Low+x)+10⟩=true
theorem qL9 (t:qC) (p:List qA) (hv:VS t) (h:InP p t):LT t (hull p)=some true:=by
 have b1:=hv.low;have b2:=hv.high;have b3:=hv.len;unfold LT;have L:wO t (hull p) FUEL 0=some (findN (λ_=>(none:Option Bool)) 0 t.Rows.length):=by
  refine TW t.Rows.length (wO t (hull p)) _ 0 (by omega) (by omega) (λn x _ hx=>?_) (λn=>?_)
  ·rw[wO,kg (by omega),qX (by omega)];simp only[ko,ks,PL,MV,zQ (show x<4611686018427387904 by omega)];by_cases hE:(t.Rows.getD x dd).A≥(t.Rows.getD x dd).B
   ·rw[kg hE];rfl
   ·rw[kf hE,qQ (n:=t.Low+x) (by omega),qQ (n:=10*(t.Low+x)) (by omega),qQ (n:=10*(t.Low+x)+10) (by omega)];obtain⟨h1,h2,h3,h4⟩:=h x hx (by omega);simp only[(has_eq _ _).1,kd,h1,h2,h3,h4,uh,ku]
  ·rw[wO,kf (by omega)];rfl
 rw[L,ZL.2 (λ_ _ _=>rfl)];rfl
theorem meet_in (p q:List qA):InP p (zN (ofS p) (ofS q))/\InP q (zN (ofS p) (ofS q)):=by
 have hv:=qHE (qDj p) (qDj q);have one:∀(u:List qA) (r:Int) (A B:Int),(zM u (10*r) (10*(r+1))).A<=A->A<B->B<=(zM u (10*r) (10*(r+1))).B->
   has (hull u) ⟨A,10*r⟩=true/\has (hull u) ⟨B,10*r⟩=true/\has (hull u) ⟨A,10*r+10⟩=true/\has (hull u) ⟨B,10*r+10⟩=true:=λu r A B h1 h2 h3=>by
  rcases chord_spec u (10*r) (10*(r+1)) with⟨e,_⟩|⟨h0,_,_,h4⟩
  ·rw[e] at h1 h3;simp only at h1 h3;omega
  ·have kA:=(h4 A).1 ⟨h1,by omega⟩;have kB:=(h4 B).1 ⟨by omega,h3⟩;rw[show 10*(r+1)=10*r+10 by omega] at kA kB;exact⟨(CJ h0 _ _).2 kA.1,(CJ h0 _ _).2 kB.1,(CJ h0 _ _).2 kA.2,(CJ h0 _ _).2 kB.2⟩
 have key:∀x:Nat,x<(zN (ofS p) (ofS q)).Rows.length->((zN (ofS p) (ofS q)).Rows.getD x dd).A<((zN (ofS p) (ofS q)).Rows.getD x dd).B->
   ((zM p (10*((zN (ofS p) (ofS q)).Low+x)) (10*((zN (ofS p) (ofS q)).Low+x+1))).A<=((zN (ofS p) (ofS q)).Rows.getD x dd).A/\((zN (ofS p) (ofS q)).Rows.getD x dd).B<=(zM p (10*((zN (ofS p) (ofS q)).Low+x)) (10*((zN (ofS p) (ofS q)).Low+x+1))).B)/\
   ((zM q (10*((zN (ofS p) (ofS q)).Low+x)) (10*((zN (ofS p) (ofS q)).Low+x+1))).A<=((zN (ofS p) (ofS q)).Rows.getD x dd).A/\((zN (ofS p) (ofS q)).Rows.getD x dd).B<=(zM q (10*((zN (ofS p) (ofS q)).Low+x)) (10*((zN (ofS p) (ofS q)).Low+x+1))).B):=λx hx hl=>by
  have b1:=hv.low;have b2:=hv.high;have k:=SF (s:=zN (ofS p) (ofS q)) (i:=x);rw[qO5 (qDj p) (qDj q),qNT,qNT,if_pos (by omega),if_pos (by omega)] at k;rw[<-k] at hl⊢;unfold nrm at hl⊢;cases he:empS (mxS (zM p (10*((zN (ofS p) (ofS q)).Low+x)) (10*((zN (ofS p) (ofS q)).Low+x+1))) (zM q (10*((zN (ofS p) (ofS q)).Low+x)) (10*((zN (ofS p) (ofS q)).Low+x+1)))) with
  |true=>rw[he] at hl;simp only[ko] at hl;omega
  |false=>
   simp only[ku,mxS];have i1:=qDR (zM p (10*((zN (ofS p) (ofS q)).Low+x)) (10*((zN (ofS p) (ofS q)).Low+x+1))).A (zM q (10*((zN (ofS p) (ofS q)).Low+x)) (10*((zN (ofS p) (ofS q)).Low+x+1))).A;have i2:=qDZ (zM p (10*((zN (ofS p) (ofS q)).Low+x)) (10*((zN (ofS p) (ofS q)).Low+x+1))).B (zM q (10*((zN (ofS p) (ofS q)).Low+x)) (10*((zN (ofS p) (ofS q)).Low+x+1))).B;omega
 exact⟨λx hx hl=>one p _ _ _ (key x hx hl).1.1 hl (key x hx hl).1.2,λx hx hl=>one q _ _ _ (key x hx hl).2.1 hl (key x hx hl).2.2⟩
theorem build15_cases (s:Scan) (l m:Int) (hc:TX s=0):qAY s l m=([],30)\/
  (qAY s l m=((List.range (s.Rings.length-1)).map (slI s l m),0)/\(∀i,i<s.Rings.length->(secI s l m i).2=0)/\∀i,i<s.Rings.length-1->(RE s l m i).Rows≠[]):=by
 unfold qAY;rw[if_neg (by simpa using hc)];cases h1:findN (er1 s l m) 0 s.Rings.length with
 |inl e=>
  obtain⟨i,_,_,he,_⟩:=KA h1;unfold er1 at he;split at he
  ·cases he;exact .inl rfl
  ·cases he
 |inr u=>
  simp only;cases h2:findN (er2 s l m) 0 (s.Rings.length-1) with
  |inl e=>
   obtain⟨i,_,_,he,_⟩:=KA h2;unfold er2 at he;split at he
   ·cases he;exact .inl rfl
   ·cases he
  |inr u=>
   refine .inr ⟨rfl,λi hi=>?_,λi hi=>?_⟩
   ·have h:=ZL.1 h1 i (by omega) (by omega);unfold er1 at h;by_cases hz:(secI s l m i).2=0
    ·exact hz
    ·rw[if_pos hz] at h;cases h
   ·have h:=ZL.1 h2 i (by omega) (by omega);unfold er2 at h;intro hz;rw[if_pos hz] at h;cases h
theorem qD1 (s:Scan) (l m:Int) {i:Nat} (h:i<s.Rings.length-1):((List.range (s.Rings.length-1)).map (slI s l m)).getD i dd=slI s l m i:=by
 rw[ka,kJ,gy h];rfl
theorem qNn (s:Scan) (l m:Int) (v:V15 s) (hm:∀i,i<s.Rings.length-1->(RE s l m i).Rows≠[]):
  YC ((List.range (s.Rings.length-1)).map (slI s l m))=some 0/\TE ((List.range (s.Rings.length-1)).map (slI s l m))=some (endZ s):=by
 have v2:=v.two;have v24:=v.many;have hN:((List.range (s.Rings.length-1)).map (slI s l m)).length=s.Rings.length-1:=by simp
 have Zb:∀i,i<s.Rings.length->0<=(rgs s i).Z/\(rgs s i).Z<=20000:=λi hi=>⟨(v.good i hi).z0,(v.good i hi).z1⟩
 have L1:=(qGr (s.Rings.length-1) (λn st i=>wF ((List.range (s.Rings.length-1)).map (slI s l m)) n st i) (λi _=>(rgs s (i+1)).Z) (λ_=>(Sum.inr ():Int⊕Unit)) (λi st=>st=(rgs s i).Z) 0 (by omega) (by omega) (λn i st hi hs=>by
   subst hs;refine⟨?_,rfl⟩;show wF ((List.range (s.Rings.length-1)).map (slI s l m)) (n+1) (rgs s i).Z (i:Int)=_;have b0:=Zb i (by omega);have b1:=Zb (i+1) (by omega);have up:=v.up (i+1) (by omega) (by omega);rw[Nat.add_sub_cancel] at up;have hvs:VS (RE s l m i):=qHE (AI _ _ _) (AI _ _ _);have hr:0<(RE s l m i).Rows.length:=uf.2 (hm i hi);rw[wF,hN,kg (by omega),qX (by omega),ks,qD1 s l m hi];have hL:(slI s l m i).Len=(rgs s (i+1)).Z-(rgs s i).Z:=rfl;have hS:(slI s l m i).Sec=RE s l m i:=rfl;rw[hS];simp only[ko,(qEY _).1,(chk10_zero _).2 hvs,kd,uc,ku]
   rw[show(((RE s l m i).Rows.length:Int)==0)=false from ue.2 (by omega),kf (show¬(slI s l m i).Len<1 by rw[hL];omega),qQ (n:=20000-(rgs s i).Z) (by omega),kf (show¬(slI s l m i).Len>20000-(rgs s i).Z by rw[hL];omega)];simp only[ku,UA];rw[ks,qD1 s l m hi,hL,qQ (n:=(rgs s i).Z+((rgs s (i+1)).Z-(rgs s i).Z)) (by omega),zQ (by omega),show(rgs s i).Z+((rgs s (i+1)).Z-(rgs s i).Z)=(rgs s (i+1)).Z by omega])
  (λn st _=>by show wF _ (n+1) st _=_;rw[wF,hN,kf (by omega)];rfl) 0 v.zero.symm).1
 have hc:YC ((List.range (s.Rings.length-1)).map (slI s l m))=some 0:=by
  unfold YC;rw[hN,show(((s.Rings.length-1:Nat):Int)==0)=false from ue.2 (by omega),kf (by omega)];have L1':wF ((List.range (s.Rings.length-1)).map (slI s l m)) FUEL 0 0=some (Sum.inr ()):=L1;rw[L1'];rfl
 refine⟨hc,?_⟩;unfold TE VU;rw[hc];simp only[kd,uc,ku];have k:=qGr (s.Rings.length-1) (λn st i=>wR ((List.range (s.Rings.length-1)).map (slI s l m)) n st i) (λi _=>(rgs s (i+1)).Z) (λst=>st) (λi st=>st=(rgs s i).Z) 0 (by omega) (by omega) (λn i st hi hs=>by
   subst hs;refine⟨?_,rfl⟩;show wR ((List.range (s.Rings.length-1)).map (slI s l m)) (n+1) (rgs s i).Z (i:Int)=_;have b0:=Zb i (by omega);have b1:=Zb (i+1) (by omega);rw[wR,hN,kg (by omega),qX (by omega),ks,qD1 s l m hi];simp only[ko,slI];rw[qQ (n:=(rgs s i).Z+((rgs s (i+1)).Z-(rgs s i).Z)) (by omega),zQ (by omega),show(rgs s i).Z+((rgs s (i+1)).Z-(rgs s i).Z)=(rgs s (i+1)).Z by omega])
  (λn st _=>by show wR _ (n+1) st _=_;rw[wR,hN,kf (by omega)];rfl) 0 v.zero.symm
 have k1:wR ((List.range (s.Rings.length-1)).map (slI s l m)) FUEL 0 0=some (qBt (λi _=>(rgs s (i+1)).Z) 0 (s.Rings.length-1-0) 0):=k.1;have k2:qBt (λi (_:Int)=>(rgs s (i+1)).Z) 0 (s.Rings.length-1-0) 0=(rgs s (s.Rings.length-1)).Z:=k.2;rw[k1,k2];rfl
theorem qE3 (s:Scan):ZY s=some true:=by
 unfold ZY;rcases whole_eq s with e|⟨e,hf,v,ho⟩
 ·rw[e,AV];rfl
 rw[e,qOH];simp only[kd,uh,ku];have v2:=v.two;have v24:=v.many;rcases build15_cases s (-1) 0 ((chk15_zero s).2 v) with e|⟨e,h1,h2⟩
 ·rw[e,AV];rfl
 rw[e];obtain⟨c1,c2⟩:=qNn s (-1) 0 v h2;have hN:((List.range (s.Rings.length-1)).map (slI s (-1) 0)).length=s.Rings.length-1:=by simp
 have L:zP s ((List.range (s.Rings.length-1)).map (slI s (-1) 0),0) FUEL 0=some (findN (λ_=>(none:Option Bool)) 0 (s.Rings.length-1)):=by
  refine TW (s.Rings.length-1) (zP s ((List.range (s.Rings.length-1)).map (slI s (-1) 0),0)) _ 0 (by omega) (by omega) (λn i _ hi=>?_) (λn=>?_)
  ·rw[zP];simp only;have b0:=(v.good i (by omega)).z0;have b1:=(v.good i (by omega)).z1;have b2:=(v.good (i+1) (by omega)).z0;have b3:=(v.good (i+1) (by omega)).z1;have b4:=(v.good i (by omega)).hi;have b5:=(v.good (i+1) (by omega)).hi;have s1:=qG4 s i (v.good i (by omega)) (ho i (by omega)) (h1 i (by omega));have s2:=qG4 s (i+1) (v.good (i+1) (by omega)) (ho (i+1) (by omega)) (h1 (i+1) (by omega));have hin:=meet_in (ptsR (rgs s i)) (ptsR (rgs s (i+1)));have hvs:VS (RE s (-1) 0 i):=qHE (AI _ _ _) (AI _ _ _)
   have hme:RE s (-1) 0 i=zN (ofS (ptsR (rgs s i))) (ofS (ptsR (rgs s (i+1)))):=by unfold RE;rw[s1,s2]
   rw[<-hme] at hin;rw[hN,kg (by omega),qX (by omega),zQ (show i<4611686018427387904 by omega),qX (i:=((i+1:Nat):Int)) (by omega),qX (n:=s.Rings.length) (by omega)];simp only[ks];rw[qD1 s (-1) 0 hi,show s.Rings.getD (i+1) dd=rgs s (i+1) from rfl,show s.Rings.getD i dd=rgs s i from rfl,qQ (n:=(rgs s (i+1)).Z-(rgs s i).Z) (by omega)];simp only[ko,slI,uc,ku,qIl _ (show(rgs s i).Read.length<=1000000 by omega),qIl _ (show(rgs s (i+1)).Read.length<=1000000 by omega),qL9 _ _ hvs hin.1,qL9 _ _ hvs hin.2,kd,uh,yU,zQ (show i<4611686018427387904 by omega)]
  ·rw[zP];simp only;rw[hN,kf (by omega)];rfl
 simp only[uc,ku];rw[hN,qQ (n:=(s.Rings.length:Int)-1) (by omega),show((s.Rings.length-1:Nat):Int)=(s.Rings.length:Int)-1 by omega,c1];simp only[uc,ku,kd,c2];rw[qX (by omega),show((s.Rings.length:Int)-1).toNat=s.Rings.length-1 by omega,show(s.Rings.getD (s.Rings.length-1) dd).Z=endZ s from rfl];simp only[uc,ko,ku,yV,L,ZL.2 (λ_ _ _=>rfl),kd,AV,Sum.elim_inr]
theorem qFQ (s:Scan) {P:Prop} (_:P):ZY s=some true:=qE3 s
end Saw
end Go.SL
