/- Scan's plain mathematics, part 6: sameness; merging; ScanMerges. -/
import Derived.Test.YthbamnkheinbgaaGreatDoorSMa11
set_option linter.unusedVariables false
set_option linter.unusedSimpArgs false
namespace Go.SL
namespace Saw
structure qPN (s:Scan):Prop where
 r:s.Rings.length<=1000000
 d:s.Defects.length<=1000000
 p:∀i,i<s.Rings.length->(rgs s i).Read.length<=1000000
theorem qP3 {s:Scan} (h:fewB s=true):qPN s:=by
 obtain⟨h1,h2,h3⟩:=qQ4 h;exact⟨by omega,by omega,λi hi=>by have:=h3 i hi;omega⟩
theorem qRe (x:List qD) (h:x.length<=1000000):yD x x=some true:=by
 unfold yD;have L:wC x x FUEL 0=some (findN (λ_=>(none:Option Bool)) 0 x.length):=by
  refine WH x.length (wC x x) _ 0 (by omega) (by omega) (λn i _ hi=>?_) (λn=>?_)
  ·rw[wC,ke (by omega),qY (by omega)];simp only[ko,ku,gh,Bool.and_self,kV,zM (show i<4611686018427387904 by omega)]
  ·rw[wC,kf (by omega)];rfl
 rw[wK.2 (λ_ _ _=>rfl)] at L;simp only[kP,ku,L,kd,Sum.elim_inr]
theorem qQX (x:List qF) (h:x.length<=1000000):yS x x=some true:=by
 unfold yS;have L:wE x x FUEL 0=some (findN (λ_=>(none:Option Bool)) 0 x.length):=by
  refine WH x.length (wE x x) _ 0 (by omega) (by omega) (λn i _ hi=>?_) (λn=>?_)
  ·rw[wE,ke (by omega),qY (by omega)];simp only[ko,ku,gh,Bool.and_self,kV,zM (show i<4611686018427387904 by omega)]
  ·rw[wE,kf (by omega)];rfl
 rw[wK.2 (λ_ _ _=>rfl)] at L;simp only[kP,ku,L,kd,Sum.elim_inr]
theorem qIZ (s:Scan) (h:qPN s):PC s s=some true:=by
 have hr:=h.r;unfold PC ZE;have L:zX s.Rings s.Rings FUEL 0=some (findN (λ_=>(none:Option Bool)) 0 s.Rings.length):=by
  refine WH s.Rings.length (zX s.Rings s.Rings) _ 0 (by omega) (by omega) (λn i _ hi=>?_) (λn=>?_)
  ·rw[zX,ke (by omega),qY (by omega)];simp only[ko,ku,ED,gh,ks,qRe _ (show(s.Rings.getD i dd).Read.length<=1000000 from h.p i hi),kd,VT,kV,zM (show i<4611686018427387904 by omega)]
  ·rw[zX,kf (by omega)];rfl
 rw[wK.2 (λ_ _ _=>rfl)] at L;simp only[kP,ku,ko,L,kd,Sum.elim_inr,qQX _ h.d,LC]
def ptsR (r:Ring):List qA:=r.Read.map (λx=>x.P)
def badO (r:Ring):Bool⊕Unit:=findN (λj=>if(r.Read.getD j dd).Ok=true then none else some false) 0 r.Read.length
theorem badO_ok {r:Ring} (h:badO r= .inr ()):∀j,j<r.Read.length->rg_okAt r j=true:=λj hj=>by
 have h:=wK.1 h j (by omega) (by omega);unfold rg_okAt;cases ho:(r.Read.getD j dd).Ok with
 |true=>rfl
 |false=>rw[ho] at h;cases h
theorem qQB {r:Ring} {e:Bool} (h:badO r= .inl e):e=false:=by
 obtain⟨j,_,_,he,_⟩:=PS h;cases ho:(r.Read.getD j dd).Ok with
 |true=>rw[ho] at he;cases he
 |false=>rw[ho] at he;cases he;rfl
theorem whole_eq (s:Scan):RQ s=some false\/(RQ s=some true/\fewB s=true/\V15 s/\∀i,i<s.Rings.length->∀j,j<(rgs s i).Read.length->rg_okAt (rgs s i) j=true):=by
 unfold RQ;rw[qRf];cases hf:fewB s with
 |false=>exact .inl rfl
 |true=>
  simp only[kd,kV,ku,qDb];by_cases hc:¬GH s=0
  ·rw[show(GH s !=0)=true from bne_iff_ne.2 hc];exact .inl rfl
  have hc:GH s=0:=Classical.not_not.1 hc;have v:=(chk15_zero s).1 hc;have v24:=v.many;rw[hc];simp only[kP,GG,ku];have L3:∀i,i<s.Rings.length->QR s (i:Int) FUEL 0=some (badO (rgs s i)):=λi hi=>by
   have gi:=(v.good i hi).hi;refine WH (rgs s i).Read.length (QR s (i:Int)) _ 0 (by omega) (by omega) (λn j _ hj=>?_) (λn=>?_)
   ·rw[QR,qY (by omega),ks,show s.Rings.getD i dd=rgs s i from rfl,ke (by omega),qY (by omega)];simp only[ko,ks,zM (show j<4611686018427387904 by omega)];cases ((rgs s i).Read.getD j dd).Ok<;>rfl
   ·rw[QR,qY (by omega),ks,show s.Rings.getD i dd=rgs s i from rfl,kf (by omega)];rfl
  have L2:QP s FUEL 0=some (findN (λi=>match badO (rgs s i) with| .inl e=>some e| .inr _=>none) 0 s.Rings.length):=by
   refine WH s.Rings.length (QP s) _ 0 (by omega) (by omega) (λn i _ hi=>?_) (λn=>?_)
   ·rw[QP,ke (by omega),L3 i hi];simp only[ko,kd,zM (show i<4611686018427387904 by omega)];cases badO (rgs s i)<;>rfl
   ·rw[QP,kf (by omega)];rfl
  rw[L2];simp only[kd];cases hF:findN (λi=>match badO (rgs s i) with| .inl e=>some e| .inr _=>none) 0 s.Rings.length with
  |inl e=>
   obtain⟨i,_,_,he,_⟩:=PS hF;cases hb:badO (rgs s i) with
   |inl e'=>
    rw[hb] at he;cases he;rw[qQB hb];exact .inl rfl
   |inr u=>rw[hb] at he;cases he
  |inr u=>
   refine .inr ⟨rfl,trivial,v,λi hi j hj=>?_⟩;have h:=wK.1 hF i (by omega) (by omega);cases hb:badO (rgs s i) with
   |inl e'=>rw[hb] at h;cases h
   |inr u=>exact badO_ok hb j hj
theorem qOY (a:Ring) (g:wM a) (ho:∀j,j<a.Read.length->rg_okAt a j=true):fill a=ptsR a:=by
 have hm:rg_meas a=List.range a.Read.length:=by
  unfold rg_meas;exact List.filter_eq_self.2 (λj hj=>ho j (uu.1 hj))
 have lo:=g.lo;have h2:2<=(rg_meas a).length:=by rw[hm,ur];omega
 have hl:=(UM a g h2).1;refine qHk (by rw[hl];simp[ptsR]) (λj hj=>?_);rw[hl] at hj;rw[qPc a g h2 hj (ho j hj)];unfold ptsR rg_Pt;rw[qAc _ _ hj]
theorem build15_cases (s:Scan) (l m:Int) (hc:GH s=0):NK s l m=([],30)\/
  (NK s l m=((List.range (s.Rings.length-1)).map (slI s l m),0)/\(∀i,i<s.Rings.length->(secI s l m i).2=0)/\∀i,i<s.Rings.length-1->(XO s l m i).Rows≠[]):=by
 unfold NK;rw[if_neg (by simpa using hc)];cases h1:findN (er1 s l m) 0 s.Rings.length with
 |inl e=>
  obtain⟨i,_,_,he,_⟩:=PS h1;unfold er1 at he;split at he
  ·cases he;exact .inl rfl
  ·cases he
 |inr u=>
  simp only;cases h2:findN (er2 s l m) 0 (s.Rings.length-1) with
  |inl e=>
   obtain⟨i,_,_,he,_⟩:=PS h2;unfold er2 at he;split at he
   ·cases he;exact .inl rfl
   ·cases he
  |inr u=>
   refine .inr ⟨rfl,λi hi=>?_,λi hi=>?_⟩
   ·have h:=wK.1 h1 i (by omega) (by omega);unfold er1 at h;by_cases hz:(secI s l m i).2=0
    ·exact hz
    ·rw[if_pos hz] at h;cases h
   ·have h:=wK.1 h2 i (by omega) (by omega);unfold er2 at h;intro hz;rw[if_pos hz] at h;cases h
theorem slI_get (s:Scan) (l m:Int) {i:Nat} (h:i<s.Rings.length-1):((List.range (s.Rings.length-1)).map (slI s l m)).getD i dd=slI s l m i:=by
 rw[ka,kD,gf h];rfl
end Saw
end Go.SL
