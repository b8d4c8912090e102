/- Edge's plain mathematics, part 5: defects, rates, rectangles; the check of an edging. -/
import Derived.Test.YtidlfgiogdjkaaaGreatDoorEMa2
set_option linter.unusedVariables false
set_option linter.unusedSimpArgs false
namespace Go.SL
namespace Saw
def insS (s:Span) (lo hi:Int):Bool:=decide ((lo<=s.A/\lo<=s.B)/\(s.A<=hi/\s.B<=hi))
theorem qTX (s:Span) (lo hi:Int):YV s lo hi=some (insS s lo hi):=by
 unfold YV GU insS;have a:=imin_or s.A s.B;have b:=WU s.A s.B;by_cases h1:imin s.A s.B≥lo
 ·rw[decide_eq_true h1];by_cases h2:imax s.A s.B<=hi
  ·rw[decide_eq_true h2,decide_eq_true (by omega)];rfl
  ·rw[decide_eq_false h2,decide_eq_false (by omega)];rfl
 ·rw[decide_eq_false h1,decide_eq_false (show¬((lo<=s.A/\lo<=s.B)/\(s.A<=hi/\s.B<=hi)) by omega)];rfl
def chkD (d:Defect):Int:=
 if d.Kind<1\/6<d.Kind then 10
 else bif empS d.Box.X||(empS d.Box.Y||empS d.Box.Z) then 19
 else bif insS d.Box.X (-600) 600&&(insS d.Box.Y (-600) 600&&insS d.Box.Z 0 20000) then 0 else 9
theorem qNm (s:Span):yH s=some (empS s):=rfl
theorem chkD_eq (d:Defect):NV d=some (chkD d):=by
 unfold NV BP PX RU chkD;simp only[qNm,qTX,Option.bind_some];by_cases h1:d.Kind<1
 ·rw[decide_eq_true h1,if_pos (.inl h1)];rfl
 rw[decide_eq_false h1];by_cases h2:d.Kind>6
 ·rw[decide_eq_true h2,if_pos (.inr h2)];rfl
 rw[decide_eq_false h2,if_neg (by omega)];cases empS d.Box.X<;>cases empS d.Box.Y<;>cases empS d.Box.Z<;>cases insS d.Box.X (-600) 600<;>cases insS d.Box.Y (-600) 600<;>cases insS d.Box.Z 0 20000<;>rfl
structure VD (d:Defect):Prop where
 k1:1<=d.Kind
 k2:d.Kind<=6
 x:d.Box.X.A<d.Box.X.B/\-600<=d.Box.X.A/\d.Box.X.B<=600
 y:d.Box.Y.A<d.Box.Y.B/\-600<=d.Box.Y.A/\d.Box.Y.B<=600
 z:d.Box.Z.A<d.Box.Z.B/\0<=d.Box.Z.A/\d.Box.Z.B<=20000
theorem qS9 (d:Defect):chkD d=0↔VD d:=by
 unfold chkD;by_cases h1:d.Kind<1\/6<d.Kind
 ·rw[if_pos h1];exact⟨λh=>absurd h (by decide),λh=>by have:=h.k1;have:=h.k2;omega⟩
 rw[if_neg h1];cases hx:empS d.Box.X with
 |true=>exact⟨λh=>absurd (show(19:Int)=0 from h) (by decide),λh=>by have:=h.x;have:=of_decide_eq_true hx;omega⟩
 |false=>
 cases hy:empS d.Box.Y with
 |true=>exact⟨λh=>absurd (show(19:Int)=0 from h) (by decide),λh=>by have:=h.y;have:=of_decide_eq_true hy;omega⟩
 |false=>
 cases hz:empS d.Box.Z with
 |true=>exact⟨λh=>absurd (show(19:Int)=0 from h) (by decide),λh=>by have:=h.z;have:=of_decide_eq_true hz;omega⟩
 |false=>
 have ex:=of_decide_eq_false hx;have ey:=of_decide_eq_false hy;have ez:=of_decide_eq_false hz;unfold insS;by_cases i1:(-600<=d.Box.X.A/\-600<=d.Box.X.B)/\d.Box.X.A<=600/\d.Box.X.B<=600
 ·rw[decide_eq_true i1];by_cases i2:(-600<=d.Box.Y.A/\-600<=d.Box.Y.B)/\d.Box.Y.A<=600/\d.Box.Y.B<=600
  ·rw[decide_eq_true i2];by_cases i3:(0<=d.Box.Z.A/\0<=d.Box.Z.B)/\d.Box.Z.A<=20000/\d.Box.Z.B<=20000
   ·rw[decide_eq_true i3];exact⟨λ_=>⟨by omega,by omega,by omega,by omega,by omega⟩,λ_=>rfl⟩
   ·rw[decide_eq_false i3];exact⟨λh=>absurd h (by decide),λh=>by have:=h.z;omega⟩
  ·rw[decide_eq_false i2];exact⟨λh=>absurd (show(9:Int)=0 from h) (by decide),λh=>by have:=h.y;omega⟩
 ·rw[decide_eq_false i1];exact⟨λh=>absurd (show(9:Int)=0 from h) (by decide),λh=>by have:=h.x;omega⟩
def badD (d:Defect):Option Int:=bif chkD d !=0 then some (chkD d) else none
def RN (l:List Defect):Int:=if 64<l.length then 4 else match findE badD l with| .inl e=>e| .inr _=>0
theorem qFh (l:List Defect):JX l=some (RN l):=by
 unfold JX RN;by_cases h:64<l.length
 ·rw[if_pos h,decide_eq_true (by omega)];rfl
 rw[if_neg h,decide_eq_false (by omega)];have L:ZC l FUEL 0=some (findE badD l):=by
  refine WD l (ZC l) badD (by omega) (λn x hx=>?_) (λn=>?_)
  ·rw[ZC,decide_eq_true (by omega),qG (by omega) (by omega)];simp only[cond_true,Int.toNat_natCast,qO (show x<4611686018427387904 by omega),chkD_eq,Option.bind_some,badD];cases chkD (l.getD x default) !=0<;>rfl
  ·rw[ZC,decide_eq_false (by omega)];rfl
 rw[L];simp only[cond_false,Option.bind_some];cases findE badD l<;>rfl
theorem qMV {d:Defect}:badD d=none↔VD d:=by
 rw[<-qS9];unfold badD;by_cases h:chkD d=0
 ·rw[h];simp
 ·rw[show(chkD d !=0)=true by rw[bne_iff_ne];exact h];simp[h]
theorem VO (l:List Defect):RN l=0↔l.length<=64/\∀d∈l,VD d:=by
 unfold RN;by_cases h:64<l.length
 ·rw[if_pos h];exact⟨λh=>absurd h (by decide),λh=>by omega⟩
 rw[if_neg h];cases hf:findE badD l with
 |inl e=>
  obtain⟨a,ha,hb⟩:=qCP hf;simp only;have hn:e≠0:=by
   unfold badD at hb;cases hc:chkD a !=0 with
   |true=>rw[hc] at hb;cases hb;exact bne_iff_ne.1 hc
   |false=>rw[hc] at hb;cases hb
  exact⟨λh=>absurd h hn,λh=>by rw[qMV.2 (h.2 a ha)] at hb;cases hb⟩
 |inr u=>exact⟨λ_=>⟨by omega,λd hd=>qMV.1 (XM.1 hf d hd)⟩,λ_=>rfl⟩
structure VW (s:Saw) (r:Rates):Prop where
 kerf:0<=s.Kerf/\s.Kerf<=20
 trim:0<=s.Trim/\s.Trim<=20
 pitch:1<=s.Pitch/\s.Pitch<=2000
 step:1<=s.Step/\s.Step<=20000
 chip:0<=r.Chip/\r.Chip<=1000
 dust:0<=r.Dust/\r.Dust<=1000
 fine:0<=r.Fine/\r.Fine<=1000000
theorem qMK (n:Int):UR n=some (decide (1<=n/\n<=20000)):=by
 unfold UR BB;by_cases h1:n≥1
 ·rw[decide_eq_true h1];by_cases h2:n<=20000
  ·rw[decide_eq_true h2,decide_eq_true ⟨h1,h2⟩];rfl
  ·rw[decide_eq_false h2,decide_eq_false (λh=>h2 h.2)];rfl
 ·rw[decide_eq_false h1,decide_eq_false (show¬(1<=n/\n<=20000) from λh=>h1 h.1)];rfl
theorem qNl (n:Int):TW n=some (decide (0<=n/\n<=1000000)):=by
 unfold TW BU;by_cases h1:n≥0
 ·rw[decide_eq_true h1];by_cases h2:n<=1000000
  ·rw[decide_eq_true h2,decide_eq_true ⟨h1,h2⟩];rfl
  ·rw[decide_eq_false h2,decide_eq_false (λh=>h2 h.2)];rfl
 ·rw[decide_eq_false h1,decide_eq_false (show¬(0<=n/\n<=1000000) from λh=>h1 h.1)];rfl
open Classical in
noncomputable def YQ (s:Saw) (r:Rates):Int:=if VW s r then 0 else 9
theorem JL (s:Saw) (r:Rates):YQ s r=0↔VW s r:=by
 unfold YQ;by_cases h:VW s r
 ·rw[if_pos h];simp[h]
 ·rw[if_neg h];simp[h]
theorem qE8 (s:Saw) (r:Rates):XR s r=some (YQ s r):=by
 unfold XR XU UJ JB;simp only[qMK,qNl,Option.bind_some];have no:¬VW s r->YQ s r=9:=λh=>by unfold YQ;rw[if_neg h]
 by_cases c1:s.Kerf<0
 ·rw[decide_eq_true c1,no (λh=>by have:=h.kerf;omega)];rfl
 rw[decide_eq_false c1];by_cases c2:s.Kerf>20
 ·rw[decide_eq_true c2,no (λh=>by have:=h.kerf;omega)];rfl
 rw[decide_eq_false c2];by_cases c3:s.Trim<0
 ·rw[decide_eq_true c3,no (λh=>by have:=h.trim;omega)];rfl
 rw[decide_eq_false c3];by_cases c4:s.Trim>20
 ·rw[decide_eq_true c4,no (λh=>by have:=h.trim;omega)];rfl
 rw[decide_eq_false c4];simp only[cond_false];by_cases c5:s.Pitch<1
 ·rw[decide_eq_true c5,no (λh=>by have:=h.pitch;omega)];rfl
 rw[decide_eq_false c5];by_cases c6:s.Pitch>2000
 ·rw[decide_eq_true c6,no (λh=>by have:=h.pitch;omega)];rfl
 rw[decide_eq_false c6];by_cases c7:1<=s.Step/\s.Step<=20000
 ·rw[decide_eq_true c7];simp only[cond_false,Bool.not_true];by_cases d1:r.Chip<0
  ·rw[decide_eq_true d1,no (λh=>by have:=h.chip;omega)];rfl
  rw[decide_eq_false d1];by_cases d2:r.Chip>1000
  ·rw[decide_eq_true d2,no (λh=>by have:=h.chip;omega)];rfl
  rw[decide_eq_false d2];by_cases d3:r.Dust<0
  ·rw[decide_eq_true d3,no (λh=>by have:=h.dust;omega)];rfl
  rw[decide_eq_false d3];by_cases d4:r.Dust>1000
  ·rw[decide_eq_true d4,no (λh=>by have:=h.dust;omega)];rfl
  rw[decide_eq_false d4];by_cases d5:0<=r.Fine/\r.Fine<=1000000
  ·rw[decide_eq_true d5,(JL s r).2 ⟨by omega,by omega,by omega,by omega,by omega,by omega,by omega⟩];rfl
  ·rw[decide_eq_false d5,no (λh=>d5 h.fine)];rfl
 ·rw[decide_eq_false c7,no (λh=>c7 h.step)];rfl
def VR (r:Rect):Prop:=(-600<=r.X.A/\r.X.A<r.X.B/\r.X.B<=600)/\(-600<=r.Y.A/\r.Y.A<r.Y.B/\r.Y.B<=600)
instance (r :Rect):Decidable (VR r):=by unfold VR;exact inferInstance
def badR (lo hi:Int):Option Bool:=if lo< -600\/600<hi\/hi<=lo then some false else none
theorem qCz {lo hi:Int}:badR lo hi=none↔-600<=lo/\lo<hi/\hi<=600:=by
 unfold badR;by_cases h:lo< -600\/600<hi\/hi<=lo
 ·rw[if_pos h];exact⟨λh=>(by cases h),λh=>by omega⟩
 ·rw[if_neg h];exact⟨λ_=>by omega,λ_=>rfl⟩
theorem qOw (r:Rect) (L:Nat->Int->Option (Bool⊕Unit))
  (h0:∀n,L (n+1) 0=match badR r.X.A r.X.B with|some e=>some (.inl e)|none=>L n 1)
  (h1:∀n,L (n+1) 1=match badR r.Y.A r.Y.B with|some e=>some (.inl e)|none=>L n 2)
  (h2:∀n,L (n+1) 2=some (.inr ())):((L FUEL 0).bind λu=>Sum.elim (λv=>some v) (λ_=>some true) u)=some (decide (VR r)):=by
 rw[FUEL_eq,show(4611686018427387904:Nat)=4611686018427387901+1+1+1 from rfl,h0];cases hx:badR r.X.A r.X.B with
 |some e=>
  have:¬VR r:=λh=>by rw[qCz.2 h.1] at hx;cases hx
  rw[decide_eq_false this];unfold badR at hx;split at hx<;>cases hx;rfl
 |none=>
  simp only;rw[h1];cases hy:badR r.Y.A r.Y.B with
  |some e=>
   have:¬VR r:=λh=>by rw[qCz.2 h.2] at hy;cases hy
   rw[decide_eq_false this];unfold badR at hy;split at hy<;>cases hy;rfl
  |none=>
   simp only;rw[h2,decide_eq_true (show VR r from⟨qCz.1 hx,qCz.1 hy⟩)];rfl
theorem qOn {lo hi:Int} {α:Type} (k:Bool->α):(bif decide (lo< -600) then k true else bif decide (hi>600) then k true else k (decide (lo≥hi)))=k (match badR lo hi with|some _=>true|none=>false):=by
 unfold badR;by_cases h1:lo< -600
 ·rw[decide_eq_true h1,if_pos (.inl h1)];rfl
 rw[decide_eq_false h1];by_cases h2:hi>600
 ·rw[decide_eq_true h2,if_pos (by omega)];rfl
 rw[decide_eq_false h2];by_cases h3:lo≥hi
 ·rw[decide_eq_true h3,if_pos (by omega)];rfl
 ·rw[decide_eq_false h3,if_neg (by omega)];rfl
theorem qTN (r:Rect):BZ r=some (decide (VR r)):=by
 unfold BZ;refine qOw r (wH r) (λn=>?_) (λn=>?_) (λn=>?_)
 ·rw[wH,decide_eq_true (by omega),qG (by omega) (by omega)];simp only[cond_true];refine(qOn (lo:=r.X.A) (hi:=r.X.B) (λb=>yS 0 (wH r n) b)).trans ?_;unfold badR yS;split<;>rename_i h<;>revert h<;>split<;>intro h<;>(try cases h)<;>rfl
 ·rw[wH,decide_eq_true (by omega),qG (by omega) (by omega)];simp only[cond_true];refine(qOn (lo:=r.Y.A) (hi:=r.Y.B) (λb=>yS 1 (wH r n) b)).trans ?_;unfold badR yS;split<;>rename_i h<;>revert h<;>split<;>intro h<;>(try cases h)<;>rfl
 ·rw[wH,decide_eq_false (by omega)];rfl
theorem isFrame_eq (r:Rect):jQ r=some (decide (VR r)):=by
 unfold jQ;refine qOw r (qZ r) (λn=>?_) (λn=>?_) (λn=>?_)
 ·rw[qZ,decide_eq_true (by omega),qG (by omega) (by omega)];simp only[cond_true];refine(qOn (lo:=r.X.A) (hi:=r.X.B) (λb=>wO 0 (qZ r n) b)).trans ?_;unfold badR wO;split<;>rename_i h<;>revert h<;>split<;>intro h<;>(try cases h)<;>rfl
 ·rw[qZ,decide_eq_true (by omega),qG (by omega) (by omega)];simp only[cond_true];refine(qOn (lo:=r.Y.A) (hi:=r.Y.B) (λb=>wO 1 (qZ r n) b)).trans ?_;unfold badR wO;split<;>rename_i h<;>revert h<;>split<;>intro h<;>(try cases h)<;>rfl
 ·rw[qZ,decide_eq_false (by omega)];rfl
noncomputable def chkE (s:List qB) (d:List Defect) (p:List Product) (r:Rect) (w:Saw) (t:Rates):Int:=
 if TT s≠0 then TT s else if RN d≠0 then RN d else if qY p≠0 then qY p else if YQ w t≠0 then YQ w t
 else if r.X.A≥r.X.B\/r.Y.A≥r.Y.B then 19
 else if r.X.A< -600\/600<r.X.A\/r.X.B< -600\/600<r.X.B\/r.Y.A< -600\/600<r.Y.A\/r.Y.B< -600\/600<r.Y.B then 9 else 0
structure VE (s:List qB) (d:List Defect) (p:List Product) (r:Rect) (w:Saw) (t:Rates):Prop where
 sol:VSol s
 dl:d.length<=64
 dd:∀x∈d,VD x
 pr:qY p=0
 vw:VW w t
 vr:VR r
theorem VB {s:List qB} {d:List Defect} {p:List Product} {r:Rect} {w:Saw} {t:Rates}:chkE s d p r w t=0↔VE s d p r w t:=by
 unfold chkE;by_cases h1:TT s≠0
 ·rw[if_pos h1];exact⟨λh=>absurd h h1,λh=>absurd ((VH s).2 h.sol) h1⟩
 rw[if_neg h1];by_cases h2:RN d≠0
 ·rw[if_pos h2];exact⟨λh=>absurd h h2,λh=>absurd ((VO d).2 ⟨h.dl,h.dd⟩) h2⟩
 rw[if_neg h2];by_cases h3:qY p≠0
 ·rw[if_pos h3];exact⟨λh=>absurd h h3,λh=>absurd h.pr h3⟩
 rw[if_neg h3];by_cases h4:YQ w t≠0
 ·rw[if_pos h4];exact⟨λh=>absurd h h4,λh=>absurd ((JL w t).2 h.vw) h4⟩
 rw[if_neg h4];by_cases h5:r.X.A≥r.X.B\/r.Y.A≥r.Y.B
 ·rw[if_pos h5];exact⟨λh=>absurd h (by decide),λh=>by have:=h.vr;unfold VR at this;omega⟩
 rw[if_neg h5];by_cases h6:r.X.A< -600\/600<r.X.A\/r.X.B< -600\/600<r.X.B\/r.Y.A< -600\/600<r.Y.A\/r.Y.B< -600\/600<r.Y.B
 ·rw[if_pos h6];exact⟨λh=>absurd h (by decide),λh=>by have:=h.vr;unfold VR at this;omega⟩
 rw[if_neg h6];have k2:=(VO d).1 (by omega);exact⟨λ_=>⟨(VH s).1 (by omega),k2.1,k2.2,by omega,(JL w t).1 (by omega),by unfold VR;omega⟩,λ_=>rfl⟩
theorem chkE_eq (s:List qB) (d:List Defect) (p:List Product) (r:Rect) (w:Saw) (t:Rates):ET s d p r w t=some (chkE s d p r w t):=by
 unfold ET chkE HU;rw[(OM s).1,qFh,SE,qE8];simp only[Option.bind_some];have bt:∀{n:Int},n≠0->(n !=0)=true:=λh=>by rw[bne_iff_ne];exact h
 have bf:∀{n:Int},¬n≠0->(n !=0)=false:=λh=>by rw[bne_eq_false_iff_eq];omega
 by_cases h1:TT s≠0
 ·rw[if_pos h1,bt h1];rfl
 rw[if_neg h1,bf h1];by_cases h2:RN d≠0
 ·rw[if_pos h2,bt h2];rfl
 rw[if_neg h2,bf h2];by_cases h3:qY p≠0
 ·rw[if_pos h3,bt h3];rfl
 rw[if_neg h3,bf h3];by_cases h4:YQ w t≠0
 ·rw[if_pos h4,bt h4];rfl
 rw[if_neg h4,bf h4];simp only[cond_false];by_cases h5:r.X.A≥r.X.B
 ·rw[if_pos (.inl h5),decide_eq_true h5];rfl
 rw[decide_eq_false h5];by_cases h6:r.Y.A≥r.Y.B
 ·rw[if_pos (.inr h6),decide_eq_true h6];rfl
 rw[decide_eq_false h6,if_neg (by omega)];simp only[cond_false];have L:QD r FUEL ((0:Nat):Int)=some (findN (λi=>if(([r.X.A,r.X.B,r.Y.A,r.Y.B]:List Int).getD i 0)< -600\/600<(([r.X.A,r.X.B,r.Y.A,r.Y.B]:List Int).getD i 0) then some (9:Int) else none) 0 (4-0)):=by
  refine ZR 4 (QD r) _ 0 (by omega) (by omega) (λn i hi hN=>?_) (λn=>?_)
  ·rw[QD,decide_eq_true (by omega),qG (by omega) (by omega)];simp only[cond_true,Int.toNat_natCast,qO (show i<4611686018427387904 by omega),HR];by_cases c1:([r.X.A,r.X.B,r.Y.A,r.Y.B]:List Int).getD i 0< -600
   ·rw[decide_eq_true c1,if_pos (.inl c1)];rfl
   rw[decide_eq_false c1];by_cases c2:600<([r.X.A,r.X.B,r.Y.A,r.Y.B]:List Int).getD i 0
   ·rw[decide_eq_true (show([r.X.A,r.X.B,r.Y.A,r.Y.B]:List Int).getD i 0>600 from c2),if_pos (.inr c2)];rfl
   ·rw[decide_eq_false (show¬([r.X.A,r.X.B,r.Y.A,r.Y.B]:List Int).getD i 0>600 from c2),if_neg (by omega)];rfl
  ·rw[QD,decide_eq_false (by omega)];rfl
 rw[show((0:Nat):Int)=0 from rfl] at L;rw[L];simp only[findN,List.getD_cons_zero,List.getD_cons_succ,Nat.sub_zero];by_cases c1:r.X.A< -600\/600<r.X.A
 ·rw[if_pos c1,if_pos (show(r.X.A< -600\/600<r.X.A\/r.X.B< -600\/600<r.X.B\/r.Y.A< -600\/600<r.Y.A\/r.Y.B< -600\/600<r.Y.B) by omega)];rfl
 rw[if_neg c1];by_cases c2:r.X.B< -600\/600<r.X.B
 ·rw[if_pos c2,if_pos (show(r.X.A< -600\/600<r.X.A\/r.X.B< -600\/600<r.X.B\/r.Y.A< -600\/600<r.Y.A\/r.Y.B< -600\/600<r.Y.B) by omega)];rfl
 rw[if_neg c2];by_cases c3:r.Y.A< -600\/600<r.Y.A
 ·rw[if_pos c3,if_pos (show(r.X.A< -600\/600<r.X.A\/r.X.B< -600\/600<r.X.B\/r.Y.A< -600\/600<r.Y.A\/r.Y.B< -600\/600<r.Y.B) by omega)];rfl
 rw[if_neg c3];by_cases c4:r.Y.B< -600\/600<r.Y.B
 ·rw[if_pos c4,if_pos (show(r.X.A< -600\/600<r.X.A\/r.X.B< -600\/600<r.X.B\/r.Y.A< -600\/600<r.Y.A\/r.Y.B< -600\/600<r.Y.B) by omega)];rfl
 rw[if_neg c4,if_neg (show¬(r.X.A< -600\/600<r.X.A\/r.X.B< -600\/600<r.X.B\/r.Y.A< -600\/600<r.Y.A\/r.Y.B< -600\/600<r.Y.B) by omega)];rfl
end Saw
end Go.SL

namespace Go.SL
theorem qKa {σ β ι:Type} (N:Nat) (L:Nat->σ->ι->Option β) (idx:Nat->ι) (f:Nat->σ->σ) (out:σ->β) (Inv:Nat->σ->Prop) (hN:N<=1000000000)
  (h0:∀n i s,i<N->Inv i s->L (n+1) s (idx i)=L n (f i s) (idx (i+1))/\Inv (i+1) (f i s))
  (h1:∀n s,Inv N s->L (n+1) s (idx N)=some (out s)) (s:σ) (hs:Inv 0 s):L FUEL s (idx 0)=some (out (foldN f 0 N s))/\Inv N (foldN f 0 N s):=by
 have key:∀k n x s,x+k=N->k<n->Inv x s->L n s (idx x)=some (out (foldN f x k s))/\Inv N (foldN f x k s):=by
  intro k
  induction k with
  |zero=>
   intro n x s hx hn hi;obtain⟨n,rfl⟩:∃m,n=m+1:=⟨n-1,by omega⟩
   rw[Nat.add_zero] at hx;subst hx;exact⟨h1 n s hi,hi⟩
  |succ k ih=>
   intro n x s hx hn hi;obtain⟨n,rfl⟩:∃m,n=m+1:=⟨n-1,by omega⟩
   have h:=h0 n x s (by omega) hi;rw[h.1];exact ih n (x+1) (f x s) (by omega) (by omega) h.2
 exact key N FUEL 0 s (by omega) (by rw[FUEL_eq];omega) hs
namespace Saw
def priceAt (p:Product) (n:Int) (i:Nat):Option (Int×Bool):=
 if p.Lengths.getD i default≠n then none else if p.Prices.length<=i then some (0,false) else some (p.Prices.getD i default,true)
def price (p:Product) (n:Int):Int×Bool:=match findN (priceAt p n) 0 p.Lengths.length with| .inl e=>e| .inr _=>(0,false)
theorem qUd (p:Product) (n:Int) (h:p.Lengths.length<=1000000):DA p n=some (price p n):=by
 unfold DA price;have L:QJ p n FUEL ((0:Nat):Int)=some (findN (priceAt p n) 0 (p.Lengths.length-0)):=by
  refine ZR p.Lengths.length (QJ p n) _ 0 (by omega) (by omega) (λm i hi hN=>?_) (λm=>?_)
  ·rw[QJ,decide_eq_true (by omega),qG (by omega) (by omega)];simp only[cond_true,Int.toNat_natCast,qO (show i<4611686018427387904 by omega),priceAt];by_cases c:p.Lengths.getD i default≠n
   ·rw[if_pos c,show(p.Lengths.getD i default !=n)=true by rw[bne_iff_ne];exact c];rfl
   rw[if_neg c,show(p.Lengths.getD i default !=n)=false by rw[bne_eq_false_iff_eq];omega];by_cases c2:p.Prices.length<=i
   ·rw[if_pos c2,decide_eq_true (show(i:Int)≥((p.Prices.length:Nat):Int) by omega)];rfl
   ·rw[if_neg c2,decide_eq_false (show¬(i:Int)≥((p.Prices.length:Nat):Int) by omega),qG (by omega) (by omega)];rfl
  ·rw[QJ,decide_eq_false (by omega)];rfl
 rw[show((0:Nat):Int)=0 from rfl,Nat.sub_zero] at L;rw[L];simp only[Option.bind_some];cases findN (priceAt p n) 0 p.Lengths.length<;>rfl
def tch (d b:Box):Bool:=!(empS (mxS d.X b.X)||(empS (mxS d.Y b.Y)||empS (mxS d.Z b.Z)))
theorem qKP (d:Defect) (b:Box):XX d b=some (tch d.Box b):=by
 unfold XX CQ UG tch;simp only[qB0,Option.bind_some,qNm,qRl];cases empS (mxS d.Box.X b.X)<;>cases empS (mxS d.Box.Y b.Y)<;>cases empS (mxS d.Box.Z b.Z)<;>rfl
def TP (r:Rect):Int:=(r.X.B-r.X.A)*(r.Y.B-r.Y.A)
def qHm (a w:Int):Int:=Int.tdiv (1000*(a-w)+a-1) a
def zones (l:List qB) (r:Rect):List Worth_zone:=(List.range l.length).map (λi=>⟨ext l i,qHm (TP r) (zF (l.getD i default).Sec r.X r.Y)⟩)
theorem areaR_b {r:Rect} (h:VR r):1<=TP r/\TP r<=1440000:=by
 unfold VR at h;unfold TP;have a:=WA (a:=r.X.B-r.X.A) (b:=r.Y.B-r.Y.A) (m:=1200) (n:=1200) (by omega) (by omega) (by omega) (by omega) (by omega) (by omega);have b:=Int.mul_pos (show 0<r.X.B-r.X.A by omega) (show 0<r.Y.B-r.Y.A by omega);omega
theorem qUE {l:List qB} (h:VSol l) {r:Rect} (hr:VR r):MX l r=some (zones l r):=by
 have hl:=h.len;have ha:=areaR_b hr;have eA:w64 (w64 (r.X.B-r.X.A)*w64 (r.Y.B-r.Y.A))=TP r:=by
  have hr':=hr;unfold VR at hr';rw[qD (n:=r.X.B-r.X.A) (by omega) (by omega),qD (n:=r.Y.B-r.Y.A) (by omega) (by omega)];unfold TP at ha⊢;exact qD (by omega) (by omega)
 unfold MX
 let zn:Nat->Worth_zone:=λi=>⟨ext l i,qHm (TP r) (zF (l.getD i default).Sec r.X r.Y)⟩
 have k:=zS l.length (λn (s:List Worth_zone×Int) i=>XY l r n s.1 s.2 i) (λi s=>(s.1++[zn i],lenTo l (i+1))) (λs=>s.1)
  (λi s=>s.1=(List.range i).map zn/\s.2=lenTo l i) 0 (by omega) (by omega)
  (λn i s hi hs=>by
   obtain⟨s1,s2⟩:=s;obtain⟨e1,e2⟩:=hs;simp only at e1 e2;have b:=h.bd (i:=i) (by omega);have b':=h.bd (i:=i+1) (by omega);have wb:=qPQ (h.at hi).1 r.X r.Y;rw[wM] at b';have e1':s1.length=i:=by rw[e1];simp
   refine⟨?_,by rw[e1,List.range_succ,List.map_append];rfl,rfl⟩;simp only;rw[XY,decide_eq_true (by omega),qG (by omega) (by omega)];simp only[cond_true,Int.toNat_natCast,qO (show i<4611686018427387904 by omega),qMJ,Option.bind_some,eA,e2];rw[qIZ (h.at hi).1,nz_t (by omega),qN (by omega) (by omega),qD (n:=lenTo l i+(l.getD i default).Len) (by omega) (by omega),
    qD (n:=TP r-zF (l.getD i default).Sec r.X r.Y) (by omega) (by omega),qD (n:=1000*_) (by omega) (by omega),qD (n:=1000*_+_) (by omega) (by omega),qD (n:=1000*_+_-1) (by omega) (by omega)]
   simp only[cond_true];have tb: -2000000000<=qHm (TP r) (zF (l.getD i default).Sec r.X r.Y)/\qHm (TP r) (zF (l.getD i default).Sec r.X r.Y)<=2000000000:=by
    unfold qHm;generalize hu:1000*(TP r-zF (l.getD i default).Sec r.X r.Y)+TP r-1=u;have hub: -1440000000<=u/\u<=1441440000:=by omega
    have ab:=Int.natAbs_tdiv_le_natAbs u (TP r);omega
   unfold qHm at tb;rw[qD (by omega) (by omega)];rfl)
  (λn s _=>by rw[XY,decide_eq_false (by omega)];rfl) ([],0) ⟨rfl,rfl⟩
 rw[show((0:Nat):Int)=0 from rfl] at k;rw[k.1];exact congrArg some k.2.1
structure VP (p:Product):Prop where
 nm:isNm p.Name=true
 th:5<=p.Thick/\p.Thick<=300
 wd:p.Thick<=p.Width/\p.Width<=600
 al:0<=p.Allow/\p.Allow<=200
 wn:0<=p.Wane/\p.Wane<=1000
 gr:(qP p).2<=600
 ll:1<=p.Lengths.length/\p.Lengths.length<=8
 pl:p.Prices.length=p.Lengths.length
 lb:∀i,i<p.Lengths.length->100<=p.Lengths.getD i default/\p.Lengths.getD i default<=20000
 pb:∀x∈p.Prices,0<=x/\x<=1000000
theorem qQ0 {p:Product} (hn:isNm p.Name=true) (h:UD p=0):VP p:=by
 unfold UD at h;by_cases h1:p.Thick<5\/300<p.Thick\/p.Width<p.Thick\/600<p.Width\/p.Allow<0\/200<p.Allow\/p.Wane<0\/1000<p.Wane
 ·rw[if_pos h1] at h;exact absurd h (by decide)
 rw[if_neg h1] at h;by_cases h2:600<(qP p).2
 ·rw[if_pos h2] at h;exact absurd h (by decide)
 rw[if_neg h2] at h;unfold qBF at h;by_cases h3:p.Lengths.length=0
 ·rw[if_pos h3] at h;exact absurd h (by decide)
 rw[if_neg h3] at h;by_cases h4:8<p.Lengths.length
 ·rw[if_pos h4] at h;exact absurd h (by decide)
 rw[if_neg h4] at h;by_cases h5:p.Prices.length≠p.Lengths.length
 ·rw[if_pos h5] at h;exact absurd h (by decide)
 rw[if_neg h5] at h;cases hf:findN (badLen p) 0 p.Lengths.length with
 |inl e=>
  rw[hf] at h;obtain⟨i,a,b,c,d⟩:=XC hf;unfold badLen at c;simp only at h;subst h;split at c
  ·cases c
  ·split at c<;>cases c
 |inr u=>
  rw[hf] at h;cases hg:findE badPr p.Prices with
  |inl e=>
   rw[hg] at h;obtain⟨a,ha,hb⟩:=qCP hg;simp only at h;subst h;unfold badPr at hb;split at hb<;>cases hb
  |inr u'=>
   refine⟨hn,by omega,by omega,by omega,by omega,by omega,by omega,by omega,λi hi=>?_,λx hx=>?_⟩
   ·have:=PQ.1 hf i (by omega) (by omega);unfold badLen at this;split at this
    ·cases this
    ·omega
   ·have:=XM.1 hg x hx;unfold badPr at this;split at this
    ·cases this
    ·omega
theorem qM9 {p:Product} (hn:isNm p.Name=true) {l:List Product} {i:Nat} (h:badP l i=none) (e:l.getD i default=p):UD p=0:=by
 unfold badP at h;rw[e,hn] at h;simp only[cond_true] at h;cases hf:findN (twin l i) 0 i with
 |inl e=>rw[hf] at h;cases h
 |inr u=>
  rw[hf] at h;by_cases hc:UD p=0
  ·exact hc
  ·rw[show(UD p !=0)=true by rw[bne_iff_ne];exact hc] at h;cases h
theorem qMf {l:List Product} {i:Nat} (h:badP l i=none):isNm (l.getD i default).Name=true:=by
 unfold badP at h;cases hn:isNm (l.getD i default).Name with
 |true=>rfl
 |false=>rw[hn] at h;cases h
theorem qPS {l:List Product} (h:qY l=0) {i:Nat} (hi:i<l.length):badP l i=none:=by
 unfold qY at h;split at h
 ·exact absurd h (by decide)
 ·cases hf:findN (badP l) 0 l.length with
  |inr u=>exact PQ.1 hf i (by omega) (by omega)
  |inl e=>
   rw[hf] at h;simp only at h;subst h;obtain⟨j,a,b,c,d⟩:=XC hf;unfold badP at c;cases hn:isNm (l.getD j default).Name with
   |false=>rw[hn] at c;cases c
   |true=>
    rw[hn] at c;simp only[cond_true] at c;cases hf':findN (twin l j) 0 j with
    |inl e=>
     rw[hf'] at c;obtain⟨i',a',b',c',d'⟩:=XC hf';unfold twin at c';cases c;cases hs:strEq (l.getD i' default).Name (l.getD j default).Name<;>rw[hs] at c'<;>cases c'
    |inr u=>
     rw[hf'] at c;cases hz:UD (l.getD j default) !=0 with
     |true=>rw[hz] at c;simp only[cond_true] at c;injection c with c;exact absurd c (bne_iff_ne.1 hz)
     |false=>rw[hz] at c;cases c
theorem qIy {l:List Product} (h:qY l=0) {i:Nat} (hi:i<l.length):VP (l.getD i default):=by
 have b:=qPS h hi;exact qQ0 (qMf b) (qM9 (qMf b) b rfl)
theorem qMI {l:List Product} (h:qY l=0) {i:Nat} (hi:i<l.length):qY [l.getD i default]=0:=by
 have b:=qPS h hi;have hn:=qMf b;have hc:=qM9 hn b rfl;unfold qY;rw[if_neg (by simp)];have e:badP [l.getD i default] 0=none:=by
  unfold badP;rw[show[l.getD i default].getD 0 default=l.getD i default from rfl,hn,hc];rfl
 simp only[List.length_cons,List.length_nil,Nat.zero_add,findN,e]
def hitZ (z s:Span):Bool:=decide (z.A<s.B)&&decide (s.A<z.B)
def worst (zs:List Worth_zone) (s:Span):Int:=foldN (λi m=>bif hitZ (zs.getD i default).z s then imax m (zs.getD i default).lack else m) 0 zs.length 0
theorem qUh (zs:List Worth_zone) (s:Span) (h:zs.length<=1000000):HH zs s=some (worst zs s):=by
 unfold HH worst;have k:=zS zs.length (λn (m:Int) i=>yF zs s n m i) (λi m=>bif hitZ (zs.getD i default).z s then imax m (zs.getD i default).lack else m) (λm=>m) (λ_ _=>True) 0 (by omega) (by omega)
  (λn i m hi _=>⟨by
   rw[yF,decide_eq_true (by omega),qG (by omega) (by omega)];simp only[cond_true,Int.toNat_natCast,qO (show i<4611686018427387904 by omega),LU,LO,hitZ];cases decide ((zs.getD i default).z.A<s.B)<;>cases decide (s.A<(zs.getD i default).z.B)<;>rfl,trivial⟩)
  (λn m _=>by rw[yF,decide_eq_false (by omega)];rfl) 0 trivial
 rw[show((0:Nat):Int)=0 from rfl,Nat.sub_zero] at k;rw[k.1];rfl
def dstep (ds:List Defect) (b:Box) (fine:Int) (i:Nat) (v:Int):(Int×Bool)⊕Int:=
 bif tch (ds.getD i default).Box b then(bif (ds.getD i default).Kind==3 then .inl (0,false) else .inr (v-fine)) else .inr v
def zaQ (ds:List Defect) (b:Box) (fine v:Int):Int×Bool:=match runN (dstep ds b fine) 0 ds.length v with| .inl e=>e| .inr o=>(imax o 0,true)
def worthV (v:Worth_view) (s:Span) (fine:Int):Int×Bool:=
 if 0<=s.A/\s.A<s.B/\s.B<=v.length then
  bif (price v.product (s.B-s.A)).2 then
   if worst v.zones s>v.product.Wane then(0,false) else zaQ v.defects ⟨v.rect.X,v.rect.Y,s⟩ fine (price v.product (s.B-s.A)).1
  else(0,false)
 else(0,false)
theorem qRq {p:Product} (h:VP p) (n:Int):0<=(price p n).1/\(price p n).1<=1000000:=by
 unfold price;cases hf:findN (priceAt p n) 0 p.Lengths.length with
 |inr u=>exact⟨show(0:Int)<=0 by decide,show(0:Int)<=1000000 by decide⟩
 |inl e=>
  obtain⟨i,a,b,c,d⟩:=XC hf;unfold priceAt at c;split at c
  ·cases c
  ·split at c
   ·cases c;exact⟨by decide,by decide⟩
   ·cases c;exact h.pb _ (wK (by omega))
theorem qTK (v:Worth_view) (s:Span) {fine v0:Int} (hf:0<=fine/\fine<=1000000) (hv:0<=v0/\v0<=1000000) (hl:v.defects.length<=64):
  ((zJ v fine ⟨v.rect.X,v.rect.Y,s⟩ FUEL v0 0).bind λu=>Sum.elim (λw=>some w) (λo=>some (imax o 0,true)) u)=some (zaQ v.defects ⟨v.rect.X,v.rect.Y,s⟩ fine v0):=by
 have k:=qDj v.defects.length (λn (m:Int) i=>zJ v fine ⟨v.rect.X,v.rect.Y,s⟩ n m i) (dstep v.defects ⟨v.rect.X,v.rect.Y,s⟩ fine) (λr=>r) (λi m=> -(1000000*(i:Int))<=m/\m<=1000000)
  (λn i m hi hm=>by
   unfold dstep;have e:zJ v fine ⟨v.rect.X,v.rect.Y,s⟩ (n+1) m (i:Int)=bif tch (v.defects.getD i default).Box ⟨v.rect.X,v.rect.Y,s⟩ then(bif (v.defects.getD i default).Kind==3 then some (.inl (0,false)) else zJ v fine ⟨v.rect.X,v.rect.Y,s⟩ n (m-fine) ((i+1:Nat):Int)) else zJ v fine ⟨v.rect.X,v.rect.Y,s⟩ n m ((i+1:Nat):Int):=by
    rw[zJ,decide_eq_true (by omega),qG (by omega) (by omega)];simp only[cond_true,Int.toNat_natCast,qO (show i<4611686018427387904 by omega),qKP,Option.bind_some,PA];rw[qD (n:=m-fine) (by omega) (by omega)];cases tch (v.defects.getD i default).Box ⟨v.rect.X,v.rect.Y,s⟩<;>cases (v.defects.getD i default).Kind==3<;>rfl
   cases h1:tch (v.defects.getD i default).Box ⟨v.rect.X,v.rect.Y,s⟩ with
   |false=>rw[h1] at e;exact⟨e,by omega⟩
   |true=>cases h2:(v.defects.getD i default).Kind==3 with
    |true=>rw[h1,h2] at e;exact e
    |false=>rw[h1,h2] at e;exact⟨e,by omega⟩)
  (λn m _=>by rw[zJ,decide_eq_false (by omega)];rfl) FUEL 0 v0 (by rw[FUEL_eq];omega) (by omega) (by omega)
 rw[show((0:Nat):Int)=0 from rfl,Nat.sub_zero] at k;rw[k];unfold zaQ;cases runN (dstep v.defects ⟨v.rect.X,v.rect.Y,s⟩ fine) 0 v.defects.length v0<;>rfl
theorem qTF (v:Worth_view) (s:Span) {fine:Int} (hf:0<=fine/\fine<=1000000) (hp:VP v.product) (hl:v.defects.length<=64) (hz:v.zones.length<=1000000) (hn:v.length<=20000):
  WW v s fine=some (worthV v s fine):=by
 unfold WW worthV LC XA;have hll:=hp.ll;by_cases c1:s.A≥0
 ·rw[decide_eq_true c1];by_cases c2:s.A<s.B
  ·rw[decide_eq_true c2];by_cases c3:s.B<=v.length
   ·rw[decide_eq_true c3,if_pos ⟨c1,c2,c3⟩,qD (n:=s.B-s.A) (by omega) (by omega)];simp only[cond_true,Option.bind_some,Bool.not_true,cond_false,qUd v.product (s.B-s.A) (by omega),qUh v.zones s hz,KZ,KD];cases hq:(price v.product (s.B-s.A)).2 with
    |false=>rfl
    |true=>
     simp only[Bool.not_true,cond_false,cond_true];by_cases c4:worst v.zones s>v.product.Wane
     ·rw[decide_eq_true c4,if_pos c4];rfl
     ·rw[decide_eq_false c4,if_neg c4];simp only[cond_false];exact qTK v s hf (qRq hp _) hl
   ·rw[decide_eq_false c3,if_neg (λh=>c3 h.2.2)];rfl
  ·rw[decide_eq_false c2,if_neg (λh=>c2 h.2.1)];rfl
 ·rw[decide_eq_false c1,if_neg (λh=>c1 h.1)];rfl
theorem qUo {ds:List Defect} {b:Box} {fine v:Int} (hf:0<=fine) (hv:0<=v/\v<=1000000):0<=(zaQ ds b fine v).1/\(zaQ ds b fine v).1<=1000000:=by
 unfold zaQ;cases hr:runN (dstep ds b fine) 0 ds.length v with
 |inl e=>
  have:∀(k x:Nat) (w:Int),runN (dstep ds b fine) x k w= .inl e->e=(0,false):=by
   intro k
   induction k with
   |zero=>intro x w h;cases h
   |succ k ih=>
    intro x w h;unfold runN at h;cases hd:dstep ds b fine x w with
    |inr w'=>rw[hd] at h;exact ih _ _ h
    |inl e'=>
     rw[hd] at h;cases h;unfold dstep at hd;cases h1:tch (ds.getD x default).Box b with
     |false=>rw[h1] at hd;cases hd
     |true=>cases h2:(ds.getD x default).Kind==3 with
      |false=>rw[h1,h2] at hd;cases hd
      |true=>rw[h1,h2] at hd;cases hd;rfl
  rw[this _ _ _ hr];decide
 |inr o=>
  have:=runN_inv (dstep ds b fine) (λ_ m=>m<=1000000) ds.length (λx m m' _ hm e=>by
   unfold dstep at e;cases h1:tch (ds.getD x default).Box b with
   |false=>rw[h1] at e;cases e;exact hm
   |true=>cases h2:(ds.getD x default).Kind==3 with
    |true=>rw[h1,h2] at e;cases e
    |false=>rw[h1,h2] at e;cases e;show m-fine<=1000000;omega) ds.length 0 v o (by omega) hv.2 hr
  have h2:=WU o 0;simp only;omega
theorem qUC {v:Worth_view} {s:Span} {fine:Int} (hf:0<=fine) (hp:VP v.product):0<=(worthV v s fine).1/\(worthV v s fine).1<=1000000/\((worthV v s fine).2=true->0<=s.A/\s.A<s.B/\s.B<=v.length):=by
 unfold worthV;split
 ·rename_i h;cases (price v.product (s.B-s.A)).2 with
  |false=>exact⟨show(0:Int)<=0 by decide,show(0:Int)<=1000000 by decide,λh=>by cases h⟩
  |true=>
   simp only[cond_true];split
   ·exact⟨by decide,by decide,λh=>by cases h⟩
   ·have:=qUo (ds:=v.defects) (b:=⟨v.rect.X,v.rect.Y,s⟩) hf (qRq hp (s.B-s.A));exact⟨this.1,this.2,λ_=>h⟩
 ·exact⟨by decide,by decide,λh=>by cases h⟩
def dimOk (r:Rect) (p:Product):Bool:=((r.X.B-r.X.A==(qP p).1)&&(r.Y.B-r.Y.A==(qP p).2))||((r.X.B-r.X.A==(qP p).2)&&(r.Y.B-r.Y.A==(qP p).1))
def near (ds:List Defect) (b:Box):List Defect:=foldN (λi t=>bif tch (ds.getD i default).Box b then t++[ds.getD i default] else t) 0 ds.length []
theorem qT9 (ds:List Defect) (b:Box):(near ds b).length<=ds.length:=by
 unfold near;have:∀k,(foldN (λi t=>bif tch (ds.getD i default).Box b then t++[ds.getD i default] else t) 0 k ([]:List Defect)).length<=k:=by
  intro k
  induction k with
  |zero=>simp[foldN]
  |succ k ih=>
   rw[XJ];cases tch (ds.getD (0+k) default).Box b with
   |true=>simp only[cond_true,List.length_append,List.length_cons,List.length_nil];omega
   |false=>simp only[cond_false];omega
 exact this _
def RF (l:List qB) (ds:List Defect) (p:Product) (r:Rect):Worth_view:=⟨p,r,solLen l,zones l r,near ds ⟨r.X,r.Y,⟨0,solLen l⟩⟩⟩
def qST :Worth_view:=⟨⟨⟨#[]⟩,0,0,0,0,[],[]⟩,⟨⟨0,0⟩,⟨0,0⟩⟩,0,[],[]⟩
theorem look_eq {l:List qB} {ds:List Defect} {p:Product} {r:Rect} (hs:VSol l) (hd:RN ds=0) (hp:qY [p]=0) (hr:VR r):
  IF l ds p r=some (bif dimOk r p then(RF l ds p r,true) else(qST,false)):=by
 have hdl:=((VO ds).1 hd).1;unfold IF;rw[(OM l).1,(VH l).2 hs,qFh,hd,SE,hp,qTN,decide_eq_true hr];simp only[Option.bind_some,bne_self_eq_false,cond_false,Bool.not_true];unfold PH;rw[(NK p).1];have hr':=hr;unfold VR at hr';rw[qD (n:=r.X.B-r.X.A) (by omega) (by omega),qD (n:=r.Y.B-r.Y.A) (by omega) (by omega)];have K:∀b,GZ l ds p r b=some (bif b then(qST,false) else(RF l ds p r,true)):=λb=>by
  unfold GZ;cases b with
  |true=>rfl
  |false=>
   rw[(qAC l).1,EC hs,qUE hs hr];simp only[Option.bind_some,cond_false,KD];have k:=zS ds.length (λn (t:List Defect) i=>ZY ds ⟨r.X,r.Y,⟨0,solLen l⟩⟩ n i t) (λi t=>bif tch (ds.getD i default).Box ⟨r.X,r.Y,⟨0,solLen l⟩⟩ then t++[ds.getD i default] else t) (λt=>t) (λi t=>t.length<=i) 0 (by omega) (by omega)
    (λn i t hi ht=>by
     refine⟨?_,?_⟩
     ·rw[ZY,decide_eq_true (by omega),qG (by omega) (by omega)];simp only[cond_true,Int.toNat_natCast,qO (show i<4611686018427387904 by omega),qKP,Option.bind_some,HO];rw[qN (by omega) (by omega)];cases tch (ds.getD i default).Box ⟨r.X,r.Y,⟨0,solLen l⟩⟩<;>rfl
     ·cases tch (ds.getD i default).Box ⟨r.X,r.Y,⟨0,solLen l⟩⟩ with
      |true=>simp only[cond_true,List.length_append,List.length_cons,List.length_nil];omega
      |false=>simp only[cond_false];omega)
    (λn t _=>by rw[ZY,decide_eq_false (by omega)];rfl) [] (by simp)
   rw[show((0:Nat):Int)=0 from rfl,Nat.sub_zero] at k;rw[k.1];rfl
 simp only[Option.bind_some,cond_false,K,Bool.and_true,dimOk];cases (r.X.B-r.X.A==(qP p).1)&&(r.Y.B-r.Y.A==(qP p).2)<;>cases (r.X.B-r.X.A==(qP p).2)&&(r.Y.B-r.Y.A==(qP p).1)<;>rfl
def spanAt (p:Product) (z:Int) (i:Nat):Span:=⟨z,z+p.Lengths.getD i default⟩
def qGu (st:Int×Bool×Span) (v:Int×Bool) (s:Span):Int×Bool×Span:=bif v.2&&(!st.2.1||decide (v.1>st.1)) then(v.1,true,s) else st
def qGG (v:Worth_view) (fine z:Int) (st:Int×Bool×Span):Int×Bool×Span:=foldN (λi st=>qGu st (worthV v (spanAt v.product z i) fine) (spanAt v.product z i)) 0 v.product.Lengths.length st
def qCn (n step:Int):Nat:=((n+step-1)/step).toNat
def bestV (v:Worth_view) (step fine:Int):Int×Bool×Span:=foldN (λk st=>qGG v fine ((k:Int)*step) st) 0 (qCn v.length step) (0,false,⟨0,0⟩)
theorem qNe {n step:Int} (h0:0<=n) (h1:1<=step) {k:Nat}:k<qCn n step↔(k:Int)*step<n:=by
 unfold qCn;have hd:0<=(n+step-1)/step:=Int.ediv_nonneg (by omega) (by omega);have a:(k:Int)<(n+step-1)/step↔((k:Int)+1)*step<=n+step-1:=by
  rw[<-Int.le_ediv_iff_mul_le (by omega)];omega
 have e:((k:Int)+1)*step=(k:Int)*step+step:=by rw[Int.add_mul];simp
 rw[e] at a;omega
def BI' (n:Int) (st:Int×Bool×Span):Prop:=0<=st.1/\st.1<=1000000/\(st.2.1=true->0<=st.2.2.A/\st.2.2.A<st.2.2.B/\st.2.2.B<=n)
theorem qTQ {n:Int} {st:Int×Bool×Span} {v:Int×Bool} {s:Span} (h:BI' n st) (hv:0<=v.1/\v.1<=1000000/\(v.2=true->0<=s.A/\s.A<s.B/\s.B<=n)):BI' n (qGu st v s):=by
 unfold qGu;cases hc:v.2&&(!st.2.1||decide (v.1>st.1)) with
 |false=>exact h
 |true=>
  have:v.2=true:=by cases h2:v.2 with|true=>rfl|false=>rw[h2] at hc;cases hc
  exact⟨hv.1,hv.2.1,λ_=>hv.2.2 this⟩
theorem NN {σ:Type} {f:Nat->σ->σ} {P:σ->Prop}:∀{k x:Nat} {s:σ},P s->(∀i s,x<=i->i<x+k->P s->P (f i s))->P (foldN f x k s)
 |0,_,_,h,_=>h
 |k+1,x,s,h,hf=>by
  unfold foldN;exact NN (k:=k) (hf x s (Nat.le_refl _) (by omega) h) (λi s h1 h2=>hf i s (by omega) (by omega))
theorem qSL {v:Worth_view} {fine z:Int} {st:Int×Bool×Span} (hf:0<=fine) (hp:VP v.product) (h:BI' v.length st):BI' v.length (qGG v fine z st):=
 NN h (λi s _ _ hs=>qTQ hs (qUC hf hp))
theorem qUj {v:Worth_view} {step fine:Int} (hf:0<=fine) (hp:VP v.product):BI' v.length (bestV v step fine):=
 NN ⟨by decide,by decide,λh=>by cases h⟩ (λi s _ _ hs=>qSL hf hp hs)
theorem qTg (v:Worth_view) {fine z:Int} (hf:0<=fine/\fine<=1000000) (hp:VP v.product) (hl:v.defects.length<=64) (hz:v.zones.length<=1000000) (hn:v.length<=20000) (h0:0<=z) (h1:z<=20000) (a b:Bool) (st:Int×Bool×Span):
  jF v.product fine (v,a) z FUEL st.1 st.2.1 0 st.2.2=some (qGG v fine z st):=by
 have hll:=hp.ll;have k:=zS v.product.Lengths.length (λn (s:Int×Bool×Span) i=>jF v.product fine (v,a) z n s.1 s.2.1 i s.2.2) (λi st=>qGu st (worthV v (spanAt v.product z i) fine) (spanAt v.product z i)) (λs=>s) (λ_ _=>True) 0 (by omega) (by omega)
  (λn i s hi _=>⟨by
   obtain⟨s1,s2,s3⟩:=s;have lb:=hp.lb i hi
   try simp only
   rw[jF,decide_eq_true (by omega),qG (by omega) (by omega)];simp only[cond_true,Int.toNat_natCast,qO (show i<4611686018427387904 by omega)];rw[qD (n:=z+v.product.Lengths.getD i default) (by omega) (by omega)];have e:WW ⟨v.product,v.rect,v.length,v.zones,v.defects⟩ ⟨z,z+v.product.Lengths.getD i default⟩ fine=some (worthV v (spanAt v.product z i) fine):=qTF v (spanAt v.product z i) hf hp hl hz hn;rw[e];simp only[Option.bind_some,DG,HP,qGu,Int.toNat_natCast,qO (show i<4611686018427387904 by omega)];rw[qD (n:=z+v.product.Lengths.getD i default) (by omega) (by omega)]
   cases (worthV v (spanAt v.product z i) fine).2<;>cases s2<;>cases decide ((worthV v (spanAt v.product z i) fine).1>s1)<;>rfl,trivial⟩)
  (λn s _=>by rw[jF,decide_eq_false (by omega)];rfl) st trivial
 rw[show((0:Nat):Int)=0 from rfl,Nat.sub_zero] at k;exact k.1
theorem qUA (v:Worth_view) {step fine:Int} (hf:0<=fine/\fine<=1000000) (hs:1<=step/\step<=20000) (hp:VP v.product) (hl:v.defects.length<=64) (hz:v.zones.length<=1000000) (hn:0<=v.length/\v.length<=20000) (a:Bool):
  YW v.product step fine (v,a) FUEL 0 false 0 ⟨0,0⟩=some (bestV v step fine):=by
 have hN:qCn v.length step<=1000000000:=by
  unfold qCn;have:=Int.ediv_le_self step (show 0<=v.length+step-1 by omega);omega
 have k:=qKa (qCn v.length step) (λn (s:Int×Bool×Span) (z:Int)=>YW v.product step fine (v,a) n s.1 s.2.1 z s.2.2) (λk=>(k:Int)*step) (λk st=>qGG v fine ((k:Int)*step) st) (λs=>s) (λ_ _=>True) hN
  (λn i s hi _=>⟨by
   have h1:=(qNe hn.1 hs.1).1 hi;have h0:0<=(i:Int)*step:=Int.mul_nonneg (by omega) (by omega);have e:(i:Int)*step+step=((i+1:Nat):Int)*step:=by rw[Int.natCast_add,Int.add_mul];simp
   try simp only
   rw[YW,decide_eq_true h1,qTg v hf hp hl hz hn.2 h0 (by omega) a true s,qD (by omega) (by omega),e];rfl,trivial⟩)
  (λn s _=>by
   have h1:¬((qCn v.length step:Nat):Int)*step<v.length:=λh=>by have:=(qNe hn.1 hs.1).2 h;omega
   try simp only
   rw[YW,decide_eq_false h1];rfl) (0,false,⟨0,0⟩) trivial
 simp only[Int.natCast_zero,Int.zero_mul] at k;exact k.1
def bestR (l:List qB) (ds:List Defect) (p:Product) (r:Rect) (step fine:Int):Int×Bool×Span:=bif dimOk r p then bestV (RF l ds p r) step fine else(0,false,⟨0,0⟩)
theorem qTO (l:List qB) (r:Rect):(zones l r).length=l.length:=by unfold zones;simp
theorem qIV {l:List qB} (h:VSol l):1<=solLen l/\solLen l<=20000:=by
 have:=h.bd (Nat.le_refl l.length);have:=h.ne;unfold solLen;omega
theorem qPF {l:List qB} {ds:List Defect} {p:Product} {r:Rect} {step fine:Int} (hf:0<=fine) (hp:VP p):BI' (solLen l) (bestR l ds p r step fine):=by
 unfold bestR;cases dimOk r p with
 |true=>exact qUj (v:=RF l ds p r) hf hp
 |false=>exact⟨show(0:Int)<=0 by decide,show(0:Int)<=1000000 by decide,λh=>by cases h⟩
theorem qPX {l:List qB} {ds:List Defect} {p:Product} {r:Rect} {step fine:Int} (hs:VSol l) (hd:RN ds=0) (hp:qY [p]=0) (hv:VP p) (hr:VR r) (hst:1<=step/\step<=20000) (hf:0<=fine/\fine<=1000000):
  LR l ds p r step fine=some ((bestR l ds p r step fine).2.2,(bestR l ds p r step fine).1,(bestR l ds p r step fine).2.1):=by
 have hdl:=((VO ds).1 hd).1;have hl:=hs.len;unfold LR HZ;rw[qMK,qNl,decide_eq_true hst,decide_eq_true hf];simp only[Option.bind_some,Bool.not_true,cond_false,look_eq hs hd hp hr];unfold bestR;cases dimOk r p with
 |false=>rfl
 |true=>
  simp only[cond_true,Bool.not_true,cond_false];have nl:=qT9 ds ⟨r.X,r.Y,⟨0,solLen l⟩⟩;have sb:=qIV hs;have k:=qUA (RF l ds p r) (step:=step) hf hst hv (by show(near ds _).length<=64;omega) (by show(zones l r).length<=1000000;rw[qTO];omega) ⟨by show 0<=solLen l;omega,sb.2⟩ true;rw[show(RF l ds p r).product=p from rfl] at k;rw[k];rfl
def gainS (l:List qB) (ds:List Defect) (p:Product) (r:Rect) (w:Saw) (t:Rates):Int:=
 bif (bestR l ds p r w.Step t.Fine).2.1 then
  (1000000*(bestR l ds p r w.Step t.Fine).1
   +t.Dust*(volS l r.X r.Y ⟨imax 0 ((bestR l ds p r w.Step t.Fine).2.2.A-w.Trim),(bestR l ds p r w.Step t.Fine).2.2.A⟩+volS l r.X r.Y ⟨(bestR l ds p r w.Step t.Fine).2.2.B,imin ((bestR l ds p r w.Step t.Fine).2.2.B+w.Trim) (solLen l)⟩))
   + t.Chip*(volS l r.X r.Y ⟨0,solLen l⟩-volS l r.X r.Y (bestR l ds p r w.Step t.Fine).2.2
     -(volS l r.X r.Y ⟨imax 0 ((bestR l ds p r w.Step t.Fine).2.2.A-w.Trim),(bestR l ds p r w.Step t.Fine).2.2.A⟩+volS l r.X r.Y ⟨(bestR l ds p r w.Step t.Fine).2.2.B,imin ((bestR l ds p r w.Step t.Fine).2.2.B+w.Trim) (solLen l)⟩))
 else-1
theorem qRz {l:List qB} {ds:List Defect} {p:Product} {r:Rect} {w:Saw} {t:Rates} (hs:VSol l) (hd:RN ds=0) (hp:qY [p]=0) (hv:VP p) (hr:VR r) (hw:VW w t):
  qAt l ds p r w t=some (gainS l ds p r w t)/\-1125899906842624<=gainS l ds p r w t/\gainS l ds p r w t<=1125899906842624:=by
 unfold qAt gainS;rw[qPX hs hd hp hv hr hw.step hw.fine];have B:=qPF (l:=l) (ds:=ds) (p:=p) (r:=r) (step:=w.Step) hw.fine.1 hv;generalize bestR l ds p r w.Step t.Fine=b at*;obtain⟨v,f,z⟩:=b;simp only[Option.bind_some] at*;cases f with
 |false=>exact⟨rfl,show(-1125899906842624:Int)<=-1 by decide,show(-1:Int)<=1125899906842624 by decide⟩
 |true=>
  obtain⟨b1,b2,b3⟩:=B;have b3:=b3 rfl;simp only at b1 b2 b3;simp only[Bool.not_true,cond_false,cond_true];have sb:=qIV hs;have tr:=hw.trim;rw[(qAC l).1,EC hs];simp only[Option.bind_some,qSW hs];rw[qD (n:=z.A-w.Trim) (by omega) (by omega),qD (n:=z.B+w.Trim) (by omega) (by omega)];have v1:=qBp hs r.X r.Y ⟨0,solLen l⟩;have v2:=qBp hs r.X r.Y z;have v3:=qBp hs r.X r.Y ⟨imax 0 (z.A-w.Trim),z.A⟩;have v4:=qBp hs r.X r.Y ⟨z.B,imin (z.B+w.Trim) (solLen l)⟩;generalize volS l r.X r.Y ⟨0,solLen l⟩=x1 at*;generalize volS l r.X r.Y z=x2 at*;generalize volS l r.X r.Y ⟨imax 0 (z.A-w.Trim),z.A⟩=x3 at*
  generalize volS l r.X r.Y ⟨z.B,imin (z.B+w.Trim) (solLen l)⟩=x4 at*;have m1:=WA (a:=t.Dust) (b:=x3+x4) (m:=1000) (n:=57600000000) (by have:=hw.dust;omega) (by have:=hw.dust;omega) (by omega) (by omega) (by omega) (by omega);have m2:=WA (a:=t.Chip) (b:=x1-x2-(x3+x4)) (m:=1000) (n:=86400000000) (by have:=hw.chip;omega) (by have:=hw.chip;omega) (by omega) (by omega) (by omega) (by omega);rw[qD (n:=1000000*v) (by omega) (by omega),qD (n:=x3+x4) (by omega) (by omega),qD (n:=x1-x2) (by omega) (by omega),qD (n:=x1-x2-(x3+x4)) (by omega) (by omega)];generalize t.Dust*(x3+x4)=y1 at*
  generalize t.Chip*(x1-x2-(x3+x4))=y2 at*;rw[qD (n:=y1) (by omega) (by omega),qD (n:=y2) (by omega) (by omega),qD (n:=1000000*v+y1) (by omega) (by omega),qD (by omega) (by omega)];exact⟨rfl,by omega,by omega⟩
structure SzI (l:List Product) (x:Nat) (s:List Int×List Int):Prop where
 len:s.1.length=s.2.length
 le:s.1.length<=x
 at_:∀j,j<s.1.length->∃i:Nat,i<x/\s.2.getD j default=(i:Int)/\(s.1.getD j default=(qP (l.getD i default)).1\/s.1.getD j default=(qP (l.getD i default)).2)
theorem qCV {α:Type} [Inhabited α] {l:List α} {x:α} {i:Nat} (h:i<=l.length):(l++[x]).getD i default=if i<l.length then l.getD i default else x:=by
 simp only[List.getD_eq_getElem?_getD,List.getElem?_append];by_cases c:i<l.length
 ·simp[c]
 ·have:i=l.length:=by omega
  subst this;simp
theorem qPn {l:List Product} {x:Nat} {s:List Int×List Int} (h:SzI l x s) {v:Int} (hv:v=(qP (l.getD x default)).1\/v=(qP (l.getD x default)).2):SzI l (x+1) (s.1++[v],s.2++[(x:Int)]):=by
 have h1:=h.len;have h2:=h.le;refine⟨by simp[h1],by simp;omega,λj hj=>?_⟩;simp only[List.length_append,List.length_cons,List.length_nil] at hj;simp only;rw[qCV (by omega),qCV (by omega)];by_cases c:j<s.1.length
 ·rw[if_pos c,if_pos (by omega)];obtain⟨i,a,b,d⟩:=h.at_ j c;exact⟨i,by omega,b,d⟩
 ·rw[if_neg c,if_neg (by omega)];exact⟨x,by omega,rfl,hv⟩
theorem qUz {l:List Product} {x:Nat} {s:List Int×List Int} (h:SzI l x s):SzI l (x+1) s:=⟨h.len,by have:=h.le;omega,λj hj=>by obtain⟨i,a,b⟩:=h.at_ j hj;exact⟨i,by omega,b⟩⟩
theorem qRw {l:List Product} (hc:qY l=0) (t:Int):SzI l l.length (sizes l t):=by
 unfold sizes;rw[if_neg (by omega)];have:∀k,SzI l k (foldN (sizStep l t) 0 k ([],[])):=by
  intro k
  induction k with
  |zero=>exact⟨rfl,by simp[foldN],λj hj=>by simp[foldN] at hj⟩
  |succ k ih=>
   rw[XJ,Nat.zero_add];unfold sizStep;cases (qP (l.getD k default)).1==t with
   |true=>exact qPn ih (.inr rfl)
   |false=>cases (qP (l.getD k default)).2==t with
    |true=>exact qPn ih (.inl rfl)
    |false=>exact qUz ih
 exact this _
theorem qMR {p:Product} (h:VP p):5<=(qP p).1/\(qP p).1<=721/\5<=(qP p).2/\(qP p).2<=600:=by
 have b:=qPq p;have g:=h.gr;have t:=h.th;have w:=h.wd;have a:=h.al;have e:okG p=true:=qHj.2 ⟨by omega,by omega,a⟩;have g1:=ED (n:=p.Thick) (a:=p.Allow) (by omega) (by omega) a.1 a.2;have g2:=ED (n:=p.Width) (a:=p.Allow) (by omega) (by omega) a.1 a.2;have eg:qP p=(CO p.Thick p.Allow,CO p.Width p.Allow):=by unfold qP;rw[e];rfl
 rw[eg] at b g⊢;simp only at b g⊢;omega
theorem qIK {l:List Product} (hc:qY l=0) (t:Int) {j:Nat} (hj:j<(sizes l t).1.length):5<=(sizes l t).1.getD j default/\(sizes l t).1.getD j default<=721/\∃i:Nat,i<l.length/\(sizes l t).2.getD j default=(i:Int)/\VP (l.getD i default)/\qY [l.getD i default]=0:=by
 obtain⟨i,a,b,c⟩:=(qRw hc t).at_ j hj;have v:=qIy hc a;have g:=qMR v;refine⟨by omega,by omega,i,a,b,v,qMI hc a⟩
def AJ (r:Rect) (a b:Int):Rect:=⟨⟨r.X.A+a,r.X.A+b⟩,r.Y⟩
theorem qLI {r:Rect} (h:VR r) {a b:Int} (h1: -2000<=a/\a<=2000) (h2: -2000<=b/\b<=2000):NW r a b=some (AJ r a b):=by
 unfold VR at h;unfold NW AJ;rw[qD (by omega) (by omega),qD (by omega) (by omega)]
theorem qRH {r:Rect} (h:VR r) {a b:Int} (h1:0<=a) (h2:a<b) (h3:b<=r.X.B-r.X.A):VR (AJ r a b):=by
 unfold VR at*;unfold AJ;simp only;omega
end Saw
end Go.SL
