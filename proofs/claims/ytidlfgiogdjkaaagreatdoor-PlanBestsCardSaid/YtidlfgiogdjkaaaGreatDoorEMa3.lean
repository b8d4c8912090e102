/- Edge's plain mathematics, part 5: defects, rates, rectangles; the check of an edging. -/
import Derived.Test.YtidlfgiogdjkaaaGreatDoorEMa2
set_option linter.unusedVariables false
set_option linter.unusedSimpArgs false
namespace Go.SL
namespace Saw
def insS (s:Span) (lo hi:Int):Bool:=decide ((lo<=s.A/\lo<=s.B)/\(s.A<=hi/\s.B<=hi))
theorem q0S (s:Span) (lo hi:Int):KW s lo hi=some (insS s lo hi):=by
 unfold KW NF insS;have a:=imin_or s.A s.B;have b:=jN s.A s.B;by_cases h1:imin s.A s.B≥lo
 ·rw[kd h1];by_cases h2:imax s.A s.B<=hi
  ·rw[kd h2,kd (by omega)];rfl
  ·rw[ka h2,ka (by omega)];rfl
 ·rw[ka h1,ka (show¬((lo<=s.A/\lo<=s.B)/\(s.A<=hi/\s.B<=hi)) by omega)];rfl
def chkD (d:qF):Int:=
 if d.Kind<1\/6<d.Kind then 10
 else bif empS d.Box.X||(empS d.Box.Y||empS d.Box.Z) then 19
 else bif insS d.Box.X (-600) 600&&(insS d.Box.Y (-600) 600&&insS d.Box.Z 0 20000) then 0 else 9
theorem qTk (s:Span):QO s=some (empS s):=rfl
theorem chkD_eq (d:qF):HH d=some (chkD d):=by
 unfold HH MI US VF chkD;simp only[qTk,q0S,ke];by_cases h1:d.Kind<1
 ·rw[kd h1,if_pos (.inl h1)];rfl
 rw[ka h1];by_cases h2:d.Kind>6
 ·rw[kd h2,if_pos (.inr h2)];rfl
 rw[ka h2,if_neg (by omega)];cases empS d.Box.X<;>cases empS d.Box.Y<;>cases empS d.Box.Z<;>cases insS d.Box.X (-600) 600<;>cases insS d.Box.Y (-600) 600<;>cases insS d.Box.Z 0 20000<;>rfl
structure VD (d:qF):Prop where
 k1:1<=d.Kind
 k2:d.Kind<=6
 x:d.Box.X.A<d.Box.X.B/\-600<=d.Box.X.A/\d.Box.X.B<=600
 y:d.Box.Y.A<d.Box.Y.B/\-600<=d.Box.Y.A/\d.Box.Y.B<=600
 z:d.Box.Z.A<d.Box.Z.B/\0<=d.Box.Z.A/\d.Box.Z.B<=20000
theorem qZ6 (d:qF):chkD d=0↔VD d:=by
 unfold chkD;by_cases h1:d.Kind<1\/6<d.Kind
 ·rw[if_pos h1];exact⟨λh=>absurd h (by decide),λh=>by have:=h.k1;have:=h.k2;omega⟩
 rw[if_neg h1];cases hx:empS d.Box.X with
 |true=>exact⟨λh=>absurd (show(19:Int)=0 from h) (by decide),λh=>by have:=h.x;have:=uj hx;omega⟩
 |false=>
 cases hy:empS d.Box.Y with
 |true=>exact⟨λh=>absurd (show(19:Int)=0 from h) (by decide),λh=>by have:=h.y;have:=uj hy;omega⟩
 |false=>
 cases hz:empS d.Box.Z with
 |true=>exact⟨λh=>absurd (show(19:Int)=0 from h) (by decide),λh=>by have:=h.z;have:=uj hz;omega⟩
 |false=>
 have ex:=of_decide_eq_false hx;have ey:=of_decide_eq_false hy;have ez:=of_decide_eq_false hz;unfold insS;by_cases i1:(-600<=d.Box.X.A/\-600<=d.Box.X.B)/\d.Box.X.A<=600/\d.Box.X.B<=600
 ·rw[kd i1];by_cases i2:(-600<=d.Box.Y.A/\-600<=d.Box.Y.B)/\d.Box.Y.A<=600/\d.Box.Y.B<=600
  ·rw[kd i2];by_cases i3:(0<=d.Box.Z.A/\0<=d.Box.Z.B)/\d.Box.Z.A<=20000/\d.Box.Z.B<=20000
   ·rw[kd i3];exact⟨λ_=>⟨by omega,by omega,by omega,by omega,by omega⟩,λ_=>rfl⟩
   ·rw[ka i3];exact⟨λh=>absurd h (by decide),λh=>by have:=h.z;omega⟩
  ·rw[ka i2];exact⟨λh=>absurd (show(9:Int)=0 from h) (by decide),λh=>by have:=h.y;omega⟩
 ·rw[ka i1];exact⟨λh=>absurd (show(9:Int)=0 from h) (by decide),λh=>by have:=h.x;omega⟩
def badD (d:qF):Option Int:=bif chkD d !=0 then some (chkD d) else none
def WK (l:List qF):Int:=if 64<l.length then 4 else match findE badD l with| .inl e=>e| .inr _=>0
theorem qIQ (l:List qF):XK l=some (WK l):=by
 unfold XK WK;by_cases h:64<l.length
 ·rw[if_pos h,kd (by omega)];rfl
 rw[if_neg h,ka (by omega)];have L:JE l FUEL 0=some (findE badD l):=by
  refine PU l (JE l) badD (by omega) (λn x hx=>?_) (λn=>?_)
  ·rw[JE,kd (by omega),qU (by omega)];simp only[kn,ko,qY (show x<4611686018427387904 by omega),chkD_eq,ke,badD];cases chkD (l.getD x du) !=0<;>rfl
  ·rw[JE,ka (by omega)];rfl
 rw[L];simp only[kp,ke];cases findE badD l<;>rfl
theorem qSK {d:qF}:badD d=none↔VD d:=by
 rw[<-qZ6];unfold badD;by_cases h:chkD d=0
 ·rw[h];simp
 ·rw[show(chkD d !=0)=true by rw[ua];exact h];simp[h]
theorem PO (l:List qF):WK l=0↔l.length<=64/\∀d∈l,VD d:=by
 unfold WK;by_cases h:64<l.length
 ·rw[if_pos h];exact⟨λh=>absurd h (by decide),λh=>by omega⟩
 rw[if_neg h];cases hf:findE badD l with
 |inl e=>
  obtain⟨a,ha,hb⟩:=qGz hf;simp only;have hn:e≠0:=by
   unfold badD at hb;cases hc:chkD a !=0 with
   |true=>rw[hc] at hb;cases hb;exact ua.1 hc
   |false=>rw[hc] at hb;cases hb
  exact⟨λh=>absurd h hn,λh=>by rw[qSK.2 (h.2 a ha)] at hb;cases hb⟩
 |inr u=>exact⟨λ_=>⟨by omega,λd hd=>qSK.1 (AF.1 hf d hd)⟩,λ_=>rfl⟩
structure VW (s:Saw) (r:Rates):Prop where
 kerf:0<=s.Kerf/\s.Kerf<=20
 trim:0<=s.Trim/\s.Trim<=20
 pitch:1<=s.Pitch/\s.Pitch<=2000
 step:1<=s.Step/\s.Step<=20000
 chip:0<=r.Chip/\r.Chip<=1000
 dust:0<=r.Dust/\r.Dust<=1000
 fine:0<=r.Fine/\r.Fine<=1000000
theorem qS6 (n:Int):DH n=some (decide (1<=n/\n<=20000)):=by
 unfold DH ML;by_cases h1:n≥1
 ·rw[kd h1];by_cases h2:n<=20000
  ·rw[kd h2,kd ⟨h1,h2⟩];rfl
  ·rw[ka h2,ka (λh=>h2 h.2)];rfl
 ·rw[ka h1,ka (show¬(1<=n/\n<=20000) from λh=>h1 h.1)];rfl
theorem qSZ (n:Int):GT n=some (decide (0<=n/\n<=1000000)):=by
 unfold GT MH;by_cases h1:n≥0
 ·rw[kd h1];by_cases h2:n<=1000000
  ·rw[kd h2,kd ⟨h1,h2⟩];rfl
  ·rw[ka h2,ka (λh=>h2 h.2)];rfl
 ·rw[ka h1,ka (show¬(0<=n/\n<=1000000) from λh=>h1 h.1)];rfl
open Classical in
noncomputable def NM (s:Saw) (r:Rates):Int:=if VW s r then 0 else 9
theorem AM (s:Saw) (r:Rates):NM s r=0↔VW s r:=by
 unfold NM;by_cases h:VW s r
 ·rw[if_pos h];simp[h]
 ·rw[if_neg h];simp[h]
theorem qNX (s:Saw) (r:Rates):PR s r=some (NM s r):=by
 unfold PR RG GS YL;simp only[qS6,qSZ,ke];have no:¬VW s r->NM s r=9:=λh=>by unfold NM;rw[if_neg h]
 by_cases c1:s.Kerf<0
 ·rw[kd c1,no (λh=>by have:=h.kerf;omega)];rfl
 rw[ka c1];by_cases c2:s.Kerf>20
 ·rw[kd c2,no (λh=>by have:=h.kerf;omega)];rfl
 rw[ka c2];by_cases c3:s.Trim<0
 ·rw[kd c3,no (λh=>by have:=h.trim;omega)];rfl
 rw[ka c3];by_cases c4:s.Trim>20
 ·rw[kd c4,no (λh=>by have:=h.trim;omega)];rfl
 rw[ka c4];simp only[kp];by_cases c5:s.Pitch<1
 ·rw[kd c5,no (λh=>by have:=h.pitch;omega)];rfl
 rw[ka c5];by_cases c6:s.Pitch>2000
 ·rw[kd c6,no (λh=>by have:=h.pitch;omega)];rfl
 rw[ka c6];by_cases c7:1<=s.Step/\s.Step<=20000
 ·rw[kd c7];simp only[kp,ky];by_cases d1:r.Chip<0
  ·rw[kd d1,no (λh=>by have:=h.chip;omega)];rfl
  rw[ka d1];by_cases d2:r.Chip>1000
  ·rw[kd d2,no (λh=>by have:=h.chip;omega)];rfl
  rw[ka d2];by_cases d3:r.Dust<0
  ·rw[kd d3,no (λh=>by have:=h.dust;omega)];rfl
  rw[ka d3];by_cases d4:r.Dust>1000
  ·rw[kd d4,no (λh=>by have:=h.dust;omega)];rfl
  rw[ka d4];by_cases d5:0<=r.Fine/\r.Fine<=1000000
  ·rw[kd d5,(AM s r).2 ⟨by omega,by omega,by omega,by omega,by omega,by omega,by omega⟩];rfl
  ·rw[ka d5,no (λh=>d5 h.fine)];rfl
 ·rw[ka c7,no (λh=>c7 h.step)];rfl
def VR (r:Rect):Prop:=(-600<=r.X.A/\r.X.A<r.X.B/\r.X.B<=600)/\(-600<=r.Y.A/\r.Y.A<r.Y.B/\r.Y.B<=600)
instance (r :Rect):Decidable (VR r):=by unfold VR;exact inferInstance
def badR (lo hi:Int):Option Bool:=if lo< -600\/600<hi\/hi<=lo then some false else none
theorem qGh {lo hi:Int}:badR lo hi=none↔-600<=lo/\lo<hi/\hi<=600:=by
 unfold badR;by_cases h:lo< -600\/600<hi\/hi<=lo
 ·rw[if_pos h];exact⟨λh=>(by cases h),λh=>by omega⟩
 ·rw[if_neg h];exact⟨λ_=>by omega,λ_=>rfl⟩
theorem qWB (r:Rect) (L:Nat->Int->Option (Bool⊕Unit))
  (h0:∀n,L (n+1) 0=match badR r.X.A r.X.B with|some e=>some (.inl e)|none=>L n 1)
  (h1:∀n,L (n+1) 1=match badR r.Y.A r.Y.B with|some e=>some (.inl e)|none=>L n 2)
  (h2:∀n,L (n+1) 2=some (.inr ())):((L FUEL 0).bind λu=>Sum.elim (λv=>some v) (λ_=>some true) u)=some (decide (VR r)):=by
 rw[jF,show(4611686018427387904:Nat)=4611686018427387901+1+1+1 from rfl,h0];cases hx:badR r.X.A r.X.B with
 |some e=>
  have:¬VR r:=λh=>by rw[qGh.2 h.1] at hx;cases hx
  rw[ka this];unfold badR at hx;split at hx<;>cases hx;rfl
 |none=>
  simp only;rw[h1];cases hy:badR r.Y.A r.Y.B with
  |some e=>
   have:¬VR r:=λh=>by rw[qGh.2 h.2] at hy;cases hy
   rw[ka this];unfold badR at hy;split at hy<;>cases hy;rfl
  |none=>
   simp only;rw[h2,kd (show VR r from⟨qGh.1 hx,qGh.1 hy⟩)];rfl
theorem qUP {lo hi:Int} {α:Type} (k:Bool->α):(bif decide (lo< -600) then k true else bif decide (hi>600) then k true else k (decide (lo≥hi)))=k (match badR lo hi with|some _=>true|none=>false):=by
 unfold badR;by_cases h1:lo< -600
 ·rw[kd h1,if_pos (.inl h1)];rfl
 rw[ka h1];by_cases h2:hi>600
 ·rw[kd h2,if_pos (by omega)];rfl
 rw[ka h2];by_cases h3:lo≥hi
 ·rw[kd h3,if_pos (by omega)];rfl
 ·rw[ka h3,if_neg (by omega)];rfl
theorem qZO (r:Rect):HX r=some (decide (VR r)):=by
 unfold HX;refine qWB r (jC r) (λn=>?_) (λn=>?_) (λn=>?_)
 ·rw[jC,kd (by omega),qU (by omega)];simp only[kn];refine(qUP (lo:=r.X.A) (hi:=r.X.B) (λb=>QX 0 (jC r n) b)).trans ?_;unfold badR QX;split<;>rename_i h<;>revert h<;>split<;>intro h<;>(try cases h)<;>rfl
 ·rw[jC,kd (by omega),qU (by omega)];simp only[kn];refine(qUP (lo:=r.Y.A) (hi:=r.Y.B) (λb=>QX 1 (jC r n) b)).trans ?_;unfold badR QX;split<;>rename_i h<;>revert h<;>split<;>intro h<;>(try cases h)<;>rfl
 ·rw[jC,ka (by omega)];rfl
theorem qPU (r:Rect):yP r=some (decide (VR r)):=by
 unfold yP;refine qWB r (zX r) (λn=>?_) (λn=>?_) (λn=>?_)
 ·rw[zX,kd (by omega),qU (by omega)];simp only[kn];refine(qUP (lo:=r.X.A) (hi:=r.X.B) (λb=>jJ 0 (zX r n) b)).trans ?_;unfold badR jJ;split<;>rename_i h<;>revert h<;>split<;>intro h<;>(try cases h)<;>rfl
 ·rw[zX,kd (by omega),qU (by omega)];simp only[kn];refine(qUP (lo:=r.Y.A) (hi:=r.Y.B) (λb=>jJ 1 (zX r n) b)).trans ?_;unfold badR jJ;split<;>rename_i h<;>revert h<;>split<;>intro h<;>(try cases h)<;>rfl
 ·rw[zX,ka (by omega)];rfl
noncomputable def chkE (s:List qC) (d:List qF) (p:List Product) (r:Rect) (w:Saw) (t:Rates):Int:=
 if UF s≠0 then UF s else if WK d≠0 then WK d else if wI p≠0 then wI p else if NM w t≠0 then NM w t
 else if r.X.A≥r.X.B\/r.Y.A≥r.Y.B then 19
 else if r.X.A< -600\/600<r.X.A\/r.X.B< -600\/600<r.X.B\/r.Y.A< -600\/600<r.Y.A\/r.Y.B< -600\/600<r.Y.B then 9 else 0
structure VE (s:List qC) (d:List qF) (p:List Product) (r:Rect) (w:Saw) (t:Rates):Prop where
 sol:VSol s
 dl:d.length<=64
 dd:∀x∈d,VD x
 pr:wI p=0
 vw:VW w t
 vr:VR r
theorem JW {s:List qC} {d:List qF} {p:List Product} {r:Rect} {w:Saw} {t:Rates}:chkE s d p r w t=0↔VE s d p r w t:=by
 unfold chkE;by_cases h1:UF s≠0
 ·rw[if_pos h1];exact⟨λh=>absurd h h1,λh=>absurd ((WX s).2 h.sol) h1⟩
 rw[if_neg h1];by_cases h2:WK d≠0
 ·rw[if_pos h2];exact⟨λh=>absurd h h2,λh=>absurd ((PO d).2 ⟨h.dl,h.dd⟩) h2⟩
 rw[if_neg h2];by_cases h3:wI p≠0
 ·rw[if_pos h3];exact⟨λh=>absurd h h3,λh=>absurd h.pr h3⟩
 rw[if_neg h3];by_cases h4:NM w t≠0
 ·rw[if_pos h4];exact⟨λh=>absurd h h4,λh=>absurd ((AM w t).2 h.vw) h4⟩
 rw[if_neg h4];by_cases h5:r.X.A≥r.X.B\/r.Y.A≥r.Y.B
 ·rw[if_pos h5];exact⟨λh=>absurd h (by decide),λh=>by have:=h.vr;unfold VR at this;omega⟩
 rw[if_neg h5];by_cases h6:r.X.A< -600\/600<r.X.A\/r.X.B< -600\/600<r.X.B\/r.Y.A< -600\/600<r.Y.A\/r.Y.B< -600\/600<r.Y.B
 ·rw[if_pos h6];exact⟨λh=>absurd h (by decide),λh=>by have:=h.vr;unfold VR at this;omega⟩
 rw[if_neg h6];have k2:=(PO d).1 (by omega);exact⟨λ_=>⟨(WX s).1 (by omega),k2.1,k2.2,by omega,(AM w t).1 (by omega),by unfold VR;omega⟩,λ_=>rfl⟩
theorem chkE_eq (s:List qC) (d:List qF) (p:List Product) (r:Rect) (w:Saw) (t:Rates):qBN s d p r w t=some (chkE s d p r w t):=by
 unfold qBN chkE CQ;rw[(RT s).1,qIQ,qCb,qNX];simp only[ke];have bt:∀{n:Int},n≠0->(n !=0)=true:=λh=>by rw[ua];exact h
 have bf:∀{n:Int},¬n≠0->(n !=0)=false:=λh=>by rw[kG];omega
 by_cases h1:UF s≠0
 ·rw[if_pos h1,bt h1];rfl
 rw[if_neg h1,bf h1];by_cases h2:WK d≠0
 ·rw[if_pos h2,bt h2];rfl
 rw[if_neg h2,bf h2];by_cases h3:wI p≠0
 ·rw[if_pos h3,bt h3];rfl
 rw[if_neg h3,bf h3];by_cases h4:NM w t≠0
 ·rw[if_pos h4,bt h4];rfl
 rw[if_neg h4,bf h4];simp only[kp];by_cases h5:r.X.A≥r.X.B
 ·rw[if_pos (.inl h5),kd h5];rfl
 rw[ka h5];by_cases h6:r.Y.A≥r.Y.B
 ·rw[if_pos (.inr h6),kd h6];rfl
 rw[ka h6,if_neg (by omega)];simp only[kp];have L:ZP r FUEL ((0:Nat):Int)=some (findN (λi=>if(([r.X.A,r.X.B,r.Y.A,r.Y.B]:List Int).getD i 0)< -600\/600<(([r.X.A,r.X.B,r.Y.A,r.Y.B]:List Int).getD i 0) then some (9:Int) else none) 0 (4-0)):=by
  refine QN 4 (ZP r) _ 0 (by omega) (by omega) (λn i hi hN=>?_) (λn=>?_)
  ·rw[ZP,kd (by omega),qU (by omega)];simp only[kn,ko,qY (show i<4611686018427387904 by omega),CU];by_cases c1:([r.X.A,r.X.B,r.Y.A,r.Y.B]:List Int).getD i 0< -600
   ·rw[kd c1,if_pos (.inl c1)];rfl
   rw[ka c1];by_cases c2:600<([r.X.A,r.X.B,r.Y.A,r.Y.B]:List Int).getD i 0
   ·rw[kd (show([r.X.A,r.X.B,r.Y.A,r.Y.B]:List Int).getD i 0>600 from c2),if_pos (.inr c2)];rfl
   ·rw[ka (show¬([r.X.A,r.X.B,r.Y.A,r.Y.B]:List Int).getD i 0>600 from c2),if_neg (by omega)];rfl
  ·rw[ZP,ka (by omega)];rfl
 rw[show((0:Nat):Int)=0 from rfl] at L;rw[L];simp only[findN,uv,List.getD_cons_succ,kF];by_cases c1:r.X.A< -600\/600<r.X.A
 ·rw[if_pos c1,if_pos (show(r.X.A< -600\/600<r.X.A\/r.X.B< -600\/600<r.X.B\/r.Y.A< -600\/600<r.Y.A\/r.Y.B< -600\/600<r.Y.B) by omega)];rfl
 rw[if_neg c1];by_cases c2:r.X.B< -600\/600<r.X.B
 ·rw[if_pos c2,if_pos (show(r.X.A< -600\/600<r.X.A\/r.X.B< -600\/600<r.X.B\/r.Y.A< -600\/600<r.Y.A\/r.Y.B< -600\/600<r.Y.B) by omega)];rfl
 rw[if_neg c2];by_cases c3:r.Y.A< -600\/600<r.Y.A
 ·rw[if_pos c3,if_pos (show(r.X.A< -600\/600<r.X.A\/r.X.B< -600\/600<r.X.B\/r.Y.A< -600\/600<r.Y.A\/r.Y.B< -600\/600<r.Y.B) by omega)];rfl
 rw[if_neg c3];by_cases c4:r.Y.B< -600\/600<r.Y.B
 ·rw[if_pos c4,if_pos (show(r.X.A< -600\/600<r.X.A\/r.X.B< -600\/600<r.X.B\/r.Y.A< -600\/600<r.Y.A\/r.Y.B< -600\/600<r.Y.B) by omega)];rfl
 rw[if_neg c4,if_neg (show¬(r.X.A< -600\/600<r.X.A\/r.X.B< -600\/600<r.X.B\/r.Y.A< -600\/600<r.Y.A\/r.Y.B< -600\/600<r.Y.B) by omega)];rfl
end Saw
end Go.SL

namespace Go.SL
theorem qI3 {σ β ι:Type} (N:Nat) (L:Nat->σ->ι->Option β) (idx:Nat->ι) (f:Nat->σ->σ) (out:σ->β) (Inv:Nat->σ->Prop) (hN:N<=1000000000)
  (h0:∀n i s,i<N->Inv i s->L (n+1) s (idx i)=L n (f i s) (idx (i+1))/\Inv (i+1) (f i s))
  (h1:∀n s,Inv N s->L (n+1) s (idx N)=some (out s)) (s:σ) (hs:Inv 0 s):L FUEL s (idx 0)=some (out (foldN f 0 N s))/\Inv N (foldN f 0 N s):=by
 have key:∀k n x s,x+k=N->k<n->Inv x s->L n s (idx x)=some (out (foldN f x k s))/\Inv N (foldN f x k s):=by
  intro k
  induction k with
  |zero=>
   intro n x s hx hn hi;obtain⟨n,rfl⟩:∃m,n=m+1:=⟨n-1,by omega⟩
   rw[un] at hx;subst hx;exact⟨h1 n s hi,hi⟩
  |succ k ih=>
   intro n x s hx hn hi;obtain⟨n,rfl⟩:∃m,n=m+1:=⟨n-1,by omega⟩
   have h:=h0 n x s (by omega) hi;rw[h.1];exact ih n (x+1) (f x s) (by omega) (by omega) h.2
 exact key N FUEL 0 s (by omega) (by rw[jF];omega) hs
namespace Saw
def priceAt (p:Product) (n:Int) (i:Nat):Option (Int×Bool):=
 if p.Lengths.getD i du≠n then none else if p.Prices.length<=i then some (0,false) else some (p.Prices.getD i du,true)
def price (p:Product) (n:Int):Int×Bool:=match findN (priceAt p n) 0 p.Lengths.length with| .inl e=>e| .inr _=>(0,false)
theorem q1s (p:Product) (n:Int) (h:p.Lengths.length<=1000000):FI p n=some (price p n):=by
 unfold FI price;have L:ZR p n FUEL ((0:Nat):Int)=some (findN (priceAt p n) 0 (p.Lengths.length-0)):=by
  refine QN p.Lengths.length (ZR p n) _ 0 (by omega) (by omega) (λm i hi hN=>?_) (λm=>?_)
  ·rw[ZR,kd (by omega),qU (by omega)];simp only[kn,ko,qY (show i<4611686018427387904 by omega),priceAt];by_cases c:p.Lengths.getD i du≠n
   ·rw[if_pos c,show(p.Lengths.getD i du !=n)=true by rw[ua];exact c];rfl
   rw[if_neg c,show(p.Lengths.getD i du !=n)=false by rw[kG];omega];by_cases c2:p.Prices.length<=i
   ·rw[if_pos c2,kd (show(i:Int)≥(p.Prices.length:Int) by omega)];rfl
   ·rw[if_neg c2,ka (show¬(i:Int)≥(p.Prices.length:Int) by omega),qU (by omega)];rfl
  ·rw[ZR,ka (by omega)];rfl
 rw[show((0:Nat):Int)=0 from rfl,kF] at L;rw[L];simp only[ke];cases findN (priceAt p n) 0 p.Lengths.length<;>rfl
def tch (d b:Box):Bool:=!(empS (mxS d.X b.X)||(empS (mxS d.Y b.Y)||empS (mxS d.Z b.Z)))
theorem qO1 (d:qF) (b:Box):RJ d b=some (tch d.Box b):=by
 unfold RJ qCN BF tch;simp only[qEY,ke,qTk,qQQ];cases empS (mxS d.Box.X b.X)<;>cases empS (mxS d.Box.Y b.Y)<;>cases empS (mxS d.Box.Z b.Z)<;>rfl
def QH (r:Rect):Int:=(r.X.B-r.X.A)*(r.Y.B-r.Y.A)
def EW (a w:Int):Int:=Int.tdiv (1000*(a-w)+a-1) a
def zones (l:List qC) (r:Rect):List qW:=(List.range l.length).map (λi=>⟨ext l i,EW (QH r) (zM (l.getD i du).Sec r.X r.Y)⟩)
theorem qX6 {r:Rect} (h:VR r):1<=QH r/\QH r<=1440000:=by
 unfold VR at h;unfold QH;have a:=jL (a:=r.X.B-r.X.A) (b:=r.Y.B-r.Y.A) (m:=1200) (n:=1200) (by omega) (by omega) (by omega) (by omega) (by omega) (by omega);have b:=Int.mul_pos (show 0<r.X.B-r.X.A by omega) (show 0<r.Y.B-r.Y.A by omega);omega
theorem q2f {l:List qC} (h:VSol l) {r:Rect} (hr:VR r):OT l r=some (zones l r):=by
 have hl:=h.len;have ha:=qX6 hr;have eA:w64 (w64 (r.X.B-r.X.A)*w64 (r.Y.B-r.Y.A))=QH r:=by
  have hr':=hr;unfold VR at hr';rw[qK (n:=r.X.B-r.X.A) (by omega),qK (n:=r.Y.B-r.Y.A) (by omega)];unfold QH at ha⊢;exact qK (by omega)
 unfold OT
 let zn:Nat->qW:=λi=>⟨ext l i,EW (QH r) (zM (l.getD i du).Sec r.X r.Y)⟩
 have k:=zR l.length (λn (s:List qW×Int) i=>RC l r n s.1 s.2 i) (λi s=>(s.1++[zn i],lenTo l (i+1))) (λs=>s.1)
  (λi s=>s.1=(List.range i).map zn/\s.2=lenTo l i) 0 (by omega) (by omega)
  (λn i s hi hs=>by
   obtain⟨s1,s2⟩:=s;obtain⟨e1,e2⟩:=hs;simp only at e1 e2;have b:=h.bd (i:=i) (by omega);have b':=h.bd (i:=i+1) (by omega);have wb:=qNb (h.at hi).1 r.X r.Y;rw[wF] at b';have e1':s1.length=i:=by rw[e1];simp
   refine⟨?_,by rw[e1,kW,kH];rfl,rfl⟩;simp only;rw[RC,kd (by omega),qU (by omega)];simp only[kn,ko,qY (show i<4611686018427387904 by omega),qSI,ke,eA,e2];rw[qCh (h.at hi).1,nz_t (by omega),wO (by omega),qK (n:=lenTo l i+(l.getD i du).Len) (by omega),
    qK (n:=QH r-zM (l.getD i du).Sec r.X r.Y) (by omega),qK (n:=1000*_) (by omega),qK (n:=1000*_+_) (by omega),qK (n:=1000*_+_-1) (by omega)]
   simp only[kn];have tb: -2000000000<=EW (QH r) (zM (l.getD i du).Sec r.X r.Y)/\EW (QH r) (zM (l.getD i du).Sec r.X r.Y)<=2000000000:=by
    unfold EW;generalize hu:1000*(QH r-zM (l.getD i du).Sec r.X r.Y)+QH r-1=u;have hub: -1440000000<=u/\u<=1441440000:=by omega
    have ab:=Int.natAbs_tdiv_le_natAbs u (QH r);omega
   unfold EW at tb;rw[qK (by omega)];rfl)
  (λn s _=>by rw[RC,ka (by omega)];rfl) ([],0) ⟨rfl,rfl⟩
 rw[show((0:Nat):Int)=0 from rfl] at k;rw[k.1];exact congrArg some k.2.1
structure VP (p:Product):Prop where
 nm:isNm p.Name=true
 th:5<=p.Thick/\p.Thick<=300
 wd:p.Thick<=p.Width/\p.Width<=600
 al:0<=p.Allow/\p.Allow<=200
 wn:0<=p.Wane/\p.Wane<=1000
 gr:(qZ p).2<=600
 ll:1<=p.Lengths.length/\p.Lengths.length<=8
 pl:p.Prices.length=p.Lengths.length
 lb:∀i,i<p.Lengths.length->100<=p.Lengths.getD i du/\p.Lengths.getD i du<=20000
 pb:∀x∈p.Prices,0<=x/\x<=1000000
theorem qXK {p:Product} (hn:isNm p.Name=true) (h:DQ p=0):VP p:=by
 unfold DQ at h;by_cases h1:p.Thick<5\/300<p.Thick\/p.Width<p.Thick\/600<p.Width\/p.Allow<0\/200<p.Allow\/p.Wane<0\/1000<p.Wane
 ·rw[if_pos h1] at h;exact absurd h (by decide)
 rw[if_neg h1] at h;by_cases h2:600<(qZ p).2
 ·rw[if_pos h2] at h;exact absurd h (by decide)
 rw[if_neg h2] at h;unfold qFb at h;by_cases h3:p.Lengths.length=0
 ·rw[if_pos h3] at h;exact absurd h (by decide)
 rw[if_neg h3] at h;by_cases h4:8<p.Lengths.length
 ·rw[if_pos h4] at h;exact absurd h (by decide)
 rw[if_neg h4] at h;by_cases h5:p.Prices.length≠p.Lengths.length
 ·rw[if_pos h5] at h;exact absurd h (by decide)
 rw[if_neg h5] at h;cases hf:findN (badLen p) 0 p.Lengths.length with
 |inl e=>
  rw[hf] at h;obtain⟨i,a,b,c,d⟩:=XD hf;unfold badLen at c;simp only at h;subst h;split at c
  ·cases c
  ·split at c<;>cases c
 |inr u=>
  rw[hf] at h;cases hg:findE badPr p.Prices with
  |inl e=>
   rw[hg] at h;obtain⟨a,ha,hb⟩:=qGz hg;simp only at h;subst h;unfold badPr at hb;split at hb<;>cases hb
  |inr u'=>
   refine⟨hn,by omega,by omega,by omega,by omega,by omega,by omega,by omega,λi hi=>?_,λx hx=>?_⟩
   ·have:=UV.1 hf i (by omega) (by omega);unfold badLen at this;split at this
    ·cases this
    ·omega
   ·have:=AF.1 hg x hx;unfold badPr at this;split at this
    ·cases this
    ·omega
theorem qTf {p:Product} (hn:isNm p.Name=true) {l:List Product} {i:Nat} (h:badP l i=none) (e:l.getD i du=p):DQ p=0:=by
 unfold badP at h;rw[e,hn] at h;simp only[kn] at h;cases hf:findN (twin l i) 0 i with
 |inl e=>rw[hf] at h;cases h
 |inr u=>
  rw[hf] at h;by_cases hc:DQ p=0
  ·exact hc
  ·rw[show(DQ p !=0)=true by rw[ua];exact hc] at h;cases h
theorem qSr {l:List Product} {i:Nat} (h:badP l i=none):isNm (l.getD i du).Name=true:=by
 unfold badP at h;cases hn:isNm (l.getD i du).Name with
 |true=>rfl
 |false=>rw[hn] at h;cases h
theorem qVo {l:List Product} (h:wI l=0) {i:Nat} (hi:i<l.length):badP l i=none:=by
 unfold wI at h;split at h
 ·exact absurd h (by decide)
 ·cases hf:findN (badP l) 0 l.length with
  |inr u=>exact UV.1 hf i (by omega) (by omega)
  |inl e=>
   rw[hf] at h;simp only at h;subst h;obtain⟨j,a,b,c,d⟩:=XD hf;unfold badP at c;cases hn:isNm (l.getD j du).Name with
   |false=>rw[hn] at c;cases c
   |true=>
    rw[hn] at c;simp only[kn] at c;cases hf':findN (twin l j) 0 j with
    |inl e=>
     rw[hf'] at c;obtain⟨i',a',b',c',d'⟩:=XD hf';unfold twin at c';cases c;cases hs:strEq (l.getD i' du).Name (l.getD j du).Name<;>rw[hs] at c'<;>cases c'
    |inr u=>
     rw[hf'] at c;cases hz:DQ (l.getD j du) !=0 with
     |true=>rw[hz] at c;simp only[kn] at c;injection c with c;exact absurd c (ua.1 hz)
     |false=>rw[hz] at c;cases c
theorem qOd {l:List Product} (h:wI l=0) {i:Nat} (hi:i<l.length):VP (l.getD i du):=by
 have b:=qVo h hi;exact qXK (qSr b) (qTf (qSr b) b rfl)
theorem qS0 {l:List Product} (h:wI l=0) {i:Nat} (hi:i<l.length):wI [l.getD i du]=0:=by
 have b:=qVo h hi;have hn:=qSr b;have hc:=qTf hn b rfl;unfold wI;rw[if_neg (by simp)];have e:badP [l.getD i du] 0=none:=by
  unfold badP;rw[show[l.getD i du].getD 0 du=l.getD i du from rfl,hn,hc];rfl
 simp only[um,uT,kw,findN,e]
def hitZ (z s:Span):Bool:=decide (z.A<s.B)&&decide (s.A<z.B)
def worst (zs:List qW) (s:Span):Int:=foldN (λi m=>bif hitZ (zs.getD i du).z s then imax m (zs.getD i du).lack else m) 0 zs.length 0
theorem q2i (zs:List qW) (s:Span) (h:zs.length<=1000000):OS zs s=some (worst zs s):=by
 unfold OS worst;have k:=zR zs.length (λn (m:Int) i=>QT zs s n m i) (λi m=>bif hitZ (zs.getD i du).z s then imax m (zs.getD i du).lack else m) (λm=>m) (λ_ _=>True) 0 (by omega) (by omega)
  (λn i m hi _=>⟨by
   rw[QT,kd (by omega),qU (by omega)];simp only[kn,ko,qY (show i<4611686018427387904 by omega),AN,AB,hitZ];cases decide ((zs.getD i du).z.A<s.B)<;>cases decide (s.A<(zs.getD i du).z.B)<;>rfl,trivial⟩)
  (λn m _=>by rw[QT,ka (by omega)];rfl) 0 trivial
 rw[show((0:Nat):Int)=0 from rfl,kF] at k;rw[k.1];rfl
def dstep (ds:List qF) (b:Box) (fine:Int) (i:Nat) (v:Int):(Int×Bool)⊕Int:=
 bif tch (ds.getD i du).Box b then(bif (ds.getD i du).Kind==3 then .inl (0,false) else .inr (v-fine)) else .inr v
def WL (ds:List qF) (b:Box) (fine v:Int):Int×Bool:=match runN (dstep ds b fine) 0 ds.length v with| .inl e=>e| .inr o=>(imax o 0,true)
def worthV (v:zA) (s:Span) (fine:Int):Int×Bool:=
 if 0<=s.A/\s.A<s.B/\s.B<=v.length then
  bif (price v.product (s.B-s.A)).2 then
   if worst v.zones s>v.product.Wane then(0,false) else WL v.defects ⟨v.rect.X,v.rect.Y,s⟩ fine (price v.product (s.B-s.A)).1
  else(0,false)
 else(0,false)
theorem qRd {p:Product} (h:VP p) (n:Int):0<=(price p n).1/\(price p n).1<=1000000:=by
 unfold price;cases hf:findN (priceAt p n) 0 p.Lengths.length with
 |inr u=>exact⟨show(0:Int)<=0 by decide,show(0:Int)<=1000000 by decide⟩
 |inl e=>
  obtain⟨i,a,b,c,d⟩:=XD hf;unfold priceAt at c;split at c
  ·cases c
  ·split at c
   ·cases c;exact⟨by decide,by decide⟩
   ·cases c;exact h.pb _ (jE (by omega))
theorem q0D (v:zA) (s:Span) {fine v0:Int} (hf:0<=fine/\fine<=1000000) (hv:0<=v0/\v0<=1000000) (hl:v.defects.length<=64):
  ((wM v fine ⟨v.rect.X,v.rect.Y,s⟩ FUEL v0 0).bind λu=>Sum.elim (λw=>some w) (λo=>some (imax o 0,true)) u)=some (WL v.defects ⟨v.rect.X,v.rect.Y,s⟩ fine v0):=by
 have k:=qFY v.defects.length (λn (m:Int) i=>wM v fine ⟨v.rect.X,v.rect.Y,s⟩ n m i) (dstep v.defects ⟨v.rect.X,v.rect.Y,s⟩ fine) (λr=>r) (λi m=> -(1000000*(i:Int))<=m/\m<=1000000)
  (λn i m hi hm=>by
   unfold dstep;have e:wM v fine ⟨v.rect.X,v.rect.Y,s⟩ (n+1) m (i:Int)=bif tch (v.defects.getD i du).Box ⟨v.rect.X,v.rect.Y,s⟩ then(bif (v.defects.getD i du).Kind==3 then some (.inl (0,false)) else wM v fine ⟨v.rect.X,v.rect.Y,s⟩ n (m-fine) ((i+1:Nat):Int)) else wM v fine ⟨v.rect.X,v.rect.Y,s⟩ n m ((i+1:Nat):Int):=by
    rw[wM,kd (by omega),qU (by omega)];simp only[kn,ko,qY (show i<4611686018427387904 by omega),qO1,ke,TJ];rw[qK (n:=m-fine) (by omega)];cases tch (v.defects.getD i du).Box ⟨v.rect.X,v.rect.Y,s⟩<;>cases (v.defects.getD i du).Kind==3<;>rfl
   cases h1:tch (v.defects.getD i du).Box ⟨v.rect.X,v.rect.Y,s⟩ with
   |false=>rw[h1] at e;exact⟨e,by omega⟩
   |true=>cases h2:(v.defects.getD i du).Kind==3 with
    |true=>rw[h1,h2] at e;exact e
    |false=>rw[h1,h2] at e;exact⟨e,by omega⟩)
  (λn m _=>by rw[wM,ka (by omega)];rfl) FUEL 0 v0 (by rw[jF];omega) (by omega) (by omega)
 rw[show((0:Nat):Int)=0 from rfl,kF] at k;rw[k];unfold WL;cases runN (dstep v.defects ⟨v.rect.X,v.rect.Y,s⟩ fine) 0 v.defects.length v0<;>rfl
theorem q0I (v:zA) (s:Span) {fine:Int} (hf:0<=fine/\fine<=1000000) (hp:VP v.product) (hl:v.defects.length<=64) (hz:v.zones.length<=1000000) (hn:v.length<=20000):
  YU v s fine=some (worthV v s fine):=by
 unfold YU worthV AO PE;have hll:=hp.ll;by_cases c1:s.A≥0
 ·rw[kd c1];by_cases c2:s.A<s.B
  ·rw[kd c2];by_cases c3:s.B<=v.length
   ·rw[kd c3,if_pos ⟨c1,c2,c3⟩,qK (n:=s.B-s.A) (by omega)];simp only[kn,ke,ky,kp,q1s v.product (s.B-s.A) (by omega),q2i v.zones s hz,TH,RD];cases hq:(price v.product (s.B-s.A)).2 with
    |false=>rfl
    |true=>
     simp only[ky,kp,kn];by_cases c4:worst v.zones s>v.product.Wane
     ·rw[kd c4,if_pos c4];rfl
     ·rw[ka c4,if_neg c4];simp only[kp];exact q0D v s hf (qRd hp _) hl
   ·rw[ka c3,if_neg (λh=>c3 h.2.2)];rfl
  ·rw[ka c2,if_neg (λh=>c2 h.2.1)];rfl
 ·rw[ka c1,if_neg (λh=>c1 h.1)];rfl
theorem q2p {ds:List qF} {b:Box} {fine v:Int} (hf:0<=fine) (hv:0<=v/\v<=1000000):0<=(WL ds b fine v).1/\(WL ds b fine v).1<=1000000:=by
 unfold WL;cases hr:runN (dstep ds b fine) 0 ds.length v with
 |inl e=>
  have:∀(k x:Nat) (w:Int),runN (dstep ds b fine) x k w= .inl e->e=(0,false):=by
   intro k
   induction k with
   |zero=>intro x w h;cases h
   |succ k ih=>
    intro x w h;unfold runN at h;cases hd:dstep ds b fine x w with
    |inr w'=>rw[hd] at h;exact ih _ _ h
    |inl e'=>
     rw[hd] at h;cases h;unfold dstep at hd;cases h1:tch (ds.getD x du).Box b with
     |false=>rw[h1] at hd;cases hd
     |true=>cases h2:(ds.getD x du).Kind==3 with
      |false=>rw[h1,h2] at hd;cases hd
      |true=>rw[h1,h2] at hd;cases hd;rfl
  rw[this _ _ _ hr];decide
 |inr o=>
  have:=runN_inv (dstep ds b fine) (λ_ m=>m<=1000000) ds.length (λx m m' _ hm e=>by
   unfold dstep at e;cases h1:tch (ds.getD x du).Box b with
   |false=>rw[h1] at e;cases e;exact hm
   |true=>cases h2:(ds.getD x du).Kind==3 with
    |true=>rw[h1,h2] at e;cases e
    |false=>rw[h1,h2] at e;cases e;show m-fine<=1000000;omega) ds.length 0 v o (by omega) hv.2 hr
  have h2:=jN o 0;simp only;omega
theorem q0W {v:zA} {s:Span} {fine:Int} (hf:0<=fine) (hp:VP v.product):0<=(worthV v s fine).1/\(worthV v s fine).1<=1000000/\((worthV v s fine).2=true->0<=s.A/\s.A<s.B/\s.B<=v.length):=by
 unfold worthV;split
 ·rename_i h;cases (price v.product (s.B-s.A)).2 with
  |false=>exact⟨show(0:Int)<=0 by decide,show(0:Int)<=1000000 by decide,λh=>by cases h⟩
  |true=>
   simp only[kn];split
   ·exact⟨by decide,by decide,λh=>by cases h⟩
   ·have:=q2p (ds:=v.defects) (b:=⟨v.rect.X,v.rect.Y,s⟩) hf (qRd hp (s.B-s.A));exact⟨this.1,this.2,λ_=>h⟩
 ·exact⟨by decide,by decide,λh=>by cases h⟩
def dimOk (r:Rect) (p:Product):Bool:=((r.X.B-r.X.A==(qZ p).1)&&(r.Y.B-r.Y.A==(qZ p).2))||((r.X.B-r.X.A==(qZ p).2)&&(r.Y.B-r.Y.A==(qZ p).1))
def near (ds:List qF) (b:Box):List qF:=foldN (λi t=>bif tch (ds.getD i du).Box b then t++[ds.getD i du] else t) 0 ds.length []
theorem q1e (ds:List qF) (b:Box):(near ds b).length<=ds.length:=by
 unfold near;have:∀k,(foldN (λi t=>bif tch (ds.getD i du).Box b then t++[ds.getD i du] else t) 0 k ([]:List qF)).length<=k:=by
  intro k
  induction k with
  |zero=>simp[foldN]
  |succ k ih=>
   rw[yE];cases tch (ds.getD (0+k) du).Box b with
   |true=>simp only[kn,kS,um,uT];omega
   |false=>simp only[kp];omega
 exact this _
def viewOf (l:List qC) (ds:List qF) (p:Product) (r:Rect):zA:=⟨p,r,solLen l,zones l r,near ds ⟨r.X,r.Y,⟨0,solLen l⟩⟩⟩
def q0o :zA:=⟨⟨⟨#[]⟩,0,0,0,0,[],[]⟩,⟨⟨0,0⟩,⟨0,0⟩⟩,0,[],[]⟩
theorem look_eq {l:List qC} {ds:List qF} {p:Product} {r:Rect} (hs:VSol l) (hd:WK ds=0) (hp:wI [p]=0) (hr:VR r):
  qBC l ds p r=some (bif dimOk r p then(viewOf l ds p r,true) else(q0o,false)):=by
 have hdl:=((PO ds).1 hd).1;unfold qBC;rw[(RT l).1,(WX l).2 hs,qIQ,hd,qCb,hp,qZO,kd hr];simp only[ke,kv,kp,ky];unfold TW;rw[(NU p).1];have hr':=hr;unfold VR at hr';rw[qK (n:=r.X.B-r.X.A) (by omega),qK (n:=r.Y.B-r.Y.A) (by omega)];have K:∀b,FO l ds p r b=some (bif b then(q0o,false) else(viewOf l ds p r,true)):=λb=>by
  unfold FO;cases b with
  |true=>rfl
  |false=>
   rw[(YA l).1,KF hs,q2f hs hr];simp only[ke,kp,RD];have k:=zR ds.length (λn (t:List qF) i=>JV ds ⟨r.X,r.Y,⟨0,solLen l⟩⟩ n i t) (λi t=>bif tch (ds.getD i du).Box ⟨r.X,r.Y,⟨0,solLen l⟩⟩ then t++[ds.getD i du] else t) (λt=>t) (λi t=>t.length<=i) 0 (by omega) (by omega)
    (λn i t hi ht=>by
     refine⟨?_,?_⟩
     ·rw[JV,kd (by omega),qU (by omega)];simp only[kn,ko,qY (show i<4611686018427387904 by omega),qO1,ke,CC];rw[wO (by omega)];cases tch (ds.getD i du).Box ⟨r.X,r.Y,⟨0,solLen l⟩⟩<;>rfl
     ·cases tch (ds.getD i du).Box ⟨r.X,r.Y,⟨0,solLen l⟩⟩ with
      |true=>simp only[kn,kS,um,uT];omega
      |false=>simp only[kp];omega)
    (λn t _=>by rw[JV,ka (by omega)];rfl) [] (by simp)
   rw[show((0:Nat):Int)=0 from rfl,kF] at k;rw[k.1];rfl
 simp only[ke,kp,K,Bool.and_true,dimOk];cases (r.X.B-r.X.A==(qZ p).1)&&(r.Y.B-r.Y.A==(qZ p).2)<;>cases (r.X.B-r.X.A==(qZ p).2)&&(r.Y.B-r.Y.A==(qZ p).1)<;>rfl
def spanAt (p:Product) (z:Int) (i:Nat):Span:=⟨z,z+p.Lengths.getD i du⟩
def OF (st:Int×Bool×Span) (v:Int×Bool) (s:Span):Int×Bool×Span:=bif v.2&&(!st.2.1||decide (v.1>st.1)) then(v.1,true,s) else st
def qDn (v:zA) (fine z:Int) (st:Int×Bool×Span):Int×Bool×Span:=foldN (λi st=>OF st (worthV v (spanAt v.product z i) fine) (spanAt v.product z i)) 0 v.product.Lengths.length st
def HB (n step:Int):Nat:=((n+step-1)/step).toNat
def qPJ (v:zA) (step fine:Int):Int×Bool×Span:=foldN (λk st=>qDn v fine ((k:Int)*step) st) 0 (HB v.length step) (0,false,⟨0,0⟩)
theorem qGA {n step:Int} (h0:0<=n) (h1:1<=step) {k:Nat}:k<HB n step↔(k:Int)*step<n:=by
 unfold HB;have hd:0<=(n+step-1)/step:=Int.ediv_nonneg (by omega) (by omega);have a:(k:Int)<(n+step-1)/step↔((k:Int)+1)*step<=n+step-1:=by
  rw[<-Int.le_ediv_iff_mul_le (by omega)];omega
 have e:((k:Int)+1)*step=(k:Int)*step+step:=by rw[uF];simp
 rw[e] at a;omega
def BI' (n:Int) (st:Int×Bool×Span):Prop:=0<=st.1/\st.1<=1000000/\(st.2.1=true->0<=st.2.2.A/\st.2.2.A<st.2.2.B/\st.2.2.B<=n)
theorem q0B {n:Int} {st:Int×Bool×Span} {v:Int×Bool} {s:Span} (h:BI' n st) (hv:0<=v.1/\v.1<=1000000/\(v.2=true->0<=s.A/\s.A<s.B/\s.B<=n)):BI' n (OF st v s):=by
 unfold OF;cases hc:v.2&&(!st.2.1||decide (v.1>st.1)) with
 |false=>exact h
 |true=>
  have:v.2=true:=by cases h2:v.2 with|true=>rfl|false=>rw[h2] at hc;cases hc
  exact⟨hv.1,hv.2.1,λ_=>hv.2.2 this⟩
theorem HN {σ:Type} {f:Nat->σ->σ} {P:σ->Prop}:∀{k x:Nat} {s:σ},P s->(∀i s,x<=i->i<x+k->P s->P (f i s))->P (foldN f x k s)
 |0,_,_,h,_=>h
 |k+1,x,s,h,hf=>by
  unfold foldN;exact HN (k:=k) (hf x s (ki _) (by omega) h) (λi s h1 h2=>hf i s (by omega) (by omega))
theorem q0T {v:zA} {fine z:Int} {st:Int×Bool×Span} (hf:0<=fine) (hp:VP v.product) (h:BI' v.length st):BI' v.length (qDn v fine z st):=
 HN h (λi s _ _ hs=>q0B hs (q0W hf hp))
theorem q1T {v:zA} {step fine:Int} (hf:0<=fine) (hp:VP v.product):BI' v.length (qPJ v step fine):=
 HN ⟨by decide,by decide,λh=>by cases h⟩ (λi s _ _ hs=>q0T hf hp hs)
theorem qZ9 (v:zA) {fine z:Int} (hf:0<=fine/\fine<=1000000) (hp:VP v.product) (hl:v.defects.length<=64) (hz:v.zones.length<=1000000) (hn:v.length<=20000) (h0:0<=z) (h1:z<=20000) (a b:Bool) (st:Int×Bool×Span):
  yH v.product fine (v,a) z FUEL st.1 st.2.1 0 st.2.2=some (qDn v fine z st):=by
 have hll:=hp.ll;have k:=zR v.product.Lengths.length (λn (s:Int×Bool×Span) i=>yH v.product fine (v,a) z n s.1 s.2.1 i s.2.2) (λi st=>OF st (worthV v (spanAt v.product z i) fine) (spanAt v.product z i)) (λs=>s) (λ_ _=>True) 0 (by omega) (by omega)
  (λn i s hi _=>⟨by
   obtain⟨s1,s2,s3⟩:=s;have lb:=hp.lb i hi
   try simp only
   rw[yH,kd (by omega),qU (by omega)];simp only[kn,ko,qY (show i<4611686018427387904 by omega)];rw[qK (n:=z+v.product.Lengths.getD i du) (by omega)];have e:YU ⟨v.product,v.rect,v.length,v.zones,v.defects⟩ ⟨z,z+v.product.Lengths.getD i du⟩ fine=some (worthV v (spanAt v.product z i) fine):=q0I v (spanAt v.product z i) hf hp hl hz hn;rw[e];simp only[ke,FM,CJ,OF,ko,qY (show i<4611686018427387904 by omega)];rw[qK (n:=z+v.product.Lengths.getD i du) (by omega)];cases (worthV v (spanAt v.product z i) fine).2<;>cases s2<;>cases decide ((worthV v (spanAt v.product z i) fine).1>s1)<;>rfl,trivial⟩)
  (λn s _=>by rw[yH,ka (by omega)];rfl) st trivial
 rw[show((0:Nat):Int)=0 from rfl,kF] at k;exact k.1
theorem q1G (v:zA) {step fine:Int} (hf:0<=fine/\fine<=1000000) (hs:1<=step/\step<=20000) (hp:VP v.product) (hl:v.defects.length<=64) (hz:v.zones.length<=1000000) (hn:0<=v.length/\v.length<=20000) (a:Bool):
  KV v.product step fine (v,a) FUEL 0 false 0 ⟨0,0⟩=some (qPJ v step fine):=by
 have hN:HB v.length step<=1000000000:=by
  unfold HB;have:=Int.ediv_le_self step (show 0<=v.length+step-1 by omega);omega
 have k:=qI3 (HB v.length step) (λn (s:Int×Bool×Span) (z:Int)=>KV v.product step fine (v,a) n s.1 s.2.1 z s.2.2) (λk=>(k:Int)*step) (λk st=>qDn v fine ((k:Int)*step) st) (λs=>s) (λ_ _=>True) hN
  (λn i s hi _=>⟨by
   have h1:=(qGA hn.1 hs.1).1 hi;have h0:0<=(i:Int)*step:=kC (by omega) (by omega);have e:(i:Int)*step+step=((i+1:Nat):Int)*step:=by rw[Int.natCast_add,uF];simp
   try simp only
   rw[KV,kd h1,qZ9 v hf hp hl hz hn.2 h0 (by omega) a true s,qK (by omega),e];rfl,trivial⟩)
  (λn s _=>by
   have h1:¬((HB v.length step:Nat):Int)*step<v.length:=λh=>by have:=(qGA hn.1 hs.1).2 h;omega
   try simp only
   rw[KV,ka h1];rfl) (0,false,⟨0,0⟩) trivial
 simp only[Int.natCast_zero,uJ] at k;exact k.1
def bestR (l:List qC) (ds:List qF) (p:Product) (r:Rect) (step fine:Int):Int×Bool×Span:=bif dimOk r p then qPJ (viewOf l ds p r) step fine else(0,false,⟨0,0⟩)
theorem qTp (l:List qC) (r:Rect):(zones l r).length=l.length:=by unfold zones;simp
theorem qAl {l:List qC} (h:VSol l):1<=solLen l/\solLen l<=20000:=by
 have:=h.bd (ki l.length);have:=h.ne;unfold solLen;omega
theorem qOi {l:List qC} {ds:List qF} {p:Product} {r:Rect} {step fine:Int} (hf:0<=fine) (hp:VP p):BI' (solLen l) (bestR l ds p r step fine):=by
 unfold bestR;cases dimOk r p with
 |true=>exact q1T (v:=viewOf l ds p r) hf hp
 |false=>exact⟨show(0:Int)<=0 by decide,show(0:Int)<=1000000 by decide,λh=>by cases h⟩
theorem qWN {l:List qC} {ds:List qF} {p:Product} {r:Rect} {step fine:Int} (hs:VSol l) (hd:WK ds=0) (hp:wI [p]=0) (hv:VP p) (hr:VR r) (hst:1<=step/\step<=20000) (hf:0<=fine/\fine<=1000000):
  EL l ds p r step fine=some ((bestR l ds p r step fine).2.2,(bestR l ds p r step fine).1,(bestR l ds p r step fine).2.1):=by
 have hdl:=((PO ds).1 hd).1;have hl:=hs.len;unfold EL CM;rw[qS6,qSZ,kd hst,kd hf];simp only[ke,ky,kp,look_eq hs hd hp hr];unfold bestR;cases dimOk r p with
 |false=>rfl
 |true=>
  simp only[kn,ky,kp];have nl:=q1e ds ⟨r.X,r.Y,⟨0,solLen l⟩⟩;have sb:=qAl hs;have k:=q1G (viewOf l ds p r) (step:=step) hf hst hv (by show(near ds _).length<=64;omega) (by show(zones l r).length<=1000000;rw[qTp];omega) ⟨by show 0<=solLen l;omega,sb.2⟩ true;rw[show(viewOf l ds p r).product=p from rfl] at k;rw[k];rfl
def AR (l:List qC) (ds:List qF) (p:Product) (r:Rect) (w:Saw) (t:Rates):Int:=
 bif (bestR l ds p r w.Step t.Fine).2.1 then
  (1000000*(bestR l ds p r w.Step t.Fine).1
   +t.Dust*(volS l r.X r.Y ⟨imax 0 ((bestR l ds p r w.Step t.Fine).2.2.A-w.Trim),(bestR l ds p r w.Step t.Fine).2.2.A⟩+volS l r.X r.Y ⟨(bestR l ds p r w.Step t.Fine).2.2.B,imin ((bestR l ds p r w.Step t.Fine).2.2.B+w.Trim) (solLen l)⟩))
   + t.Chip*(volS l r.X r.Y ⟨0,solLen l⟩-volS l r.X r.Y (bestR l ds p r w.Step t.Fine).2.2
     -(volS l r.X r.Y ⟨imax 0 ((bestR l ds p r w.Step t.Fine).2.2.A-w.Trim),(bestR l ds p r w.Step t.Fine).2.2.A⟩+volS l r.X r.Y ⟨(bestR l ds p r w.Step t.Fine).2.2.B,imin ((bestR l ds p r w.Step t.Fine).2.2.B+w.Trim) (solLen l)⟩))
 else-1
theorem qYu {l:List qC} {ds:List qF} {p:Product} {r:Rect} {w:Saw} {t:Rates} (hs:VSol l) (hd:WK ds=0) (hp:wI [p]=0) (hv:VP p) (hr:VR r) (hw:VW w t):
  qCY l ds p r w t=some (AR l ds p r w t)/\-1125899906842624<=AR l ds p r w t/\AR l ds p r w t<=1125899906842624:=by
 unfold qCY AR;rw[qWN hs hd hp hv hr hw.step hw.fine];have B:=qOi (l:=l) (ds:=ds) (p:=p) (r:=r) (step:=w.Step) hw.fine.1 hv;generalize bestR l ds p r w.Step t.Fine=b at*;obtain⟨v,f,z⟩:=b;simp only[ke] at*;cases f with
 |false=>exact⟨rfl,show(-1125899906842624:Int)<=-1 by decide,show(-1:Int)<=1125899906842624 by decide⟩
 |true=>
  obtain⟨b1,b2,b3⟩:=B;have b3:=b3 rfl;simp only at b1 b2 b3;simp only[ky,kp,kn];have sb:=qAl hs;have tr:=hw.trim;rw[(YA l).1,KF hs];simp only[ke,qZD hs];rw[qK (n:=z.A-w.Trim) (by omega),qK (n:=z.B+w.Trim) (by omega)];have v1:=EI hs r.X r.Y ⟨0,solLen l⟩;have v2:=EI hs r.X r.Y z;have v3:=EI hs r.X r.Y ⟨imax 0 (z.A-w.Trim),z.A⟩;have v4:=EI hs r.X r.Y ⟨z.B,imin (z.B+w.Trim) (solLen l)⟩;generalize volS l r.X r.Y ⟨0,solLen l⟩=x1 at*;generalize volS l r.X r.Y z=x2 at*;generalize volS l r.X r.Y ⟨imax 0 (z.A-w.Trim),z.A⟩=x3 at*;generalize volS l r.X r.Y ⟨z.B,imin (z.B+w.Trim) (solLen l)⟩=x4 at*
  have m1:=jL (a:=t.Dust) (b:=x3+x4) (m:=1000) (n:=57600000000) (by have:=hw.dust;omega) (by have:=hw.dust;omega) (by omega) (by omega) (by omega) (by omega);have m2:=jL (a:=t.Chip) (b:=x1-x2-(x3+x4)) (m:=1000) (n:=86400000000) (by have:=hw.chip;omega) (by have:=hw.chip;omega) (by omega) (by omega) (by omega) (by omega);rw[qK (n:=1000000*v) (by omega),qK (n:=x3+x4) (by omega),qK (n:=x1-x2) (by omega),qK (n:=x1-x2-(x3+x4)) (by omega)];generalize t.Dust*(x3+x4)=y1 at*;generalize t.Chip*(x1-x2-(x3+x4))=y2 at*
  rw[qK (n:=y1) (by omega),qK (n:=y2) (by omega),qK (n:=1000000*v+y1) (by omega),qK (by omega)];exact⟨rfl,by omega,by omega⟩
structure SzI (l:List Product) (x:Nat) (s:List Int×List Int):Prop where
 len:s.1.length=s.2.length
 le:s.1.length<=x
 at_:∀j,j<s.1.length->∃i:Nat,i<x/\s.2.getD j du=(i:Int)/\(s.1.getD j du=(qZ (l.getD i du)).1\/s.1.getD j du=(qZ (l.getD i du)).2)
theorem qFR {α:Type} [Inhabited α] {l:List α} {x:α} {i:Nat} (h:i<=l.length):(l++[x]).getD i du=if i<l.length then l.getD i du else x:=by
 simp only[kg,List.getElem?_append];by_cases c:i<l.length
 ·simp[c]
 ·have:i=l.length:=by omega
  subst this;simp
theorem qVr {l:List Product} {x:Nat} {s:List Int×List Int} (h:SzI l x s) {v:Int} (hv:v=(qZ (l.getD x du)).1\/v=(qZ (l.getD x du)).2):SzI l (x+1) (s.1++[v],s.2++[(x:Int)]):=by
 have h1:=h.len;have h2:=h.le;refine⟨by simp[h1],by simp;omega,λj hj=>?_⟩;simp only[kS,um,uT] at hj;simp only;rw[qFR (by omega),qFR (by omega)];by_cases c:j<s.1.length
 ·rw[if_pos c,if_pos (by omega)];obtain⟨i,a,b,d⟩:=h.at_ j c;exact⟨i,by omega,b,d⟩
 ·rw[if_neg c,if_neg (by omega)];exact⟨x,by omega,rfl,hv⟩
theorem q1S {l:List Product} {x:Nat} {s:List Int×List Int} (h:SzI l x s):SzI l (x+1) s:=⟨h.len,by have:=h.le;omega,λj hj=>by obtain⟨i,a,b⟩:=h.at_ j hj;exact⟨i,by omega,b⟩⟩
theorem qQ1 {l:List Product} (hc:wI l=0) (t:Int):SzI l l.length (zH l t):=by
 unfold zH;rw[if_neg (by omega)];have:∀k,SzI l k (foldN (sizStep l t) 0 k ([],[])):=by
  intro k
  induction k with
  |zero=>exact⟨rfl,by simp[foldN],λj hj=>by simp[foldN] at hj⟩
  |succ k ih=>
   rw[yE,kw];unfold sizStep;cases (qZ (l.getD k du)).1==t with
   |true=>exact qVr ih (.inr rfl)
   |false=>cases (qZ (l.getD k du)).2==t with
    |true=>exact qVr ih (.inl rfl)
    |false=>exact q1S ih
 exact this _
theorem qTq {p:Product} (h:VP p):5<=(qZ p).1/\(qZ p).1<=721/\5<=(qZ p).2/\(qZ p).2<=600:=by
 have b:=qWI p;have g:=h.gr;have t:=h.th;have w:=h.wd;have a:=h.al;have e:okG p=true:=qLm.2 ⟨by omega,by omega,a⟩;have g1:=qAP (n:=p.Thick) (a:=p.Allow) (by omega) (by omega) a.1 a.2;have g2:=qAP (n:=p.Width) (a:=p.Allow) (by omega) (by omega) a.1 a.2;have eg:qZ p=(qCR p.Thick p.Allow,qCR p.Width p.Allow):=by unfold qZ;rw[e];rfl
 rw[eg] at b g⊢;simp only at b g⊢;omega
theorem qIJ {l:List Product} (hc:wI l=0) (t:Int) {j:Nat} (hj:j<(zH l t).1.length):5<=(zH l t).1.getD j du/\(zH l t).1.getD j du<=721/\∃i:Nat,i<l.length/\(zH l t).2.getD j du=(i:Int)/\VP (l.getD i du)/\wI [l.getD i du]=0:=by
 obtain⟨i,a,b,c⟩:=(qQ1 hc t).at_ j hj;have v:=qOd hc a;have g:=qTq v;refine⟨by omega,by omega,i,a,b,v,qS0 hc a⟩
def GN (r:Rect) (a b:Int):Rect:=⟨⟨r.X.A+a,r.X.A+b⟩,r.Y⟩
theorem qRX {r:Rect} (h:VR r) {a b:Int} (h1: -2000<=a/\a<=2000) (h2: -2000<=b/\b<=2000):HW r a b=some (GN r a b):=by
 unfold VR at h;unfold HW GN;rw[qK (by omega),qK (by omega)]
theorem qQY {r:Rect} (h:VR r) {a b:Int} (h1:0<=a) (h2:a<b) (h3:b<=r.X.B-r.X.A):VR (GN r a b):=by
 unfold VR at*;unfold GN;simp only;omega
end Saw
end Go.SL
