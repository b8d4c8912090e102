import Derived.Test.YtidlfgiogdjkaaaGreatDoorEMa2
set_option linter.unusedVariables false
set_option linter.unusedSimpArgs false
namespace Go.SL
namespace Saw
def insS (s:Span) (lo hi:Int):Bool:=decide ((lo<=s.A/\lo<=s.B)/\(s.A<=hi/\s.B<=hi))
theorem qTq (s:Span) (lo hi:Int):YZ s lo hi=some (insS s lo hi):=by
 unfold YZ GZ insS;have a:=imin_or s.A s.B;have b:=JA s.A s.B;by_cases h1:imin s.A s.B≥lo
 ·rw[decide_eq_true h1];by_cases h2:imax s.A s.B<=hi
  ·rw[decide_eq_true h2,decide_eq_true (by omega)];rfl
  ·rw[decide_eq_false h2,decide_eq_false (by omega)];rfl
 ·rw[decide_eq_false h1,decide_eq_false (show¬((lo<=s.A/\lo<=s.B)/\(s.A<=hi/\s.B<=hi)) by omega)];rfl
def chkD (d:Defect):Int:=
 if d.Kind<1\/6<d.Kind then 10
 else bif empS d.Box.X||(empS d.Box.Y||empS d.Box.Z) then 19
 else bif insS d.Box.X (-600) 600&&(insS d.Box.Y (-600) 600&&insS d.Box.Z 0 20000) then 0 else 9
theorem qM4 (s:Span):yP s=some (empS s):=rfl
theorem chkD_eq (d:Defect):NN d=some (chkD d):=by
 unfold NN BU PX RF chkD;simp only[qM4,qTq,Option.bind_some];by_cases h1:d.Kind<1
 ·rw[decide_eq_true h1,if_pos (.inl h1)];rfl
 rw[decide_eq_false h1];by_cases h2:d.Kind>6
 ·rw[decide_eq_true h2,if_pos (.inr h2)];rfl
 rw[decide_eq_false h2,if_neg (by omega)];cases empS d.Box.X<;>cases empS d.Box.Y<;>cases empS d.Box.Z<;>cases insS d.Box.X (-600) 600<;>cases insS d.Box.Y (-600) 600<;>cases insS d.Box.Z 0 20000<;>rfl
structure VD (d:Defect):Prop where
 k1:1<=d.Kind
 k2:d.Kind<=6
 x:d.Box.X.A<d.Box.X.B/\-600<=d.Box.X.A/\d.Box.X.B<=600
 y:d.Box.Y.A<d.Box.Y.B/\-600<=d.Box.Y.A/\d.Box.Y.B<=600
 z:d.Box.Z.A<d.Box.Z.B/\0<=d.Box.Z.A/\d.Box.Z.B<=20000
theorem qSx (d:Defect):chkD d=0↔VD d:=by
 unfold chkD;by_cases h1:d.Kind<1\/6<d.Kind
 ·rw[if_pos h1];exact⟨λh=>absurd h (by decide),λh=>by have:=h.k1;have:=h.k2;omega⟩
 rw[if_neg h1];cases hx:empS d.Box.X with
 |true=>exact⟨λh=>absurd (show(19:Int)=0 from h) (by decide),λh=>by have:=h.x;have:=of_decide_eq_true hx;omega⟩
 |false=>
 cases hy:empS d.Box.Y with
 |true=>exact⟨λh=>absurd (show(19:Int)=0 from h) (by decide),λh=>by have:=h.y;have:=of_decide_eq_true hy;omega⟩
 |false=>
 cases hz:empS d.Box.Z with
 |true=>exact⟨λh=>absurd (show(19:Int)=0 from h) (by decide),λh=>by have:=h.z;have:=of_decide_eq_true hz;omega⟩
 |false=>
 have ex:=of_decide_eq_false hx;have ey:=of_decide_eq_false hy;have ez:=of_decide_eq_false hz;unfold insS;by_cases i1:(-600<=d.Box.X.A/\-600<=d.Box.X.B)/\d.Box.X.A<=600/\d.Box.X.B<=600
 ·rw[decide_eq_true i1];by_cases i2:(-600<=d.Box.Y.A/\-600<=d.Box.Y.B)/\d.Box.Y.A<=600/\d.Box.Y.B<=600
  ·rw[decide_eq_true i2];by_cases i3:(0<=d.Box.Z.A/\0<=d.Box.Z.B)/\d.Box.Z.A<=20000/\d.Box.Z.B<=20000
   ·rw[decide_eq_true i3];exact⟨λ_=>⟨by omega,by omega,by omega,by omega,by omega⟩,λ_=>rfl⟩
   ·rw[decide_eq_false i3];exact⟨λh=>absurd h (by decide),λh=>by have:=h.z;omega⟩
  ·rw[decide_eq_false i2];exact⟨λh=>absurd (show(9:Int)=0 from h) (by decide),λh=>by have:=h.y;omega⟩
 ·rw[decide_eq_false i1];exact⟨λh=>absurd (show(9:Int)=0 from h) (by decide),λh=>by have:=h.x;omega⟩
def badD (d:Defect):Option Int:=bif chkD d !=0 then some (chkD d) else none
def PT (l:List Defect):Int:=if 64<l.length then 4 else match findE badD l with| .inl e=>e| .inr _=>0
theorem qEa (l:List Defect):YC l=some (PT l):=by
 unfold YC PT;by_cases h:64<l.length
 ·rw[if_pos h,decide_eq_true (by omega)];rfl
 rw[if_neg h,decide_eq_false (by omega)];have L:ZJ l FUEL 0=some (findE badD l):=by
  refine RH l (ZJ l) badD (by omega) (λn x hx=>?_) (λn=>?_)
  ·rw[ZJ,decide_eq_true (by omega),qL (by omega) (by omega)];simp only[cond_true,Int.toNat_natCast,qP (show x<4611686018427387904 by omega),chkD_eq,Option.bind_some,badD];cases chkD (l.getD x default) !=0<;>rfl
  ·rw[ZJ,decide_eq_false (by omega)];rfl
 rw[L];simp only[cond_false,Option.bind_some];cases findE badD l<;>rfl
theorem qMo {d:Defect}:badD d=none↔VD d:=by
 rw[<-qSx];unfold badD;by_cases h:chkD d=0
 ·rw[h];simp
 ·rw[show(chkD d !=0)=true by rw[bne_iff_ne];exact h];simp[h]
theorem TA (l:List Defect):PT l=0↔l.length<=64/\∀d∈l,VD d:=by
 unfold PT;by_cases h:64<l.length
 ·rw[if_pos h];exact⟨λh=>absurd h (by decide),λh=>by omega⟩
 rw[if_neg h];cases hf:findE badD l with
 |inl e=>
  obtain⟨a,ha,hb⟩:=qCl hf;simp only;have hn:e≠0:=by
   unfold badD at hb;cases hc:chkD a !=0 with
   |true=>rw[hc] at hb;cases hb;exact bne_iff_ne.1 hc
   |false=>rw[hc] at hb;cases hb
  exact⟨λh=>absurd h hn,λh=>by rw[qMo.2 (h.2 a ha)] at hb;cases hb⟩
 |inr u=>exact⟨λ_=>⟨by omega,λd hd=>qMo.1 (GW.1 hf d hd)⟩,λ_=>rfl⟩
structure VW (s:Saw) (r:Rates):Prop where
 kerf:0<=s.Kerf/\s.Kerf<=20
 trim:0<=s.Trim/\s.Trim<=20
 pitch:1<=s.Pitch/\s.Pitch<=2000
 step:1<=s.Step/\s.Step<=20000
 chip:0<=r.Chip/\r.Chip<=1000
 dust:0<=r.Dust/\r.Dust<=1000
 fine:0<=r.Fine/\r.Fine<=1000000
theorem qMI (n:Int):UV n=some (decide (1<=n/\n<=20000)):=by
 unfold UV BI;by_cases h1:n≥1
 ·rw[decide_eq_true h1];by_cases h2:n<=20000
  ·rw[decide_eq_true h2,decide_eq_true ⟨h1,h2⟩];rfl
  ·rw[decide_eq_false h2,decide_eq_false (λh=>h2 h.2)];rfl
 ·rw[decide_eq_false h1,decide_eq_false (show¬(1<=n/\n<=20000) from λh=>h1 h.1)];rfl
theorem qMP (n:Int):UG n=some (decide (0<=n/\n<=1000000)):=by
 unfold UG BM;by_cases h1:n≥0
 ·rw[decide_eq_true h1];by_cases h2:n<=1000000
  ·rw[decide_eq_true h2,decide_eq_true ⟨h1,h2⟩];rfl
  ·rw[decide_eq_false h2,decide_eq_false (λh=>h2 h.2)];rfl
 ·rw[decide_eq_false h1,decide_eq_false (show¬(0<=n/\n<=1000000) from λh=>h1 h.1)];rfl
open Classical in
noncomputable def BK (s:Saw) (r:Rates):Int:=if VW s r then 0 else 9
theorem DF (s:Saw) (r:Rates):BK s r=0↔VW s r:=by
 unfold BK;by_cases h:VW s r
 ·rw[if_pos h];simp[h]
 ·rw[if_neg h];simp[h]
theorem qEw (s:Saw) (r:Rates):XN s r=some (BK s r):=by
 unfold XN XY UT JK;simp only[qMI,qMP,Option.bind_some];have no:¬VW s r->BK s r=9:=λh=>by unfold BK;rw[if_neg h]
 by_cases c1:s.Kerf<0
 ·rw[decide_eq_true c1,no (λh=>by have:=h.kerf;omega)];rfl
 rw[decide_eq_false c1];by_cases c2:s.Kerf>20
 ·rw[decide_eq_true c2,no (λh=>by have:=h.kerf;omega)];rfl
 rw[decide_eq_false c2];by_cases c3:s.Trim<0
 ·rw[decide_eq_true c3,no (λh=>by have:=h.trim;omega)];rfl
 rw[decide_eq_false c3];by_cases c4:s.Trim>20
 ·rw[decide_eq_true c4,no (λh=>by have:=h.trim;omega)];rfl
 rw[decide_eq_false c4];simp only[cond_false];by_cases c5:s.Pitch<1
 ·rw[decide_eq_true c5,no (λh=>by have:=h.pitch;omega)];rfl
 rw[decide_eq_false c5];by_cases c6:s.Pitch>2000
 ·rw[decide_eq_true c6,no (λh=>by have:=h.pitch;omega)];rfl
 rw[decide_eq_false c6];by_cases c7:1<=s.Step/\s.Step<=20000
 ·rw[decide_eq_true c7];simp only[cond_false,Bool.not_true];by_cases d1:r.Chip<0
  ·rw[decide_eq_true d1,no (λh=>by have:=h.chip;omega)];rfl
  rw[decide_eq_false d1];by_cases d2:r.Chip>1000
  ·rw[decide_eq_true d2,no (λh=>by have:=h.chip;omega)];rfl
  rw[decide_eq_false d2];by_cases d3:r.Dust<0
  ·rw[decide_eq_true d3,no (λh=>by have:=h.dust;omega)];rfl
  rw[decide_eq_false d3];by_cases d4:r.Dust>1000
  ·rw[decide_eq_true d4,no (λh=>by have:=h.dust;omega)];rfl
  rw[decide_eq_false d4];by_cases d5:0<=r.Fine/\r.Fine<=1000000
  ·rw[decide_eq_true d5,(DF s r).2 ⟨by omega,by omega,by omega,by omega,by omega,by omega,by omega⟩];rfl
  ·rw[decide_eq_false d5,no (λh=>d5 h.fine)];rfl
 ·rw[decide_eq_false c7,no (λh=>c7 h.step)];rfl
def VR (r:Rect):Prop:=(-600<=r.X.A/\r.X.A<r.X.B/\r.X.B<=600)/\(-600<=r.Y.A/\r.Y.A<r.Y.B/\r.Y.B<=600)
instance (r :Rect):Decidable (VR r):=by unfold VR;exact inferInstance
def badR (lo hi:Int):Option Bool:=if lo< -600\/600<hi\/hi<=lo then some false else none
theorem qCz {lo hi:Int}:badR lo hi=none↔-600<=lo/\lo<hi/\hi<=600:=by
 unfold badR;by_cases h:lo< -600\/600<hi\/hi<=lo
 ·rw[if_pos h];exact⟨λh=>(by cases h),λh=>by omega⟩
 ·rw[if_neg h];exact⟨λ_=>by omega,λ_=>rfl⟩
theorem qN4 (r:Rect) (L:Nat->Int->Option (Bool⊕Unit))
  (h0:∀n,L (n+1) 0=match badR r.X.A r.X.B with|some e=>some (.inl e)|none=>L n 1)
  (h1:∀n,L (n+1) 1=match badR r.Y.A r.Y.B with|some e=>some (.inl e)|none=>L n 2)
  (h2:∀n,L (n+1) 2=some (.inr ())):((L FUEL 0).bind λu=>Sum.elim (λv=>some v) (λ_=>some true) u)=some (decide (VR r)):=by
 rw[FUEL_eq,show(4611686018427387904:Nat)=4611686018427387901+1+1+1 from rfl,h0];cases hx:badR r.X.A r.X.B with
 |some e=>
  have:¬VR r:=λh=>by rw[qCz.2 h.1] at hx;cases hx
  rw[decide_eq_false this];unfold badR at hx;split at hx<;>cases hx;rfl
 |none=>
  simp only;rw[h1];cases hy:badR r.Y.A r.Y.B with
  |some e=>
   have:¬VR r:=λh=>by rw[qCz.2 h.2] at hy;cases hy
   rw[decide_eq_false this];unfold badR at hy;split at hy<;>cases hy;rfl
  |none=>
   simp only;rw[h2,decide_eq_true (show VR r from⟨qCz.1 hx,qCz.1 hy⟩)];rfl
theorem qNY {lo hi:Int} {α:Type} (k:Bool->α):(bif decide (lo< -600) then k true else bif decide (hi>600) then k true else k (decide (lo≥hi)))=k (match badR lo hi with|some _=>true|none=>false):=by
 unfold badR;by_cases h1:lo< -600
 ·rw[decide_eq_true h1,if_pos (.inl h1)];rfl
 rw[decide_eq_false h1];by_cases h2:hi>600
 ·rw[decide_eq_true h2,if_pos (by omega)];rfl
 rw[decide_eq_false h2];by_cases h3:lo≥hi
 ·rw[decide_eq_true h3,if_pos (by omega)];rfl
 ·rw[decide_eq_false h3,if_neg (by omega)];rfl
theorem qSZ (r:Rect):NU r=some (decide (VR r)):=by
 unfold NU;refine qN4 r (wC r) (λn=>?_) (λn=>?_) (λn=>?_)
 ·rw[wC,decide_eq_true (by omega),qL (by omega) (by omega)];simp only[cond_true];refine(qNY (lo:=r.X.A) (hi:=r.X.B) (λb=>QC 0 (wC r n) b)).trans ?_;unfold badR QC;split<;>rename_i h<;>revert h<;>split<;>intro h<;>(try cases h)<;>rfl
 ·rw[wC,decide_eq_true (by omega),qL (by omega) (by omega)];simp only[cond_true];refine(qNY (lo:=r.Y.A) (hi:=r.Y.B) (λb=>QC 1 (wC r n) b)).trans ?_;unfold badR QC;split<;>rename_i h<;>revert h<;>split<;>intro h<;>(try cases h)<;>rfl
 ·rw[wC,decide_eq_false (by omega)];rfl
theorem isFrame_eq (r:Rect):jW r=some (decide (VR r)):=by
 unfold jW;refine qN4 r (zA r) (λn=>?_) (λn=>?_) (λn=>?_)
 ·rw[zA,decide_eq_true (by omega),qL (by omega) (by omega)];simp only[cond_true];refine(qNY (lo:=r.X.A) (hi:=r.X.B) (λb=>wK 0 (zA r n) b)).trans ?_;unfold badR wK;split<;>rename_i h<;>revert h<;>split<;>intro h<;>(try cases h)<;>rfl
 ·rw[zA,decide_eq_true (by omega),qL (by omega) (by omega)];simp only[cond_true];refine(qNY (lo:=r.Y.A) (hi:=r.Y.B) (λb=>wK 1 (zA r n) b)).trans ?_;unfold badR wK;split<;>rename_i h<;>revert h<;>split<;>intro h<;>(try cases h)<;>rfl
 ·rw[zA,decide_eq_false (by omega)];rfl
noncomputable def chkE (s:List qB) (d:List Defect) (p:List Product) (r:Rect) (w:Saw) (t:Rates):Int:=
 if TP s≠0 then TP s else if PT d≠0 then PT d else if zO p≠0 then zO p else if BK w t≠0 then BK w t
 else if r.X.A≥r.X.B\/r.Y.A≥r.Y.B then 19
 else if r.X.A< -600\/600<r.X.A\/r.X.B< -600\/600<r.X.B\/r.Y.A< -600\/600<r.Y.A\/r.Y.B< -600\/600<r.Y.B then 9 else 0
structure VE (s:List qB) (d:List Defect) (p:List Product) (r:Rect) (w:Saw) (t:Rates):Prop where
 sol:VSol s
 dl:d.length<=64
 dd:∀x∈d,VD x
 pr:zO p=0
 vw:VW w t
 vr:VR r
theorem XU {s:List qB} {d:List Defect} {p:List Product} {r:Rect} {w:Saw} {t:Rates}:chkE s d p r w t=0↔VE s d p r w t:=by
 unfold chkE;by_cases h1:TP s≠0
 ·rw[if_pos h1];exact⟨λh=>absurd h h1,λh=>absurd ((GU s).2 h.sol) h1⟩
 rw[if_neg h1];by_cases h2:PT d≠0
 ·rw[if_pos h2];exact⟨λh=>absurd h h2,λh=>absurd ((TA d).2 ⟨h.dl,h.dd⟩) h2⟩
 rw[if_neg h2];by_cases h3:zO p≠0
 ·rw[if_pos h3];exact⟨λh=>absurd h h3,λh=>absurd h.pr h3⟩
 rw[if_neg h3];by_cases h4:BK w t≠0
 ·rw[if_pos h4];exact⟨λh=>absurd h h4,λh=>absurd ((DF w t).2 h.vw) h4⟩
 rw[if_neg h4];by_cases h5:r.X.A≥r.X.B\/r.Y.A≥r.Y.B
 ·rw[if_pos h5];exact⟨λh=>absurd h (by decide),λh=>by have:=h.vr;unfold VR at this;omega⟩
 rw[if_neg h5];by_cases h6:r.X.A< -600\/600<r.X.A\/r.X.B< -600\/600<r.X.B\/r.Y.A< -600\/600<r.Y.A\/r.Y.B< -600\/600<r.Y.B
 ·rw[if_pos h6];exact⟨λh=>absurd h (by decide),λh=>by have:=h.vr;unfold VR at this;omega⟩
 rw[if_neg h6];have k2:=(TA d).1 (by omega);exact⟨λ_=>⟨(GU s).1 (by omega),k2.1,k2.2,by omega,(DF w t).1 (by omega),by unfold VR;omega⟩,λ_=>rfl⟩
theorem chkE_eq (s:List qB) (d:List Defect) (p:List Product) (r:Rect) (w:Saw) (t:Rates):AE s d p r w t=some (chkE s d p r w t):=by
 unfold AE chkE HT;rw[(OO s).1,qEa,SE,qEw];simp only[Option.bind_some];have bt:∀{n:Int},n≠0->(n !=0)=true:=λh=>by rw[bne_iff_ne];exact h
 have bf:∀{n:Int},¬n≠0->(n !=0)=false:=λh=>by rw[bne_eq_false_iff_eq];omega
 by_cases h1:TP s≠0
 ·rw[if_pos h1,bt h1];rfl
 rw[if_neg h1,bf h1];by_cases h2:PT d≠0
 ·rw[if_pos h2,bt h2];rfl
 rw[if_neg h2,bf h2];by_cases h3:zO p≠0
 ·rw[if_pos h3,bt h3];rfl
 rw[if_neg h3,bf h3];by_cases h4:BK w t≠0
 ·rw[if_pos h4,bt h4];rfl
 rw[if_neg h4,bf h4];simp only[cond_false];by_cases h5:r.X.A≥r.X.B
 ·rw[if_pos (.inl h5),decide_eq_true h5];rfl
 rw[decide_eq_false h5];by_cases h6:r.Y.A≥r.Y.B
 ·rw[if_pos (.inr h6),decide_eq_true h6];rfl
 rw[decide_eq_false h6,if_neg (by omega)];simp only[cond_false];have L:QL r FUEL ((0:Nat):Int)=some (findN (λi=>if(([r.X.A,r.X.B,r.Y.A,r.Y.B]:List Int).getD i 0)< -600\/600<(([r.X.A,r.X.B,r.Y.A,r.Y.B]:List Int).getD i 0) then some (9:Int) else none) 0 (4-0)):=by
  refine ZW 4 (QL r) _ 0 (by omega) (by omega) (λn i hi hN=>?_) (λn=>?_)
  ·rw[QL,decide_eq_true (by omega),qL (by omega) (by omega)];simp only[cond_true,Int.toNat_natCast,qP (show i<4611686018427387904 by omega),HZ];by_cases c1:([r.X.A,r.X.B,r.Y.A,r.Y.B]:List Int).getD i 0< -600
   ·rw[decide_eq_true c1,if_pos (.inl c1)];rfl
   rw[decide_eq_false c1];by_cases c2:600<([r.X.A,r.X.B,r.Y.A,r.Y.B]:List Int).getD i 0
   ·rw[decide_eq_true (show([r.X.A,r.X.B,r.Y.A,r.Y.B]:List Int).getD i 0>600 from c2),if_pos (.inr c2)];rfl
   ·rw[decide_eq_false (show¬([r.X.A,r.X.B,r.Y.A,r.Y.B]:List Int).getD i 0>600 from c2),if_neg (by omega)];rfl
  ·rw[QL,decide_eq_false (by omega)];rfl
 rw[show((0:Nat):Int)=0 from rfl] at L;rw[L];simp only[findN,List.getD_cons_zero,List.getD_cons_succ,Nat.sub_zero];by_cases c1:r.X.A< -600\/600<r.X.A
 ·rw[if_pos c1,if_pos (show(r.X.A< -600\/600<r.X.A\/r.X.B< -600\/600<r.X.B\/r.Y.A< -600\/600<r.Y.A\/r.Y.B< -600\/600<r.Y.B) by omega)];rfl
 rw[if_neg c1];by_cases c2:r.X.B< -600\/600<r.X.B
 ·rw[if_pos c2,if_pos (show(r.X.A< -600\/600<r.X.A\/r.X.B< -600\/600<r.X.B\/r.Y.A< -600\/600<r.Y.A\/r.Y.B< -600\/600<r.Y.B) by omega)];rfl
 rw[if_neg c2];by_cases c3:r.Y.A< -600\/600<r.Y.A
 ·rw[if_pos c3,if_pos (show(r.X.A< -600\/600<r.X.A\/r.X.B< -600\/600<r.X.B\/r.Y.A< -600\/600<r.Y.A\/r.Y.B< -600\/600<r.Y.B) by omega)];rfl
 rw[if_neg c3];by_cases c4:r.Y.B< -600\/600<r.Y.B
 ·rw[if_pos c4,if_pos (show(r.X.A< -600\/600<r.X.A\/r.X.B< -600\/600<r.X.B\/r.Y.A< -600\/600<r.Y.A\/r.Y.B< -600\/600<r.Y.B) by omega)];rfl
 rw[if_neg c4,if_neg (show¬(r.X.A< -600\/600<r.X.A\/r.X.B< -600\/600<r.X.B\/r.Y.A< -600\/600<r.Y.A\/r.Y.B< -600\/600<r.Y.B) by omega)];rfl
end Saw
end Go.SL
namespace Go.SL
theorem qKR {σ β ι:Type} (N:Nat) (L:Nat->σ->ι->Option β) (idx:Nat->ι) (f:Nat->σ->σ) (out:σ->β) (Inv:Nat->σ->Prop) (hN:N<=1000000000)
  (h0:∀n i s,i<N->Inv i s->L (n+1) s (idx i)=L n (f i s) (idx (i+1))/\Inv (i+1) (f i s))
  (h1:∀n s,Inv N s->L (n+1) s (idx N)=some (out s)) (s:σ) (hs:Inv 0 s):L FUEL s (idx 0)=some (out (foldN f 0 N s))/\Inv N (foldN f 0 N s):=by
 have key:∀k n x s,x+k=N->k<n->Inv x s->L n s (idx x)=some (out (foldN f x k s))/\Inv N (foldN f x k s):=by
  intro k
  induction k with
  |zero=>
   intro n x s hx hn hi;obtain⟨n,rfl⟩:∃m,n=m+1:=⟨n-1,by omega⟩
   rw[Nat.add_zero] at hx;subst hx;exact⟨h1 n s hi,hi⟩
  |succ k ih=>
   intro n x s hx hn hi;obtain⟨n,rfl⟩:∃m,n=m+1:=⟨n-1,by omega⟩
   have h:=h0 n x s (by omega) hi;rw[h.1];exact ih n (x+1) (f x s) (by omega) (by omega) h.2
 exact key N FUEL 0 s (by omega) (by rw[FUEL_eq];omega) hs
namespace Saw
def priceAt (p:Product) (n:Int) (i:Nat):Option (Int×Bool):=
 if p.Lengths.getD i default≠n then none else if p.Prices.length<=i then some (0,false) else some (p.Prices.getD i default,true)
def price (p:Product) (n:Int):Int×Bool:=match findN (priceAt p n) 0 p.Lengths.length with| .inl e=>e| .inr _=>(0,false)
theorem qTG (p:Product) (n:Int) (h:p.Lengths.length<=1000000):DR p n=some (price p n):=by
 unfold DR price;have L:QT p n FUEL ((0:Nat):Int)=some (findN (priceAt p n) 0 (p.Lengths.length-0)):=by
  refine ZW p.Lengths.length (QT p n) _ 0 (by omega) (by omega) (λm i hi hN=>?_) (λm=>?_)
  ·rw[QT,decide_eq_true (by omega),qL (by omega) (by omega)];simp only[cond_true,Int.toNat_natCast,qP (show i<4611686018427387904 by omega),priceAt];by_cases c:p.Lengths.getD i default≠n
   ·rw[if_pos c,show(p.Lengths.getD i default !=n)=true by rw[bne_iff_ne];exact c];rfl
   rw[if_neg c,show(p.Lengths.getD i default !=n)=false by rw[bne_eq_false_iff_eq];omega];by_cases c2:p.Prices.length<=i
   ·rw[if_pos c2,decide_eq_true (show(i:Int)≥((p.Prices.length:Nat):Int) by omega)];rfl
   ·rw[if_neg c2,decide_eq_false (show¬(i:Int)≥((p.Prices.length:Nat):Int) by omega),qL (by omega) (by omega)];rfl
  ·rw[QT,decide_eq_false (by omega)];rfl
 rw[show((0:Nat):Int)=0 from rfl,Nat.sub_zero] at L;rw[L];simp only[Option.bind_some];cases findN (priceAt p n) 0 p.Lengths.length<;>rfl
def tch (d b:Box):Bool:=!(empS (mxS d.X b.X)||(empS (mxS d.Y b.Y)||empS (mxS d.Z b.Z)))
theorem qKb (d:Defect) (b:Box):XW d b=some (tch d.Box b):=by
 unfold XW CD UR tch;simp only[qBZ,Option.bind_some,qM4,qQ9];cases empS (mxS d.Box.X b.X)<;>cases empS (mxS d.Box.Y b.Y)<;>cases empS (mxS d.Box.Z b.Z)<;>rfl
def TQ (r:Rect):Int:=(r.X.B-r.X.A)*(r.Y.B-r.Y.A)
def qG3 (a w:Int):Int:=Int.tdiv (1000*(a-w)+a-1) a
def zones (l:List qB) (r:Rect):List Worth_zone:=(List.range l.length).map (λi=>⟨ext l i,qG3 (TQ r) (zG (l.getD i default).Sec r.X r.Y)⟩)
theorem areaR_b {r:Rect} (h:VR r):1<=TQ r/\TQ r<=1440000:=by
 unfold VR at h;unfold TQ;have a:=WC (a:=r.X.B-r.X.A) (b:=r.Y.B-r.Y.A) (m:=1200) (n:=1200) (by omega) (by omega) (by omega) (by omega) (by omega) (by omega);have b:=Int.mul_pos (show 0<r.X.B-r.X.A by omega) (show 0<r.Y.B-r.Y.A by omega);omega
theorem qUH {l:List qB} (h:VSol l) {r:Rect} (hr:VR r):HC l r=some (zones l r):=by
 have hl:=h.len;have ha:=areaR_b hr;have eA:w64 (w64 (r.X.B-r.X.A)*w64 (r.Y.B-r.Y.A))=TQ r:=by
  have hr':=hr;unfold VR at hr';rw[qF (n:=r.X.B-r.X.A) (by omega) (by omega),qF (n:=r.Y.B-r.Y.A) (by omega) (by omega)];unfold TQ at ha⊢;exact qF (by omega) (by omega)
 unfold HC
 let zn:Nat->Worth_zone:=λi=>⟨ext l i,qG3 (TQ r) (zG (l.getD i default).Sec r.X r.Y)⟩
 have k:=zX l.length (λn (s:List Worth_zone×Int) i=>XV l r n s.1 s.2 i) (λi s=>(s.1++[zn i],lenTo l (i+1))) (λs=>s.1)
  (λi s=>s.1=(List.range i).map zn/\s.2=lenTo l i) 0 (by omega) (by omega)
  (λn i s hi hs=>by
   obtain⟨s1,s2⟩:=s;obtain⟨e1,e2⟩:=hs;simp only at e1 e2;have b:=h.bd (i:=i) (by omega);have b':=h.bd (i:=i+1) (by omega);have wb:=qO3 (h.at hi).1 r.X r.Y;rw[wJ] at b';have e1':s1.length=i:=by rw[e1];simp
   refine⟨?_,by rw[e1,List.range_succ,List.map_append];rfl,rfl⟩;simp only;rw[XV,decide_eq_true (by omega),qL (by omega) (by omega)];simp only[cond_true,Int.toNat_natCast,qP (show i<4611686018427387904 by omega),qMO,Option.bind_some,eA,e2];rw[qJe (h.at hi).1,nz_t (by omega),qW (by omega) (by omega),qF (n:=lenTo l i+(l.getD i default).Len) (by omega) (by omega),
    qF (n:=TQ r-zG (l.getD i default).Sec r.X r.Y) (by omega) (by omega),qF (n:=1000*_) (by omega) (by omega),qF (n:=1000*_+_) (by omega) (by omega),qF (n:=1000*_+_-1) (by omega) (by omega)]
   simp only[cond_true];have tb: -2000000000<=qG3 (TQ r) (zG (l.getD i default).Sec r.X r.Y)/\qG3 (TQ r) (zG (l.getD i default).Sec r.X r.Y)<=2000000000:=by
    unfold qG3;generalize hu:1000*(TQ r-zG (l.getD i default).Sec r.X r.Y)+TQ r-1=u;have hub: -1440000000<=u/\u<=1441440000:=by omega
    have ab:=Int.natAbs_tdiv_le_natAbs u (TQ r);omega
   unfold qG3 at tb;rw[qF (by omega) (by omega)];rfl)
  (λn s _=>by rw[XV,decide_eq_false (by omega)];rfl) ([],0) ⟨rfl,rfl⟩
 rw[show((0:Nat):Int)=0 from rfl] at k;rw[k.1];exact congrArg some k.2.1
structure VP (p:Product):Prop where
 nm:isNm p.Name=true
 th:5<=p.Thick/\p.Thick<=300
 wd:p.Thick<=p.Width/\p.Width<=600
 al:0<=p.Allow/\p.Allow<=200
 wn:0<=p.Wane/\p.Wane<=1000
 gr:(qN p).2<=600
 ll:1<=p.Lengths.length/\p.Lengths.length<=8
 pl:p.Prices.length=p.Lengths.length
 lb:∀i,i<p.Lengths.length->100<=p.Lengths.getD i default/\p.Lengths.getD i default<=20000
 pb:∀x∈p.Prices,0<=x/\x<=1000000
theorem qQq {p:Product} (hn:isNm p.Name=true) (h:VQ p=0):VP p:=by
 unfold VQ at h;by_cases h1:p.Thick<5\/300<p.Thick\/p.Width<p.Thick\/600<p.Width\/p.Allow<0\/200<p.Allow\/p.Wane<0\/1000<p.Wane
 ·rw[if_pos h1] at h;exact absurd h (by decide)
 rw[if_neg h1] at h;by_cases h2:600<(qN p).2
 ·rw[if_pos h2] at h;exact absurd h (by decide)
 rw[if_neg h2] at h;unfold qB2 at h;by_cases h3:p.Lengths.length=0
 ·rw[if_pos h3] at h;exact absurd h (by decide)
 rw[if_neg h3] at h;by_cases h4:8<p.Lengths.length
 ·rw[if_pos h4] at h;exact absurd h (by decide)
 rw[if_neg h4] at h;by_cases h5:p.Prices.length≠p.Lengths.length
 ·rw[if_pos h5] at h;exact absurd h (by decide)
 rw[if_neg h5] at h;cases hf:findN (badLen p) 0 p.Lengths.length with
 |inl e=>
  rw[hf] at h;obtain⟨i,a,b,c,d⟩:=XL hf;unfold badLen at c;simp only at h;subst h;split at c
  ·cases c
  ·split at c<;>cases c
 |inr u=>
  rw[hf] at h;cases hg:findE badPr p.Prices with
  |inl e=>
   rw[hg] at h;obtain⟨a,ha,hb⟩:=qCl hg;simp only at h;subst h;unfold badPr at hb;split at hb<;>cases hb
  |inr u'=>
   refine⟨hn,by omega,by omega,by omega,by omega,by omega,by omega,by omega,λi hi=>?_,λx hx=>?_⟩
   ·have:=RK.1 hf i (by omega) (by omega);unfold badLen at this;split at this
    ·cases this
    ·omega
   ·have:=GW.1 hg x hx;unfold badPr at this;split at this
    ·cases this
    ·omega
theorem qMQ {p:Product} (hn:isNm p.Name=true) {l:List Product} {i:Nat} (h:badP l i=none) (e:l.getD i default=p):VQ p=0:=by
 unfold badP at h;rw[e,hn] at h;simp only[cond_true] at h;cases hf:findN (twin l i) 0 i with
 |inl e=>rw[hf] at h;cases h
 |inr u=>
  rw[hf] at h;by_cases hc:VQ p=0
  ·exact hc
  ·rw[show(VQ p !=0)=true by rw[bne_iff_ne];exact hc] at h;cases h
theorem qLE {l:List Product} {i:Nat} (h:badP l i=none):isNm (l.getD i default).Name=true:=by
 unfold badP at h;cases hn:isNm (l.getD i default).Name with
 |true=>rfl
 |false=>rw[hn] at h;cases h
theorem qOW {l:List Product} (h:zO l=0) {i:Nat} (hi:i<l.length):badP l i=none:=by
 unfold zO at h;split at h
 ·exact absurd h (by decide)
 ·cases hf:findN (badP l) 0 l.length with
  |inr u=>exact RK.1 hf i (by omega) (by omega)
  |inl e=>
   rw[hf] at h;simp only at h;subst h;obtain⟨j,a,b,c,d⟩:=XL hf;unfold badP at c;cases hn:isNm (l.getD j default).Name with
   |false=>rw[hn] at c;cases c
   |true=>
    rw[hn] at c;simp only[cond_true] at c;cases hf':findN (twin l j) 0 j with
    |inl e=>
     rw[hf'] at c;obtain⟨i',a',b',c',d'⟩:=XL hf';unfold twin at c';cases c;cases hs:strEq (l.getD i' default).Name (l.getD j default).Name<;>rw[hs] at c'<;>cases c'
    |inr u=>
     rw[hf'] at c;cases hz:VQ (l.getD j default) !=0 with
     |true=>rw[hz] at c;simp only[cond_true] at c;injection c with c;exact absurd c (bne_iff_ne.1 hz)
     |false=>rw[hz] at c;cases c
theorem chk19_VP {l:List Product} (h:zO l=0) {i:Nat} (hi:i<l.length):VP (l.getD i default):=by
 have b:=qOW h hi;exact qQq (qLE b) (qMQ (qLE b) b rfl)
theorem qMK {l:List Product} (h:zO l=0) {i:Nat} (hi:i<l.length):zO [l.getD i default]=0:=by
 have b:=qOW h hi;have hn:=qLE b;have hc:=qMQ hn b rfl;unfold zO;rw[if_neg (by simp)];have e:badP [l.getD i default] 0=none:=by
  unfold badP;rw[show[l.getD i default].getD 0 default=l.getD i default from rfl,hn,hc];rfl
 simp only[List.length_cons,List.length_nil,Nat.zero_add,findN,e]
def hitZ (z s:Span):Bool:=decide (z.A<s.B)&&decide (s.A<z.B)
def worst (zs:List Worth_zone) (s:Span):Int:=foldN (λi m=>bif hitZ (zs.getD i default).z s then imax m (zs.getD i default).lack else m) 0 zs.length 0
theorem qUo (zs:List Worth_zone) (s:Span) (h:zs.length<=1000000):HB zs s=some (worst zs s):=by
 unfold HB worst;have k:=zX zs.length (λn (m:Int) i=>yL zs s n m i) (λi m=>bif hitZ (zs.getD i default).z s then imax m (zs.getD i default).lack else m) (λm=>m) (λ_ _=>True) 0 (by omega) (by omega)
  (λn i m hi _=>⟨by
   rw[yL,decide_eq_true (by omega),qL (by omega) (by omega)];simp only[cond_true,Int.toNat_natCast,qP (show i<4611686018427387904 by omega),LN,LL,hitZ];cases decide ((zs.getD i default).z.A<s.B)<;>cases decide (s.A<(zs.getD i default).z.B)<;>rfl,trivial⟩)
  (λn m _=>by rw[yL,decide_eq_false (by omega)];rfl) 0 trivial
 rw[show((0:Nat):Int)=0 from rfl,Nat.sub_zero] at k;rw[k.1];rfl
def dstep (ds:List Defect) (b:Box) (fine:Int) (i:Nat) (v:Int):(Int×Bool)⊕Int:=
 bif tch (ds.getD i default).Box b then(bif (ds.getD i default).Kind==3 then .inl (0,false) else .inr (v-fine)) else .inr v
def NL (ds:List Defect) (b:Box) (fine v:Int):Int×Bool:=match runN (dstep ds b fine) 0 ds.length v with| .inl e=>e| .inr o=>(imax o 0,true)
def worthV (v:Worth_view) (s:Span) (fine:Int):Int×Bool:=
 if 0<=s.A/\s.A<s.B/\s.B<=v.length then
  bif (price v.product (s.B-s.A)).2 then
   if worst v.zones s>v.product.Wane then(0,false) else NL v.defects ⟨v.rect.X,v.rect.Y,s⟩ fine (price v.product (s.B-s.A)).1
  else(0,false)
 else(0,false)
theorem qQL {p:Product} (h:VP p) (n:Int):0<=(price p n).1/\(price p n).1<=1000000:=by
 unfold price;cases hf:findN (priceAt p n) 0 p.Lengths.length with
 |inr u=>exact⟨show(0:Int)<=0 by decide,show(0:Int)<=1000000 by decide⟩
 |inl e=>
  obtain⟨i,a,b,c,d⟩:=XL hf;unfold priceAt at c;split at c
  ·cases c
  ·split at c
   ·cases c;exact⟨by decide,by decide⟩
   ·cases c;exact h.pb _ (jS (by omega))
theorem qSU (v:Worth_view) (s:Span) {fine v0:Int} (hf:0<=fine/\fine<=1000000) (hv:0<=v0/\v0<=1000000) (hl:v.defects.length<=64):
  ((zP v fine ⟨v.rect.X,v.rect.Y,s⟩ FUEL v0 0).bind λu=>Sum.elim (λw=>some w) (λo=>some (imax o 0,true)) u)=some (NL v.defects ⟨v.rect.X,v.rect.Y,s⟩ fine v0):=by
 have k:=qCC v.defects.length (λn (m:Int) i=>zP v fine ⟨v.rect.X,v.rect.Y,s⟩ n m i) (dstep v.defects ⟨v.rect.X,v.rect.Y,s⟩ fine) (λr=>r) (λi m=> -(1000000*(i:Int))<=m/\m<=1000000)
  (λn i m hi hm=>by
   unfold dstep;have e:zP v fine ⟨v.rect.X,v.rect.Y,s⟩ (n+1) m (i:Int)=bif tch (v.defects.getD i default).Box ⟨v.rect.X,v.rect.Y,s⟩ then(bif (v.defects.getD i default).Kind==3 then some (.inl (0,false)) else zP v fine ⟨v.rect.X,v.rect.Y,s⟩ n (m-fine) ((i+1:Nat):Int)) else zP v fine ⟨v.rect.X,v.rect.Y,s⟩ n m ((i+1:Nat):Int):=by
    rw[zP,decide_eq_true (by omega),qL (by omega) (by omega)];simp only[cond_true,Int.toNat_natCast,qP (show i<4611686018427387904 by omega),qKb,Option.bind_some,PG];rw[qF (n:=m-fine) (by omega) (by omega)];cases tch (v.defects.getD i default).Box ⟨v.rect.X,v.rect.Y,s⟩<;>cases (v.defects.getD i default).Kind==3<;>rfl
   cases h1:tch (v.defects.getD i default).Box ⟨v.rect.X,v.rect.Y,s⟩ with
   |false=>rw[h1] at e;exact⟨e,by omega⟩
   |true=>cases h2:(v.defects.getD i default).Kind==3 with
    |true=>rw[h1,h2] at e;exact e
    |false=>rw[h1,h2] at e;exact⟨e,by omega⟩)
  (λn m _=>by rw[zP,decide_eq_false (by omega)];rfl) FUEL 0 v0 (by rw[FUEL_eq];omega) (by omega) (by omega)
 rw[show((0:Nat):Int)=0 from rfl,Nat.sub_zero] at k;rw[k];unfold NL;cases runN (dstep v.defects ⟨v.rect.X,v.rect.Y,s⟩ fine) 0 v.defects.length v0<;>rfl
theorem qSC (v:Worth_view) (s:Span) {fine:Int} (hf:0<=fine/\fine<=1000000) (hp:VP v.product) (hl:v.defects.length<=64) (hz:v.zones.length<=1000000) (hn:v.length<=20000):
  JG v s fine=some (worthV v s fine):=by
 unfold JG worthV LW XE;have hll:=hp.ll;by_cases c1:s.A≥0
 ·rw[decide_eq_true c1];by_cases c2:s.A<s.B
  ·rw[decide_eq_true c2];by_cases c3:s.B<=v.length
   ·rw[decide_eq_true c3,if_pos ⟨c1,c2,c3⟩,qF (n:=s.B-s.A) (by omega) (by omega)];simp only[cond_true,Option.bind_some,Bool.not_true,cond_false,qTG v.product (s.B-s.A) (by omega),qUo v.zones s hz,PE,XX];cases hq:(price v.product (s.B-s.A)).2 with
    |false=>rfl
    |true=>
     simp only[Bool.not_true,cond_false,cond_true];by_cases c4:worst v.zones s>v.product.Wane
     ·rw[decide_eq_true c4,if_pos c4];rfl
     ·rw[decide_eq_false c4,if_neg c4];simp only[cond_false];exact qSU v s hf (qQL hp _) hl
   ·rw[decide_eq_false c3,if_neg (λh=>c3 h.2.2)];rfl
  ·rw[decide_eq_false c2,if_neg (λh=>c2 h.2.1)];rfl
 ·rw[decide_eq_false c1,if_neg (λh=>c1 h.1)];rfl
theorem qUp {ds:List Defect} {b:Box} {fine v:Int} (hf:0<=fine) (hv:0<=v/\v<=1000000):0<=(NL ds b fine v).1/\(NL ds b fine v).1<=1000000:=by
 unfold NL;cases hr:runN (dstep ds b fine) 0 ds.length v with
 |inl e=>
  have:∀(k x:Nat) (w:Int),runN (dstep ds b fine) x k w= .inl e->e=(0,false):=by
   intro k
   induction k with
   |zero=>intro x w h;cases h
   |succ k ih=>
    intro x w h;unfold runN at h;cases hd:dstep ds b fine x w with
    |inr w'=>rw[hd] at h;exact ih _ _ h
    |inl e'=>
     rw[hd] at h;cases h;unfold dstep at hd;cases h1:tch (ds.getD x default).Box b with
     |false=>rw[h1] at hd;cases hd
     |true=>cases h2:(ds.getD x default).Kind==3 with
      |false=>rw[h1,h2] at hd;cases hd
      |true=>rw[h1,h2] at hd;cases hd;rfl
  rw[this _ _ _ hr];decide
 |inr o=>
  have:=runN_inv (dstep ds b fine) (λ_ m=>m<=1000000) ds.length (λx m m' _ hm e=>by
   unfold dstep at e;cases h1:tch (ds.getD x default).Box b with
   |false=>rw[h1] at e;cases e;exact hm
   |true=>cases h2:(ds.getD x default).Kind==3 with
    |true=>rw[h1,h2] at e;cases e
    |false=>rw[h1,h2] at e;cases e;show m-fine<=1000000;omega) ds.length 0 v o (by omega) hv.2 hr
  have h2:=JA o 0;simp only;omega
theorem qUl {v:Worth_view} {s:Span} {fine:Int} (hf:0<=fine) (hp:VP v.product):0<=(worthV v s fine).1/\(worthV v s fine).1<=1000000/\((worthV v s fine).2=true->0<=s.A/\s.A<s.B/\s.B<=v.length):=by
 unfold worthV;split
 ·rename_i h;cases (price v.product (s.B-s.A)).2 with
  |false=>exact⟨show(0:Int)<=0 by decide,show(0:Int)<=1000000 by decide,λh=>by cases h⟩
  |true=>
   simp only[cond_true];split
   ·exact⟨by decide,by decide,λh=>by cases h⟩
   ·have:=qUp (ds:=v.defects) (b:=⟨v.rect.X,v.rect.Y,s⟩) hf (qQL hp (s.B-s.A));exact⟨this.1,this.2,λ_=>h⟩
 ·exact⟨by decide,by decide,λh=>by cases h⟩
def dimOk (r:Rect) (p:Product):Bool:=((r.X.B-r.X.A==(qN p).1)&&(r.Y.B-r.Y.A==(qN p).2))||((r.X.B-r.X.A==(qN p).2)&&(r.Y.B-r.Y.A==(qN p).1))
def near (ds:List Defect) (b:Box):List Defect:=foldN (λi t=>bif tch (ds.getD i default).Box b then t++[ds.getD i default] else t) 0 ds.length []
theorem qUd (ds:List Defect) (b:Box):(near ds b).length<=ds.length:=by
 unfold near;have:∀k,(foldN (λi t=>bif tch (ds.getD i default).Box b then t++[ds.getD i default] else t) 0 k ([]:List Defect)).length<=k:=by
  intro k
  induction k with
  |zero=>simp[foldN]
  |succ k ih=>
   rw[JZ];cases tch (ds.getD (0+k) default).Box b with
   |true=>simp only[cond_true,List.length_append,List.length_cons,List.length_nil];omega
   |false=>simp only[cond_false];omega
 exact this _
def RU (l:List qB) (ds:List Defect) (p:Product) (r:Rect):Worth_view:=⟨p,r,solLen l,zones l r,near ds ⟨r.X,r.Y,⟨0,solLen l⟩⟩⟩
def qTF :Worth_view:=⟨⟨⟨#[]⟩,0,0,0,0,[],[]⟩,⟨⟨0,0⟩,⟨0,0⟩⟩,0,[],[]⟩
theorem look_eq {l:List qB} {ds:List Defect} {p:Product} {r:Rect} (hs:VSol l) (hd:PT ds=0) (hp:zO [p]=0) (hr:VR r):
  AW l ds p r=some (bif dimOk r p then(RU l ds p r,true) else(qTF,false)):=by
 have hdl:=((TA ds).1 hd).1;unfold AW;rw[(OO l).1,(GU l).2 hs,qEa,hd,SE,hp,qSZ,decide_eq_true hr];simp only[Option.bind_some,bne_self_eq_false,cond_false,Bool.not_true];unfold PO;rw[(SJ p).1];have hr':=hr;unfold VR at hr';rw[qF (n:=r.X.B-r.X.A) (by omega) (by omega),qF (n:=r.Y.B-r.Y.A) (by omega) (by omega)];have K:∀b,DI l ds p r b=some (bif b then(qTF,false) else(RU l ds p r,true)):=λb=>by
  unfold DI;cases b with
  |true=>rfl
  |false=>
   rw[(EB l).1,ED hs,qUH hs hr];simp only[Option.bind_some,cond_false,XX];have k:=zX ds.length (λn (t:List Defect) i=>WE ds ⟨r.X,r.Y,⟨0,solLen l⟩⟩ n i t) (λi t=>bif tch (ds.getD i default).Box ⟨r.X,r.Y,⟨0,solLen l⟩⟩ then t++[ds.getD i default] else t) (λt=>t) (λi t=>t.length<=i) 0 (by omega) (by omega)
    (λn i t hi ht=>by
     refine⟨?_,?_⟩
     ·rw[WE,decide_eq_true (by omega),qL (by omega) (by omega)];simp only[cond_true,Int.toNat_natCast,qP (show i<4611686018427387904 by omega),qKb,Option.bind_some,HQ];rw[qW (by omega) (by omega)];cases tch (ds.getD i default).Box ⟨r.X,r.Y,⟨0,solLen l⟩⟩<;>rfl
     ·cases tch (ds.getD i default).Box ⟨r.X,r.Y,⟨0,solLen l⟩⟩ with
      |true=>simp only[cond_true,List.length_append,List.length_cons,List.length_nil];omega
      |false=>simp only[cond_false];omega)
    (λn t _=>by rw[WE,decide_eq_false (by omega)];rfl) [] (by simp)
   rw[show((0:Nat):Int)=0 from rfl,Nat.sub_zero] at k;rw[k.1];rfl
 simp only[Option.bind_some,cond_false,K,Bool.and_true,dimOk];cases (r.X.B-r.X.A==(qN p).1)&&(r.Y.B-r.Y.A==(qN p).2)<;>cases (r.X.B-r.X.A==(qN p).2)&&(r.Y.B-r.Y.A==(qN p).1)<;>rfl
def spanAt (p:Product) (z:Int) (i:Nat):Span:=⟨z,z+p.Lengths.getD i default⟩
def qFH (st:Int×Bool×Span) (v:Int×Bool) (s:Span):Int×Bool×Span:=bif v.2&&(!st.2.1||decide (v.1>st.1)) then(v.1,true,s) else st
def qFW (v:Worth_view) (fine z:Int) (st:Int×Bool×Span):Int×Bool×Span:=foldN (λi st=>qFH st (worthV v (spanAt v.product z i) fine) (spanAt v.product z i)) 0 v.product.Lengths.length st
def qBS (n step:Int):Nat:=((n+step-1)/step).toNat
def bestV (v:Worth_view) (step fine:Int):Int×Bool×Span:=foldN (λk st=>qFW v fine ((k:Int)*step) st) 0 (qBS v.length step) (0,false,⟨0,0⟩)
theorem qMT {n step:Int} (h0:0<=n) (h1:1<=step) {k:Nat}:k<qBS n step↔(k:Int)*step<n:=by
 unfold qBS;have hd:0<=(n+step-1)/step:=Int.ediv_nonneg (by omega) (by omega);have a:(k:Int)<(n+step-1)/step↔((k:Int)+1)*step<=n+step-1:=by
  rw[<-Int.le_ediv_iff_mul_le (by omega)];omega
 have e:((k:Int)+1)*step=(k:Int)*step+step:=by rw[Int.add_mul];simp
 rw[e] at a;omega
def BI' (n:Int) (st:Int×Bool×Span):Prop:=0<=st.1/\st.1<=1000000/\(st.2.1=true->0<=st.2.2.A/\st.2.2.A<st.2.2.B/\st.2.2.B<=n)
theorem qSE {n:Int} {st:Int×Bool×Span} {v:Int×Bool} {s:Span} (h:BI' n st) (hv:0<=v.1/\v.1<=1000000/\(v.2=true->0<=s.A/\s.A<s.B/\s.B<=n)):BI' n (qFH st v s):=by
 unfold qFH;cases hc:v.2&&(!st.2.1||decide (v.1>st.1)) with
 |false=>exact h
 |true=>
  have:v.2=true:=by cases h2:v.2 with|true=>rfl|false=>rw[h2] at hc;cases hc
  exact⟨hv.1,hv.2.1,λ_=>hv.2.2 this⟩
theorem NW {σ:Type} {f:Nat->σ->σ} {P:σ->Prop}:∀{k x:Nat} {s:σ},P s->(∀i s,x<=i->i<x+k->P s->P (f i s))->P (foldN f x k s)
 |0,_,_,h,_=>h
 |k+1,x,s,h,hf=>by
  unfold foldN;exact NW (k:=k) (hf x s (Nat.le_refl _) (by omega) h) (λi s h1 h2=>hf i s (by omega) (by omega))
theorem qTe {v:Worth_view} {fine z:Int} {st:Int×Bool×Span} (hf:0<=fine) (hp:VP v.product) (h:BI' v.length st):BI' v.length (qFW v fine z st):=
 NW h (λi s _ _ hs=>qSE hs (qUl hf hp))
theorem qUJ {v:Worth_view} {step fine:Int} (hf:0<=fine) (hp:VP v.product):BI' v.length (bestV v step fine):=
 NW ⟨by decide,by decide,λh=>by cases h⟩ (λi s _ _ hs=>qTe hf hp hs)
theorem qTD (v:Worth_view) {fine z:Int} (hf:0<=fine/\fine<=1000000) (hp:VP v.product) (hl:v.defects.length<=64) (hz:v.zones.length<=1000000) (hn:v.length<=20000) (h0:0<=z) (h1:z<=20000) (a b:Bool) (st:Int×Bool×Span):
  jJ v.product fine (v,a) z FUEL st.1 st.2.1 0 st.2.2=some (qFW v fine z st):=by
 have hll:=hp.ll;have k:=zX v.product.Lengths.length (λn (s:Int×Bool×Span) i=>jJ v.product fine (v,a) z n s.1 s.2.1 i s.2.2) (λi st=>qFH st (worthV v (spanAt v.product z i) fine) (spanAt v.product z i)) (λs=>s) (λ_ _=>True) 0 (by omega) (by omega)
  (λn i s hi _=>⟨by
   obtain⟨s1,s2,s3⟩:=s;have lb:=hp.lb i hi
   try simp only
   rw[jJ,decide_eq_true (by omega),qL (by omega) (by omega)];simp only[cond_true,Int.toNat_natCast,qP (show i<4611686018427387904 by omega)];rw[qF (n:=z+v.product.Lengths.getD i default) (by omega) (by omega)];have e:JG ⟨v.product,v.rect,v.length,v.zones,v.defects⟩ ⟨z,z+v.product.Lengths.getD i default⟩ fine=some (worthV v (spanAt v.product z i) fine):=qSC v (spanAt v.product z i) hf hp hl hz hn;rw[e];simp only[Option.bind_some,DS,HP,qFH,Int.toNat_natCast,qP (show i<4611686018427387904 by omega)];rw[qF (n:=z+v.product.Lengths.getD i default) (by omega) (by omega)]
   cases (worthV v (spanAt v.product z i) fine).2<;>cases s2<;>cases decide ((worthV v (spanAt v.product z i) fine).1>s1)<;>rfl,trivial⟩)
  (λn s _=>by rw[jJ,decide_eq_false (by omega)];rfl) st trivial
 rw[show((0:Nat):Int)=0 from rfl,Nat.sub_zero] at k;exact k.1
theorem qUz (v:Worth_view) {step fine:Int} (hf:0<=fine/\fine<=1000000) (hs:1<=step/\step<=20000) (hp:VP v.product) (hl:v.defects.length<=64) (hz:v.zones.length<=1000000) (hn:0<=v.length/\v.length<=20000) (a:Bool):
  XB v.product step fine (v,a) FUEL 0 false 0 ⟨0,0⟩=some (bestV v step fine):=by
 have hN:qBS v.length step<=1000000000:=by
  unfold qBS;have:=Int.ediv_le_self step (show 0<=v.length+step-1 by omega);omega
 have k:=qKR (qBS v.length step) (λn (s:Int×Bool×Span) (z:Int)=>XB v.product step fine (v,a) n s.1 s.2.1 z s.2.2) (λk=>(k:Int)*step) (λk st=>qFW v fine ((k:Int)*step) st) (λs=>s) (λ_ _=>True) hN
  (λn i s hi _=>⟨by
   have h1:=(qMT hn.1 hs.1).1 hi;have h0:0<=(i:Int)*step:=Int.mul_nonneg (by omega) (by omega);have e:(i:Int)*step+step=((i+1:Nat):Int)*step:=by rw[Int.natCast_add,Int.add_mul];simp
   try simp only
   rw[XB,decide_eq_true h1,qTD v hf hp hl hz hn.2 h0 (by omega) a true s,qF (by omega) (by omega),e];rfl,trivial⟩)
  (λn s _=>by
   have h1:¬((qBS v.length step:Nat):Int)*step<v.length:=λh=>by have:=(qMT hn.1 hs.1).2 h;omega
   try simp only
   rw[XB,decide_eq_false h1];rfl) (0,false,⟨0,0⟩) trivial
 simp only[Int.natCast_zero,Int.zero_mul] at k;exact k.1
def bestR (l:List qB) (ds:List Defect) (p:Product) (r:Rect) (step fine:Int):Int×Bool×Span:=bif dimOk r p then bestV (RU l ds p r) step fine else(0,false,⟨0,0⟩)
theorem qSp (l:List qB) (r:Rect):(zones l r).length=l.length:=by unfold zones;simp
theorem qIz {l:List qB} (h:VSol l):1<=solLen l/\solLen l<=20000:=by
 have:=h.bd (Nat.le_refl l.length);have:=h.ne;unfold solLen;omega
theorem qJm {l:List qB} {ds:List Defect} {p:Product} {r:Rect} {step fine:Int} (hf:0<=fine) (hp:VP p):BI' (solLen l) (bestR l ds p r step fine):=by
 unfold bestR;cases dimOk r p with
 |true=>exact qUJ (v:=RU l ds p r) hf hp
 |false=>exact⟨show(0:Int)<=0 by decide,show(0:Int)<=1000000 by decide,λh=>by cases h⟩
theorem qPj {l:List qB} {ds:List Defect} {p:Product} {r:Rect} {step fine:Int} (hs:VSol l) (hd:PT ds=0) (hp:zO [p]=0) (hv:VP p) (hr:VR r) (hst:1<=step/\step<=20000) (hf:0<=fine/\fine<=1000000):
  LJ l ds p r step fine=some ((bestR l ds p r step fine).2.2,(bestR l ds p r step fine).1,(bestR l ds p r step fine).2.1):=by
 have hdl:=((TA ds).1 hd).1;have hl:=hs.len;unfold LJ HS;rw[qMI,qMP,decide_eq_true hst,decide_eq_true hf];simp only[Option.bind_some,Bool.not_true,cond_false,look_eq hs hd hp hr];unfold bestR;cases dimOk r p with
 |false=>rfl
 |true=>
  simp only[cond_true,Bool.not_true,cond_false];have nl:=qUd ds ⟨r.X,r.Y,⟨0,solLen l⟩⟩;have sb:=qIz hs;have k:=qUz (RU l ds p r) (step:=step) hf hst hv (by show(near ds _).length<=64;omega) (by show(zones l r).length<=1000000;rw[qSp];omega) ⟨by show 0<=solLen l;omega,sb.2⟩ true;rw[show(RU l ds p r).product=p from rfl] at k;rw[k];rfl
def gainS (l:List qB) (ds:List Defect) (p:Product) (r:Rect) (w:Saw) (t:Rates):Int:=
 bif (bestR l ds p r w.Step t.Fine).2.1 then
  (1000000*(bestR l ds p r w.Step t.Fine).1
   +t.Dust*(volS l r.X r.Y ⟨imax 0 ((bestR l ds p r w.Step t.Fine).2.2.A-w.Trim),(bestR l ds p r w.Step t.Fine).2.2.A⟩+volS l r.X r.Y ⟨(bestR l ds p r w.Step t.Fine).2.2.B,imin ((bestR l ds p r w.Step t.Fine).2.2.B+w.Trim) (solLen l)⟩))
   + t.Chip*(volS l r.X r.Y ⟨0,solLen l⟩-volS l r.X r.Y (bestR l ds p r w.Step t.Fine).2.2
     -(volS l r.X r.Y ⟨imax 0 ((bestR l ds p r w.Step t.Fine).2.2.A-w.Trim),(bestR l ds p r w.Step t.Fine).2.2.A⟩+volS l r.X r.Y ⟨(bestR l ds p r w.Step t.Fine).2.2.B,imin ((bestR l ds p r w.Step t.Fine).2.2.B+w.Trim) (solLen l)⟩))
 else-1
theorem qRu {l:List qB} {ds:List Defect} {p:Product} {r:Rect} {w:Saw} {t:Rates} (hs:VSol l) (hd:PT ds=0) (hp:zO [p]=0) (hv:VP p) (hr:VR r) (hw:VW w t):
  qAC l ds p r w t=some (gainS l ds p r w t)/\-1125899906842624<=gainS l ds p r w t/\gainS l ds p r w t<=1125899906842624:=by
 unfold qAC gainS;rw[qPj hs hd hp hv hr hw.step hw.fine];have B:=qJm (l:=l) (ds:=ds) (p:=p) (r:=r) (step:=w.Step) hw.fine.1 hv;generalize bestR l ds p r w.Step t.Fine=b at*;obtain⟨v,f,z⟩:=b;simp only[Option.bind_some] at*;cases f with
 |false=>exact⟨rfl,show(-1125899906842624:Int)<=-1 by decide,show(-1:Int)<=1125899906842624 by decide⟩
 |true=>
  obtain⟨b1,b2,b3⟩:=B;have b3:=b3 rfl;simp only at b1 b2 b3;simp only[Bool.not_true,cond_false,cond_true];have sb:=qIz hs;have tr:=hw.trim;rw[(EB l).1,ED hs];simp only[Option.bind_some,qSu hs];rw[qF (n:=z.A-w.Trim) (by omega) (by omega),qF (n:=z.B+w.Trim) (by omega) (by omega)];have v1:=ET hs r.X r.Y ⟨0,solLen l⟩;have v2:=ET hs r.X r.Y z;have v3:=ET hs r.X r.Y ⟨imax 0 (z.A-w.Trim),z.A⟩;have v4:=ET hs r.X r.Y ⟨z.B,imin (z.B+w.Trim) (solLen l)⟩;generalize volS l r.X r.Y ⟨0,solLen l⟩=x1 at*;generalize volS l r.X r.Y z=x2 at*;generalize volS l r.X r.Y ⟨imax 0 (z.A-w.Trim),z.A⟩=x3 at*
  generalize volS l r.X r.Y ⟨z.B,imin (z.B+w.Trim) (solLen l)⟩=x4 at*;have m1:=WC (a:=t.Dust) (b:=x3+x4) (m:=1000) (n:=57600000000) (by have:=hw.dust;omega) (by have:=hw.dust;omega) (by omega) (by omega) (by omega) (by omega);have m2:=WC (a:=t.Chip) (b:=x1-x2-(x3+x4)) (m:=1000) (n:=86400000000) (by have:=hw.chip;omega) (by have:=hw.chip;omega) (by omega) (by omega) (by omega) (by omega);rw[qF (n:=1000000*v) (by omega) (by omega),qF (n:=x3+x4) (by omega) (by omega),qF (n:=x1-x2) (by omega) (by omega),qF (n:=x1-x2-(x3+x4)) (by omega) (by omega)];generalize t.Dust*(x3+x4)=y1 at*
  generalize t.Chip*(x1-x2-(x3+x4))=y2 at*;rw[qF (n:=y1) (by omega) (by omega),qF (n:=y2) (by omega) (by omega),qF (n:=1000000*v+y1) (by omega) (by omega),qF (by omega) (by omega)];exact⟨rfl,by omega,by omega⟩
structure SzI (l:List Product) (x:Nat) (s:List Int×List Int):Prop where
 len:s.1.length=s.2.length
 le:s.1.length<=x
 at_:∀j,j<s.1.length->∃i:Nat,i<x/\s.2.getD j default=(i:Int)/\(s.1.getD j default=(qN (l.getD i default)).1\/s.1.getD j default=(qN (l.getD i default)).2)
theorem qCg {α:Type} [Inhabited α] {l:List α} {x:α} {i:Nat} (h:i<=l.length):(l++[x]).getD i default=if i<l.length then l.getD i default else x:=by
 simp only[List.getD_eq_getElem?_getD,List.getElem?_append];by_cases c:i<l.length
 ·simp[c]
 ·have:i=l.length:=by omega
  subst this;simp
theorem qO8 {l:List Product} {x:Nat} {s:List Int×List Int} (h:SzI l x s) {v:Int} (hv:v=(qN (l.getD x default)).1\/v=(qN (l.getD x default)).2):SzI l (x+1) (s.1++[v],s.2++[(x:Int)]):=by
 have h1:=h.len;have h2:=h.le;refine⟨by simp[h1],by simp;omega,λj hj=>?_⟩;simp only[List.length_append,List.length_cons,List.length_nil] at hj;simp only;rw[qCg (by omega),qCg (by omega)];by_cases c:j<s.1.length
 ·rw[if_pos c,if_pos (by omega)];obtain⟨i,a,b,d⟩:=h.at_ j c;exact⟨i,by omega,b,d⟩
 ·rw[if_neg c,if_neg (by omega)];exact⟨x,by omega,rfl,hv⟩
theorem qTT {l:List Product} {x:Nat} {s:List Int×List Int} (h:SzI l x s):SzI l (x+1) s:=⟨h.len,by have:=h.le;omega,λj hj=>by obtain⟨i,a,b⟩:=h.at_ j hj;exact⟨i,by omega,b⟩⟩
theorem qRt {l:List Product} (hc:zO l=0) (t:Int):SzI l l.length (sizes l t):=by
 unfold sizes;rw[if_neg (by omega)];have:∀k,SzI l k (foldN (sizStep l t) 0 k ([],[])):=by
  intro k
  induction k with
  |zero=>exact⟨rfl,by simp[foldN],λj hj=>by simp[foldN] at hj⟩
  |succ k ih=>
   rw[JZ,Nat.zero_add];unfold sizStep;cases (qN (l.getD k default)).1==t with
   |true=>exact qO8 ih (.inr rfl)
   |false=>cases (qN (l.getD k default)).2==t with
    |true=>exact qO8 ih (.inl rfl)
    |false=>exact qTT ih
 exact this _
theorem qM6 {p:Product} (h:VP p):5<=(qN p).1/\(qN p).1<=721/\5<=(qN p).2/\(qN p).2<=600:=by
 have b:=qOV p;have g:=h.gr;have t:=h.th;have w:=h.wd;have a:=h.al;have e:okG p=true:=qG1.2 ⟨by omega,by omega,a⟩;have g1:=SY (n:=p.Thick) (a:=p.Allow) (by omega) (by omega) a.1 a.2;have g2:=SY (n:=p.Width) (a:=p.Allow) (by omega) (by omega) a.1 a.2;have eg:qN p=(CS p.Thick p.Allow,CS p.Width p.Allow):=by unfold qN;rw[e];rfl
 rw[eg] at b g⊢;simp only at b g⊢;omega
theorem qIY {l:List Product} (hc:zO l=0) (t:Int) {j:Nat} (hj:j<(sizes l t).1.length):5<=(sizes l t).1.getD j default/\(sizes l t).1.getD j default<=721/\∃i:Nat,i<l.length/\(sizes l t).2.getD j default=(i:Int)/\VP (l.getD i default)/\zO [l.getD i default]=0:=by
 obtain⟨i,a,b,c⟩:=(qRt hc t).at_ j hj;have v:=chk19_VP hc a;have g:=qM6 v;refine⟨by omega,by omega,i,a,b,v,qMK hc a⟩
def LV (r:Rect) (a b:Int):Rect:=⟨⟨r.X.A+a,r.X.A+b⟩,r.Y⟩
theorem qLG {r:Rect} (h:VR r) {a b:Int} (h1: -2000<=a/\a<=2000) (h2: -2000<=b/\b<=2000):NI r a b=some (LV r a b):=by
 unfold VR at h;unfold NI LV;rw[qF (by omega) (by omega),qF (by omega) (by omega)]
theorem qQQ {r:Rect} (h:VR r) {a b:Int} (h1:0<=a) (h2:a<b) (h3:b<=r.X.B-r.X.A):VR (LV r a b):=by
 unfold VR at*;unfold LV;simp only;omega
end Saw
end Go.SL
