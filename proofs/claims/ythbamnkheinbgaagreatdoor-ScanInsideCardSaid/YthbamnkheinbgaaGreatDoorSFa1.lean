import Derived.Test.YthbamnkheinbgaaGreatDoorSBase
import Derived.Test.YthbamnkheinbgaaGreatDoorYa6
import Derived.Test.YthbamnkheinbgaaGreatDoorPCmp
import Derived.Ground.SlsfProg
set_option linter.unusedVariables false
set_option linter.unusedSimpArgs false
namespace Go.SL
namespace Saw
open Go.Proofs Go.Proofs.Tryz
set_option maxHeartbeats 4000000
set_option maxRecDepth 100000
def qBb (r:List qA):V:=vo 0 0 2 r.length
def qBd (r:List qA):List (Nat×(Nat×O)):=[(0,ro 0 71 2 r.length (rf qB r))]
theorem qAv (a1:List qA) (r:List qA) (hm:yY a1=some r):CtX Tryz.prog globs 124 0 0 [.one (tl qB dd a1)] [] (qBb r) (qBd r):=by
 unfold yY at hm;obtain⟨g1,hm⟩:=qH hm;obtain rfl:=kP hm;refine qEU (fn:=f124) (c:=nd f124 1) (nt:=8) (by kernel_rfl) (by kernel_rfl) (by kernel_rfl) (by kernel_rfl) λE=>?_;refine R_sq f124 2 3 (by kernel_rfl) (R_rn f124 2 0 [] [] 0 ⟨[(0,vc (tl qB dd a1))],[]⟩ o0 (by kernel_rfl) (by kernel_rfl) ?_);refine R_sq f124 6 7 (by kernel_rfl) (R_sq f124 12 13 (by kernel_rfl) ?_);refine R_nil f124 12 1 1 ⟨[(0,vc (tl qB dd a1)),(3,vc (tl qB dd a1))],[]⟩ 52 52 71 4 (.tmp 3) a1.length (rf qB a1) (by kernel_rfl) (by kernel_rfl) (by kernel_rfl) (λb hb=>?_)
 refine R_cn f124 (.tmp 4) 26 27 (by kernel_rfl) b (by kernel_rfl) (λb6=>?_) (λb6=>?_)
 ·obtain rfl:a1=[]:=List.eq_nil_of_length_eq_zero (hb b6);refine R_sq f124 52 53 (by kernel_rfl) (R_rn f124 52 2 [] [.own 2 0 71 2 (rf qB [])] 0 ⟨[(2,vo 0 0 2 0)],[(0,ro 0 71 2 0 (rf qB []))]⟩ o0 (by kernel_rfl) (by kernel_rfl) ?_);exact qF6 (by kernel_rfl) (qDa (by kernel_rfl) (by kernel_rfl))
 ·refine qJz (by kernel_rfl) (R_sq f124 14 15 (by kernel_rfl) ?_);refine R_rn f124 14 3 [(0,drw 0 0 (rf qB [])),(2,drw 0 1 (rf qB ([]++a1)))] [.len 0 a1.length] 0 ⟨[(2,vo 0 1 2 a1.length)],[(0,ro 1 71 2 a1.length (rf qB ([]++a1)))]⟩ (o1 (And.intro (And.intro (litP qB dd 2 (λ_=>rfl) ([]:List qA) 0 rfl) (apP qB dd ([]:List qA) a1 0 a1.length 2 16 True trivial rfl rfl (λ_=>rfl) (by have:=wE g1;rw[kI];exact this))) (And.intro (And.intro (kI a1.length) (kI a1.length)) (kI a1.length)))) (by kernel_rfl) (by kernel_rfl) (qF6 (by kernel_rfl) ?_);exact qDa (by kernel_rfl) (by kernel_rfl)
def qF1 (r:Bool):V:=vb r
def qGC (r:Bool):List (Nat×(Nat×O)):=[]
theorem EW (a1:Int) (r:Bool) (hm:PB a1=some r):CtX Tryz.prog (markG::globs) 173 0 0 [.one (ci a1)] [] (qF1 r) (qGC r):=by
 unfold PB at hm;refine q_T f173 6 λE=>?_;refine s_vn [] 0 ⟨[(0,vi a1)],[]⟩ (s_vn [] 0 ⟨[(2,vb (a1 !=a1))],[]⟩ ?_);obtain rfl:=oi hm;exact q_rt q_rm
def qEa (r:Int):V:=vi r
def qEy (r:Int):List (Nat×(Nat×O)):=[]
theorem FJ (a1:Int) (a2:Int) (r:Int) (hm:QT a1 a2=some r):CtX Tryz.prog (markG::globs) 128 0 0 [.one (ci a1),.one (ci a2)] [] (qEa r) (qEy r):=by
 unfold QT at hm;refine q_T f128 20 λE=>?_;refine s_vn [] 0 ⟨[(0,vi a1),(1,vi a2)],[]⟩ ?_;obtain⟨v3,h4,hm⟩:=qE hm;refine s_vv [qc 1 [7] 0 (EW a1 v3 h4)] 0 [] [(5,vb v3)] ?_;obtain⟨v5,h6,hm⟩:=qE hm;refine s_vv [qc 1 [9] 0 (EW a2 v5 h6)] 0 [] [(6,vb v5)] (q_sq ?_);refine s_vv [] 0 [5] [(11,vb v3)] (q_cq hm (λhm=>?_) (λhm=>?_))
 ·refine q_sq (s_vn [] 0 ⟨[(12,vb v5)],[]⟩ ?_);refine q_cq hm (λhm=>?_) (λhm=>?_)
  ·refine s_vn [] 0 ⟨[(4,vi 0)],[]⟩ ?_;obtain rfl:=oi hm;exact q_rt q_rm
  ·refine q_sk (s_vn [] 0 ⟨[(4,vi (-1))],[]⟩ ?_);obtain rfl:=oi hm;exact q_rt q_rm
 ·refine q_sk (q_sq ?_);refine s_vv [] 0 [6,11] [(13,vb v5)] (q_cq hm (λhm=>?_) (λhm=>?_))
  ·refine s_vn [] 0 ⟨[(4,vi 1)],[]⟩ ?_;obtain rfl:=oi hm;exact q_rt q_rm
  ·refine q_sk (q_sq ?_);refine s_vv [] 0 [13] [(16,vb (decide (a1<a2)))] (q_cq hm (λhm=>?_) (λhm=>?_))
   ·refine s_vn [] 0 ⟨[(4,vi (-1))],[]⟩ ?_;obtain rfl:=oi hm;exact q_rt q_rm
   ·refine q_sk (q_sq ?_);refine s_vn [] 0 ⟨[(19,vb (decide (a1>a2)))],[]⟩ (q_cq hm (λhm=>?_) (λhm=>?_))
    ·refine s_vn [] 0 ⟨[(4,vi 1)],[]⟩ ?_;obtain rfl:=oi hm;exact q_rt q_rm
    ·refine q_sk (s_vn [] 0 ⟨[(4,vi 0)],[]⟩ ?_);obtain rfl:=oi hm;exact q_rt q_rm
open Go.Proofs Go.Proofs.Tryz
def GF (r:Int):V:=vi r
def WZ (r:Int):List (Nat×(Nat×O)):=[]
theorem qJg (r:Int):yX (WZ r):=by
 intro i k o h;unfold WZ at h;cases h
def DP (a1:List Int) (x2:Int):St:=
 ⟨[(3,vi 0),(6,vc (tl qK dd a1)),(7,vi (a1.length:Int)),(8,vi x2)],[]⟩
def AO :St:=
 ⟨[(3,vi 0)],[]⟩
theorem qDv (E:Env 0) (a1:List Int):∀(n:Nat) (x2:Int) (res:Int⊕Unit),ZV a1 n x2=some res->HL (kt E 18 0) (nd f127 116) (jJ 0 (λo=>AO) (λv st=>RetQ Tryz.prog f127 (GF v) (WZ v) .ret st) res) n (DP a1 x2):=by
 intro n
 induction n with
 |zero=>
  intro x2 res hm;cases hm
 |succ n ih=>
  intro x2 res hm;refine qU (s_va 0 [(9,vb (decide (x2<(a1.length:Int))))] ?_);refine q_sq (q_cq hm (λhm=>?_) (λhm=>?_))
  ·refine q_sk (q_sq ?_);refine q_bk 1 ?_;obtain⟨g4,hm⟩:=qH hm;refine s_vv [qi 0 g4] 0 [9] [(5,vi (a1.getD x2.toNat dd))] (s_va 0 [(14,vb ((a1.getD x2.toNat dd) !=0))] ?_);refine q_cq hm (λhm=>?_) (λhm=>?_)
   ·refine s_vn [] 0 ⟨[(2,vi (a1.getD x2.toNat dd))],[]⟩ ?_;obtain rfl:=oi hm;refine q_rt (zR (a1.getD x2.toNat dd) ?_);exact q_rm
   ·refine q_sk (q_vv [] 0 [5,8,14] [(8,vi (w64 (x2+1)))] ?_);exact q_hl (DP a1 (w64 (x2+1))) (ih (w64 (x2+1)) _ hm)
  ·refine q_ex 0 ?_;obtain rfl:=oi hm;exact q_l1 ()
theorem qGl (a1:List Int) (r:Int) (hm:VM a1=some r):CtX Tryz.prog (markG::globs) 127 0 0 [.one (tl qK dd a1)] [] (GF r) (WZ r):=by
 unfold VM at hm;refine q_T f127 18 λE=>?_;refine s_vn [] 0 ⟨[(0,vc (tl qK dd a1))],[]⟩ (s_va 0 [(3,vi 0)] ?_);refine q_sq (s_vv [] 0 [0] [(6,vc (tl qK dd a1)),(7,vi (a1.length:Int)),(8,vi 0)] ?_);obtain⟨u8,h7,hm⟩:=qE hm;refine zZ (nd f127 116) 0 (by kernel_rfl) FUEL (λo=>AO) (λv st=>RetQ Tryz.prog f127 (GF v) (WZ v) .ret st) u8 (q_hl (DP a1 0) (qDv E a1 FUEL 0 u8 h7)) ?_ ?_
 ·rintro v9 rfl st hr;obtain rfl:=oi hm;exact hr
 ·rintro o6 rfl;replace hm:_=some r:=hm;refine s_vn [] 0 ⟨[(2,vi 0)],[]⟩ ?_;obtain rfl:=oi hm;exact q_rt q_rm
def qJd (r:Int):V:=vi r
def qJb (r:Int):List (Nat×(Nat×O)):=[]
theorem qGS (a1:qA) (a2:qA) (r:Int) (hm:poly_Hull_1 a1 a2=some r):CtX Tryz.prog (markG::globs) 126 0 0 [.agg (qB a1),.agg (qB a2)] [] (qJd r) (qJb r):=by
 unfold poly_Hull_1 at hm;refine q_T f126 17 λE=>?_;refine s_vn [] 0 ⟨[(2,vp 0 0),(3,vp 1 0)],[(0,bx 71 (qB a1)),(1,bx 71 (qB a2))]⟩ ?_;obtain⟨v3,h4,hm⟩:=qE hm;obtain⟨v5,h6,hm⟩:=qE hm;obtain⟨v7,h8,hm⟩:=qE hm
 refine s_dn [qc 4 [6,8] 2 (FJ a1.X a2.X v3 h4),qc 9 [11,13] 2 (FJ a1.Y a2.Y v5 h6),qd 10 (drw 2 0 (rf qK [v3,v5])) (litP qK dd 1 (λ_=>rfl) ([v3,v5]:List Int) 2 rfl),qd 11 (dex (cen [] [] 3 0 (GF v7) (WZ v7) [15] [2])) (zI (K:=(kt E 17 0)) (xs':=[.one (.lst 2 (rf qK [v3,v5]))]) (b:=false) ⟨[(15,vo 2 0 1 2)],[(2,ro 0 3 1 2 (rf qK [v3,v5]))]⟩ (opAt (rg f126 6) 11) [] [] 3 (o1 (kr 2)) (by simp only[tl,rf,show([v3,v5]:List Int).length=2 from rfl]) (qGl ([v3,v5]:List Int) v7 h8) (.inr ⟨(by kernel_rfl),qJg v7⟩) (by kernel_rfl))] [0,1,0,4,15,0,32,0,128,511,1023,2047,4095] 2 ⟨[(4,vi v7)],[]⟩ ?_
 obtain rfl:=oi hm;exact q_rt q_rm
open Go.Proofs
def TN (a1:List qA) (r:List qA):V:= .undef
def RK (a1:List qA) (r:List qA):List (Nat×(Nat×O)):=[(0,ro 0 71 2 r.length (rf qB r))]
theorem lfB {α:Type} {o:Option α} {a b:α} (h:o=some a) (e:a=b:=by kernel_rfl):o=some b:=h.trans (congrArg some e)
def slices_SortFunc_SPoint_lay_ren :Go.Shelf.Ren:=⟨fun |6=>125|15=>172|14=>171|28=>194|29=>195|20=>186|21=>187|22=>188|23=>189|24=>190|25=>191|26=>192|27=>193|46=>199|47=>200|48=>201|49=>202|50=>203|57=>206|n=>n,fun |22=>52|24=>71|25=>151|3=>3|39=>168|0=>0|53=>206|55=>126|4=>4|46=>199|45=>198|50=>203|5=>5|9=>9|66=>207|70=>211|76=>214|77=>55|n=>n,fun n=>n⟩
theorem slices_SortFunc_SPoint_lay : Go.Proofs.SlLaysF0.n6 Tryz.prog slices_SortFunc_SPoint_lay_ren :={mixed:=by kernel_rfl,f6:=⟨Tryz.f125.name,by decide,lfB Tryz.func125⟩,f14:=⟨Tryz.f171.name,by decide,lfB Tryz.func171⟩,f15:=lfB Tryz.func172,f20:=⟨Tryz.f186.name,by decide,lfB Tryz.func186⟩,f21:=⟨Tryz.f187.name,by decide,lfB Tryz.func187⟩,f22:=⟨Tryz.f188.name,by decide,lfB Tryz.func188⟩,f23:=⟨Tryz.f189.name,by decide,lfB Tryz.func189⟩,f24:=⟨Tryz.f190.name,by decide,lfB Tryz.func190⟩,f25:=⟨Tryz.f191.name,by decide,lfB Tryz.func191⟩,f26:=⟨Tryz.f192.name,by decide,lfB Tryz.func192⟩,f27:=⟨Tryz.f193.name,by decide,lfB Tryz.func193⟩,f28:=lfB Tryz.func194,f29:=lfB Tryz.func195,f46:=⟨Tryz.f199.name,by decide,lfB Tryz.func199⟩,f47:=lfB Tryz.func200,f48:=lfB Tryz.func201,f49:=⟨Tryz.f202.name,by decide,lfB Tryz.func202⟩,f50:=⟨Tryz.f203.name,by decide,lfB Tryz.func203⟩,f57:=⟨Tryz.f206.name,by decide,lfB Tryz.func206⟩,t0:=Tryz.underlying0,a0:=Tryz.isAgg0,z0:=Tryz.sizeOf0,v0:=Tryz.zeroValue0,t3:=Tryz.underlying3,a3:=Tryz.isAgg3,z3:=Tryz.sizeOf3,v3:=Tryz.zeroValue3,t4:=Tryz.underlying4,a4:=Tryz.isAgg4,z4:=Tryz.sizeOf4,v4:=Tryz.zeroValue4,t5:=Tryz.underlying5,a5:=Tryz.isAgg5,z5:=Tryz.sizeOf5,v5:=Tryz.zeroValue5,t9:=Tryz.underlying9,a9:=Tryz.isAgg9,z9:=Tryz.sizeOf9,v9:=Tryz.zeroValue9,t22:=Tryz.underlying52,a22:=Tryz.isAgg52,z22:=Tryz.sizeOf52,v22:=Tryz.zeroValue52,t25:=Tryz.underlying151,a25:=Tryz.isAgg151,z25:=Tryz.sizeOf151,v25:=Tryz.zeroValue151,t39:=Tryz.underlying168,a39:=Tryz.isAgg168,z39:=Tryz.sizeOf168,v39:=Tryz.zeroValue168,t45:=Tryz.underlying198,a45:=Tryz.isAgg198,z45:=Tryz.sizeOf198,v45:=Tryz.zeroValue198,t46:=Tryz.underlying199,a46:=Tryz.isAgg199,z46:=Tryz.sizeOf199,v46:=Tryz.zeroValue199,t50:=Tryz.underlying203,a50:=Tryz.isAgg203,z50:=Tryz.sizeOf203,v50:=Tryz.zeroValue203,t53:=Tryz.underlying206,a53:=Tryz.isAgg206,z53:=Tryz.sizeOf206,v53:=Tryz.zeroValue206,t55:=Tryz.underlying126,a55:=Tryz.isAgg126,z55:=Tryz.sizeOf126,v55:=Tryz.zeroValue126,t66:=Tryz.underlying207,a66:=Tryz.isAgg207,z66:=Tryz.sizeOf207,v66:=Tryz.zeroValue207,t70:=Tryz.underlying211,a70:=Tryz.isAgg211,z70:=Tryz.sizeOf211,v70:=Tryz.zeroValue211,t76:=Tryz.underlying214,a76:=Tryz.isAgg214,z76:=Tryz.sizeOf214,v76:=Tryz.zeroValue214,t77:=Tryz.underlying55,a77:=Tryz.isAgg55,z77:=Tryz.sizeOf55,v77:=Tryz.zeroValue55}
def qGt (p:qA):List Value:=[.int .i64 p.X,.int .i64 p.Y]
theorem slices_SortFunc_SPoint_swo :Go.Sort.SWO (ltOf cmpPt) where
 irrefl x:=by unfold ltOf cmpPt;simp
 trans x y z h1 h2:=by
  rw[ltPt] at*;simp only[decide_eq_true_eq] at*;omega
 ntrans x y z h1 h2:=by
  rw[ltPt] at*;simp only[decide_eq_false_iff_not] at*;omega
theorem slices_SortFunc_SPoint_anti (x y:qA) (h1:ltOf cmpPt x y=false) (h2:ltOf cmpPt y x=false):x=y:=by
 rw[ltPt] at*;simp only[decide_eq_false_iff_not] at*;cases x;cases y;simp only[qA.mk.injEq] at*;omega
theorem AD (a1:List qA) (r:List qA) (hm:jG a1=some r):CtX Tryz.prog globs 125 1 1 [.one (.own 0 0 2 a1.length),.one (.fn 126 [])] [(0,ro 0 71 2 a1.length (rf qB a1))] (TN a1 r) (RK a1 r):=by
 unfold jG at hm;obtain⟨g1,hm⟩:=qH hm;obtain rfl:=kP hm;have hs:=qNt g1;have eg:∀args w,(callFunc 126 args).run Tryz.prog w= .ok (.enter 126 args) w:=enters_of Tryz.func126 (by kernel_rfl) rfl;exact qOA (gl:=globs) slices_SortFunc_SPoint_lay 2 Tryz.isAgg71 Tryz.sizeOf71 qGt (λ_=>rfl) (λx v hv=>by simp[qGt] at hv;rcases hv with rfl|rfl<;>rfl) poly_Hull_1 cmpPt poly_Hull_1_eq slices_SortFunc_SPoint_swo slices_SortFunc_SPoint_anti 126 71 eg (λx y=>qGS x y _ (poly_Hull_1_eq x y)) a1 hs.1 hs.2
def yS (a1:List qA) (r:(List qA)×(List qA)):V:=vo 0 0 2 r.2.length
def yR (a1:List qA) (r:(List qA)×(List qA)):List (Nat×(Nat×O)):=[(0,ro 0 71 2 r.2.length (rf qB r.2))]
def KS (l3:List qA) (x4:Int) (x12:Int) (l19:List qA) (l19n:Nat) (x20:Int):St:=
 ⟨[(0,vo 0 0 2 l19n),(3,vi x20),(4,vc (.sub 0 0 2 x4.toNat (l3.length-x4.toNat))),(5,vi x12)],[(0,ro 0 71 2 l19n (rf qB l19))]⟩
def ZB (l3:List qA) (x4:Int) (l10:List qA) (l10n:Nat) (x11:Int) (x12:Int):St:=
 ⟨[(0,vo 0 0 2 l10n),(3,vi x11),(4,vc (.sub 0 0 2 x4.toNat (l3.length-x4.toNat))),(5,vi x12)],[(0,ro 0 71 2 l10n (rf qB l10))]⟩
def KU (l21:List qA) (x22:Int):St:=
 ⟨[(0,vo 0 0 2 l21.length),(3,vi x22)],[(0,ro 0 71 2 l21.length (rf qB l21))]⟩
def ZF (l3:List qA) (l3n:Nat) (x4:Int):St:=
 ⟨[(0,vo 0 0 2 l3n),(3,vi x4)],[(0,ro 0 71 2 l3n (rf qB l3))]⟩
def KQ (l27:List qA):St:=
 ⟨[(0,vo 0 0 2 l27.length)],[(0,ro 0 71 2 l27.length (rf qB l27))]⟩
theorem SP (E:Env 1) (l3:List qA) (x4:Int):∀(n:Nat) (l10:List qA) (l10n:Nat) (x11:Int) (x12:Int) (res:(List qA)×Int),l10.length=l10n->zS l3 x4 n l10 x11 x12=some res->HL (kx E 61 1) (nd f129 119380) (zW 2 (λo=>KU o.1 o.2) res) n (ZB l3 x4 l10 l10n x11 x12):=by
 intro n
 induction n with
 |zero=>
  intro l10 l10n x11 x12 res hl0 hm;cases hm
 |succ n ih=>
  intro l10 l10n x11 x12 res hl0 hm;subst hl0;refine qU (q_sq ?_);refine s_va 1 [(32,vb (decide (x12<(((l3.length-x4.toNat):Nat):Int))))] (q_cq hm (λhm=>?_) (λhm=>?_))
  ·refine q_sk (q_jn (ι:=(List qA)×Nat×Int) (λp=>KS l3 x4 x12 p.1 p.2.1 p.2.2) (λp=>p.1.length=p.2.1/\jZ x12 (zS l3 x4 n) p.1 p.2.2=some res) ?_ ?_)
   ·rintro⟨l19,l19n,x20⟩ ⟨el19,hm⟩;replace el19:l19.length=l19n:=el19;subst el19;show H _ (KS l3 x4 x12 l19 l19.length x20) _ _;exact q_vv [] 1 [5] [(5,vi (w64 (x12+1)))] (q_hl (ZB l3 x4 l19 l19.length x20 (w64 (x12+1))) (ih l19 l19.length x20 (w64 (x12+1)) _ rfl hm))
   ·refine q_bk 3 ?_;obtain⟨g14,hm⟩:=qH hm;obtain⟨g15,hm⟩:=qH hm;obtain⟨g16,hm⟩:=qH hm;refine s_du [qi 2 g14,qd 3 dN (kL (Nat.add_lt_add_left (zC (zJ g14)) x4.toNat) (kZ g15)),qi 7 g16,qd 8 dN (kL (Nat.add_lt_add_left (zC (zJ g16)) x4.toNat) (kZ g15))] [0,0,3,7,0,0,32,112,240,511] 1 [32] [(44,vb (!((((l10.getD (x4.toNat+x12.toNat) dd).X)==((l10.getD (x4.toNat+((w64 (x12-1)).toNat)) dd).X))&&((((l10.getD (x4.toNat+x12.toNat) dd).Y)==((l10.getD (x4.toNat+((w64 (x12-1)).toNat)) dd).Y))&&true))))] [] [] (q_cq hm (λhm=>?_) (λhm=>?_))
    ·obtain⟨g18,hm⟩:=qH hm;refine s_vu [qi 4 g14,qd 5 dN (kL (Nat.add_lt_add_left (zC (zJ g14)) x4.toNat) (kZ g15)),qi 6 g18,qd 7 (drw 0 0 (rf qB (l10.set x11.toNat (l10.getD (x4.toNat+x12.toNat) dd)))) (stP qB dd (l10.getD (x4.toNat+x12.toNat) dd) l10 l10.length x11.toNat 0 [ci ((l10.getD (x4.toNat+x12.toNat) dd).X),ci ((l10.getD (x4.toNat+x12.toNat) dd).Y)] rfl (zC (zJ g18)) rfl)] 1 [44] [] [0] [(0,ro 0 71 2 l10.length (rf qB (l10.set x11.toNat (l10.getD (x4.toNat+x12.toNat) dd))))] (q_vv [] 1 [3] [(3,vi (w64 (x11+1)))] ?_)
     exact q_J ((l10.set x11.toNat (l10.getD (x4.toNat+x12.toNat) dd)),l10.length,w64 (x11+1)) ⟨(UD rfl),hm⟩
    ·exact q_sk (q_J (l10,l10.length,x11) ⟨rfl,hm⟩)
  ·refine q_ex 2 ?_;obtain rfl:=oi hm;exact q_l0
theorem SB (E:Env 1) (a1:List qA):∀(n:Nat) (l3:List qA) (l3n:Nat) (x4:Int) (res:((List qA)×(List qA))⊕(List qA)),l3.length=l3n->wD n l3 x4=some res->HL (kx E 61 1) (nd f129 116) (jJ 0 KQ (λv st=>RetQ Tryz.prog f129 (yS a1 v) (yR a1 v) .ret st) res) n (ZF l3 l3n x4):=by
 intro n
 induction n with
 |zero=>
  intro l3 l3n x4 res hl0 hm;cases hm
 |succ n ih=>
  intro l3 l3n x4 res hl0 hm;subst hl0;refine qU (q_sq ?_);refine s_va 1 [(13,vb (decide (x4<(l3.length:Int))))] (q_cq hm (λhm=>?_) (λhm=>?_))
  ·refine q_sk (q_sq ?_);refine q_bk 1 ?_;obtain⟨g6,hm⟩:=qH hm;obtain⟨g7,hm⟩:=qH hm;refine s_du [qi 2 g6,qd 3 dN (zC (zJ g6)),qi 7 g7,qd 8 dN (zC (zJ g7))] [0,0,3,7,0,0,32,112,240,511] 1 [13] [(25,vb ((((l3.getD x4.toNat dd).X)==((l3.getD ((w64 (x4-1)).toNat) dd).X))&&((((l3.getD x4.toNat dd).Y)==((l3.getD ((w64 (x4-1)).toNat) dd).Y))&&true)))] [] [] (q_cq hm (λhm=>?_) (λhm=>?_))
   ·obtain⟨g9,hm⟩:=qH hm;refine s_vv [qd 2 dN (And.intro (zG g9).1 (zG g9).2.1)] 1 [25] [(4,vc (.sub 0 0 2 x4.toNat (l3.length-x4.toNat)))] (q_sq ?_);refine s_va 1 [(5,vi 1)] ?_;obtain⟨o23,h24,hm⟩:=qE hm;refine zU (nd f129 119380) 2 (by kernel_rfl) FUEL (λo=>KU o.1 o.2) o23 (q_hl (ZB l3 x4 l3 l3.length x4 1) (SP E l3 x4 FUEL l3 l3.length x4 1 o23 rfl h24)) ?_;obtain⟨g25,hm⟩:=qH hm
    refine s_wu [qd 2 dN (And.intro (zG g25).1 (zG g25).2.1),qd 3 (drw 0 0 (rf qB o23.1)) (show o23.2.toNat+(o23.1.length-o23.2.toNat)<=o23.1.length by have:=(zG g25);omega)] [.row 0 o23.2.toNat (rf qB (o23.1.take o23.2.toNat))] (o1 (tkP qB dd o23.1 o23.2.toNat o23.2.toNat (kr _))) 1 [] [] [0] [(0,ro 0 71 2 o23.2.toNat (rf qB (o23.1.take o23.2.toNat)))] ?_;obtain⟨g26,hm⟩:=qH hm
    refine s_vv [qd 2 dN (And.intro (zG g26).2.1 (zG g26).2.2)] 1 [0,3] [(2,vo 0 0 2 o23.2.toNat)] (q_fn [.len 0 ((o23.1.take o23.2.toNat).length)] ⟨[(2,vo 0 0 2 ((o23.1.take o23.2.toNat).length))],[(0,ro 0 71 2 ((o23.1.take o23.2.toNat).length) (rf qB (o23.1.take o23.2.toNat)))]⟩ (o1 (And.intro (Eq.symm (show(o23.1.take o23.2.toNat).length=o23.2.toNat from(KL rfl (ud (Nat.le_add_right _ _) (show o23.2.toNat+(o23.1.length-o23.2.toNat)<=o23.1.length by have:=(zG g25);omega))))) (Eq.symm (show(o23.1.take o23.2.toNat).length=o23.2.toNat from(KL rfl (ud (Nat.le_add_right _ _) (show o23.2.toNat+(o23.1.length-o23.2.toNat)<=o23.1.length by have:=(zG g25);omega))))))) ?_)
    obtain rfl:=oi hm;refine q_rt (zR ((o23.1.take o23.2.toNat),(o23.1.take o23.2.toNat)) ?_);exact q_rm
   ·refine q_sk (q_vv [] 1 [3,25] [(3,vi (w64 (x4+1)))] ?_);exact q_hl (ZF l3 l3.length (w64 (x4+1))) (ih l3 l3.length (w64 (x4+1)) _ rfl hm)
  ·refine q_ex 0 ?_;obtain rfl:=oi hm;exact q_l1 l3
theorem AR (a1:List qA) (r:(List qA)×(List qA)) (hm:wT a1=some r):CtX Tryz.prog globs 129 1 1 [.one (.own 0 0 2 a1.length)] [(0,ro 0 71 2 a1.length (rf qB a1))] (yS a1 r) (yR a1 r):=by
 unfold wT at hm;refine q_E f129 61 λE=>?_;refine s_vn [] 1 ⟨[(0,vo 0 0 2 a1.length)],[(0,ro 0 71 2 a1.length (rf qB a1))]⟩ (q_sq ?_);refine s_va 1 [(8,vb (decide ((a1.length:Int)<2)))] (q_cq hm (λhm=>?_) (λhm=>?_))
 ·refine s_vv [] 1 [0,8] [(2,vo 0 0 2 a1.length)] ?_;obtain rfl:=oi hm;exact q_rt q_rm
 ·refine q_sk (q_sq ?_);refine s_vv [] 1 [8] [(3,vi 1)] ?_;obtain⟨u30,h29,hm⟩:=qE hm;refine zZ (nd f129 116) 0 (by kernel_rfl) FUEL KQ (λv st=>RetQ Tryz.prog f129 (yS a1 v) (yR a1 v) .ret st) u30 (q_hl (ZF a1 a1.length 1) (SB E a1 FUEL a1 a1.length 1 u30 rfl h29)) ?_ ?_
  ·rintro v31 rfl st hr;obtain rfl:=oi hm;exact hr
  ·rintro o28 rfl;replace hm:_=some r:=hm;refine s_vv [] 1 [0] [(2,vo 0 0 2 o28.length)] ?_;obtain rfl:=oi hm;exact q_rt q_rm
open Go.Proofs Go.Proofs.Tryz
def qJ9 (r:Int):V:=vi r
def qKu (r:Int):List (Nat×(Nat×O)):=[]
theorem ZA (a1:qA) (a2:qA) (a3:qA) (r:Int) (hm:XV a1 a2 a3=some r):CtX Tryz.prog globs 122 0 0 [.agg (qB a1),.agg (qB a2),.agg (qB a3)] [] (qJ9 r) (qKu r):=by
 unfold XV at hm;refine q_E f122 30 λE=>?_;refine s_vn [] 0 ⟨[(3,vp 0 0),(4,vp 1 0),(5,vp 2 0)],[(0,bx 71 (qB a1)),(1,bx 71 (qB a2)),(2,bx 71 (qB a3))]⟩ (s_vn [] 3 ⟨[(6,vi (w64 ((w64 ((w64 (a2.X-a1.X))*(w64 (a3.Y-a1.Y))))-(w64 ((w64 (a3.X-a1.X))*(w64 (a2.Y-a1.Y)))))))],[]⟩ ?_);obtain rfl:=oi hm;exact q_rt q_rm
def IH (r:(List qA)):V:=vo 0 0 2 r.length
def TB (r:(List qA)):List (Nat×(Nat×O)):=[(0,ro 0 71 2 r.length (rf qB r))]
theorem qCO (r:(List qA)):yX (TB r):=by
 intro i k o h;unfold TB at h;rw[look_cons] at h;split at h
 ·cases h;exact λ_ _=>rfl
 ·cases h
def YL (a1:List qA) (x3:Int):St:=
 ⟨[(5,vp 1 0),(6,vc (tl qB dd a1)),(7,vi (a1.length:Int)),(8,vi x3)],[(1,bx 71 (qB (a1.getD x3.toNat dd)))]⟩
def qFJ (a1:List qA) (x3:Int) (l6:List qA) (x12:Bool):St:=
 (YL a1 x3).up [] [(3,vo 0 0 2 l6.length),(31,vb x12)] [] [(0,ro 0 71 2 l6.length (rf qB l6))]
def NE (a1:List qA) (x3:Int) (l6:List qA) (l6n:Nat):St:=
 (YL a1 x3).up [] [(3,vo 0 0 2 l6n)] [] [(0,ro 0 71 2 l6n (rf qB l6))]
def CU (a1:List qA) (x3:Int) (l15:List qA):St:=
 (YL a1 x3).up [] [(3,vo 0 0 2 l15.length)] [] [(0,ro 0 71 2 l15.length (rf qB l15))]
def FI (a1:List qA) (l2:List qA) (l2n:Nat) (x3:Int):St:=
 (YL a1 x3).up [5] [(3,vo 0 0 2 l2n)] [1] [(0,ro 0 71 2 l2n (rf qB l2))]
def CQ (l19:List qA):St:=
 ⟨[(3,vo 0 0 2 l19.length)],[(0,ro 0 71 2 l19.length (rf qB l19))]⟩
theorem qFF (E:Env 0) (a1:List qA) (x3:Int):∀(n:Nat) (l6:List qA) (l6n:Nat) (res:(List qA)),l6.length=l6n->QY a1 x3 n l6=some res->HL (kx E 47 0) (nd f130 29896) (zW 2 (λo=>CU a1 x3 o) res) n (NE a1 x3 l6 l6n):=by
 intro n
 induction n with
 |zero=>
  intro l6 l6n res hl0 hm;cases hm
 |succ n ih=>
  intro l6 l6n res hl0 hm;subst hl0;refine qU (q_sq ?_);refine q_jn (qFJ a1 x3 l6) (λp=>GN l6 (QY a1 x3 n) p=some res) ?_ ?_
  ·rintro x12 hm;refine q_cq hm (λhm=>?_) (λhm=>?_)
   ·refine q_sk (q_bk 3 ?_);obtain⟨g14,hm⟩:=qH hm
    exact q_wu [qd 4 dN (And.intro (zG g14).2.1 (zG g14).2.2)] [.row 0 ((w64 ((l6.length:Int)-1)).toNat) (rf qB (l6.take ((w64 ((l6.length:Int)-1)).toNat)))] (o1 (tkP qB dd l6 l6.length ((w64 ((l6.length:Int)-1)).toNat) (show(w64 ((l6.length:Int)-1)).toNat<=l6.length by have:=(zG g14);omega))) 2 [3,31] [(3,vo 0 0 2 ((w64 ((l6.length:Int)-1)).toNat))] [0] [(0,ro 0 71 2 ((w64 ((l6.length:Int)-1)).toNat) (rf qB (l6.take ((w64 ((l6.length:Int)-1)).toNat))))] (q_hl (NE a1 x3 (l6.take ((w64 ((l6.length:Int)-1)).toNat)) ((w64 ((l6.length:Int)-1)).toNat)) (ih (l6.take ((w64 ((l6.length:Int)-1)).toNat)) ((w64 ((l6.length:Int)-1)).toNat) _ (KL rfl (show(w64 ((l6.length:Int)-1)).toNat<=l6.length by have:=(zG g14);omega)) hm))
   ·refine q_ex 2 ?_;obtain rfl:=oi hm;exact q_l0
  ·rcases bif_c hm with⟨b7,hm⟩|⟨b7,hm⟩
   ·obtain⟨g8,hm⟩:=qH hm;obtain⟨g9,hm⟩:=qH hm;obtain⟨v10,h11,hm⟩:=qE hm
    exact q_du [qf 3 b7,qi 8 g8,qd 9 dN (zC (zJ g8)),qi 14 g9,qd 15 dN (zC (zJ g9)),qk 17 [15,21,27,28] 2 ⟨[(15,vb true),(21,va [ci ((l6.getD ((w64 ((l6.length:Int)-2)).toNat) dd).X),ci ((l6.getD ((w64 ((l6.length:Int)-2)).toNat) dd).Y)]),(27,va [ci ((l6.getD ((w64 ((l6.length:Int)-1)).toNat) dd).X),ci ((l6.getD ((w64 ((l6.length:Int)-1)).toNat) dd).Y)]),(28,va [ci ((a1.getD x3.toNat dd).X),ci ((a1.getD x3.toNat dd).Y)])],[]⟩ (ZA (l6.getD ((w64 ((l6.length:Int)-2)).toNat) dd) (l6.getD ((w64 ((l6.length:Int)-1)).toNat) dd) (a1.getD x3.toNat dd) v10 h11)] [0,1,3,7,15,15,47,111,255,511,15,15,2063,6159,15375,31759,15,131071,262143,524287] 2 [] [(31,vb (decide (v10<=0)))] [] [] (q_J (decide (v10<=0)) hm)
   ·exact q_du [qf 3 b7] [0,1,3,7,15,15,47,111,255,511,15,15,2063,6159,15375,31759,15,131071,262143,524287] 2 [] [(31,vb false)] [] [] (q_J (false) hm)
theorem qFu (E:Env 0) (a1:List qA):∀(n:Nat) (l2:List qA) (l2n:Nat) (x3:Int) (res:(List qA)),l2.length=l2n->KR a1 n l2 x3=some res->HL (kx E 47 0) (nd f130 116) (zW 0 CQ res) n (FI a1 l2 l2n x3):=by
 intro n
 induction n with
 |zero=>
  intro l2 l2n x3 res hl0 hm;cases hm
 |succ n ih=>
  intro l2 l2n x3 res hl0 hm;subst hl0;refine qU (s_va 1 [(9,vb (decide (x3<(a1.length:Int))))] ?_);refine q_sq (q_cq hm (λhm=>?_) (λhm=>?_))
  ·refine q_sk (q_sq ?_);refine q_bk 1 ?_;obtain⟨g5,hm⟩:=qH hm;refine s_vu [qi 0 g5] 1 [9] [(5,vp 1 0)] [] [(1,bx 71 (qB (a1.getD x3.toNat dd)))] (q_sq ?_);obtain⟨o16,h17,hm⟩:=qE hm;refine zU (nd f130 29896) 2 (by kernel_rfl) FUEL (λo=>CU a1 x3 o) o16 (q_hl (NE a1 x3 l2 l2.length) (qFF E a1 x3 FUEL l2 l2.length o16 rfl h17)) ?_;obtain⟨g18,hm⟩:=qH hm
   refine q_vu [qd 2 (drw 2 0 (rf qB [(a1.getD x3.toNat dd)])) (litP qB dd 2 (λ_=>rfl) ([(a1.getD x3.toNat dd)]:List qA) 1 rfl),qd 3 (drw 0 1 (rf qB (o16++[(a1.getD x3.toNat dd)]))) (apP qB dd o16 ([(a1.getD x3.toNat dd)]:List qA) o16.length 1 2 16 (1<=1) (kr _) rfl rfl (λ_=>rfl) (wE g18))] 2 [3,5] [(3,vo 0 1 2 (o16.length+1))] [0,1] [(0,ro 1 71 2 (o16.length+1) (rf qB (o16++[(a1.getD x3.toNat dd)])))] (q_vv [] 3 [8] [(8,vi (w64 (x3+1)))] ?_)
   exact q_hl (FI a1 (o16++[(a1.getD x3.toNat dd)]) (o16.length+1) (w64 (x3+1))) (ih (o16++[(a1.getD x3.toNat dd)]) (o16.length+1) (w64 (x3+1)) _ (wS rfl rfl) hm)
  ·refine q_ex 0 ?_;obtain rfl:=oi hm;exact q_l0
theorem qCg (a1:List qA) (r:(List qA)) (hm:US a1=some r):CtX Tryz.prog globs 130 0 0 [.one (tl qB dd a1)] [] (IH r) (TB r):=by
 unfold US at hm;refine q_E f130 47 λE=>?_;refine s_vn [] 0 ⟨[(0,vc (tl qB dd a1))],[]⟩ (s_va 0 [(3,vc (.emp))] ?_);refine q_sq (s_vv [] 0 [0] [(6,vc (tl qB dd a1)),(7,vi (a1.length:Int)),(8,vi 0)] ?_);refine q_fo 3 0 71 2 qB ?_;obtain⟨o20,h21,hm⟩:=qE hm;refine zU (nd f130 116) 0 (by kernel_rfl) FUEL CQ o20 (q_hl (FI a1 ([]:List qA) 0 0) (qFu E a1 FUEL ([]:List qA) 0 0 o20 rfl h21)) ?_;obtain⟨g22,hm⟩:=qH hm
 refine s_wn [qd 4 dN (And.intro (zG g22).2.1 (zG g22).2.2)] [.row 0 ((w64 ((o20.length:Int)-1)).toNat) (rf qB (o20.take ((w64 ((o20.length:Int)-1)).toNat)))] (o1 (tkP qB dd o20 o20.length ((w64 ((o20.length:Int)-1)).toNat) (show(w64 ((o20.length:Int)-1)).toNat<=o20.length by have:=(zG g22);omega))) 1 ⟨[(2,vo 0 0 2 ((w64 ((o20.length:Int)-1)).toNat))],[(0,ro 0 71 2 ((w64 ((o20.length:Int)-1)).toNat) (rf qB (o20.take ((w64 ((o20.length:Int)-1)).toNat))))]⟩ ?_
 refine q_fn [.len 0 ((o20.take ((w64 ((o20.length:Int)-1)).toNat)).length)] ⟨[(2,vo 0 0 2 ((o20.take ((w64 ((o20.length:Int)-1)).toNat)).length))],[(0,ro 0 71 2 ((o20.take ((w64 ((o20.length:Int)-1)).toNat)).length) (rf qB (o20.take ((w64 ((o20.length:Int)-1)).toNat))))]⟩ (o1 (And.intro (Eq.symm (show(o20.take ((w64 ((o20.length:Int)-1)).toNat)).length=(w64 ((o20.length:Int)-1)).toNat from(KL rfl (show(w64 ((o20.length:Int)-1)).toNat<=o20.length by have:=(zG g22);omega)))) (Eq.symm (show(o20.take ((w64 ((o20.length:Int)-1)).toNat)).length=(w64 ((o20.length:Int)-1)).toNat from(KL rfl (show(w64 ((o20.length:Int)-1)).toNat<=o20.length by have:=(zG g22);omega)))))) ?_
 obtain rfl:=oi hm;exact q_rt q_rm
def UV (a1:List qA) (r:(List qA)):V:= .undef
def UX (a1:List qA) (r:(List qA)):List (Nat×(Nat×O)):=[(0,ro 0 71 2 r.length (rf qB r))]
def ZI (l2:List qA) (l2n:Nat) (x3:Int) (x4:Int):St:=
 ⟨[(0,vo 0 0 2 l2n),(2,vi x3),(3,vi x4)],[(0,ro 0 71 2 l2n (rf qB l2))]⟩
def KZ (l8:List qA):St:=
 ⟨[],[(0,ro 0 71 2 l8.length (rf qB l8))]⟩
theorem ST (E:Env 1):∀(n:Nat) (l2:List qA) (l2n:Nat) (x3:Int) (x4:Int) (res:(List qA)),l2.length=l2n->wW n l2 x3 x4=some res->HL (kx E 28 1) (nd f131 12) (zW 0 KZ res) n (ZI l2 l2n x3 x4):=by
 intro n
 induction n with
 |zero=>
  intro l2 l2n x3 x4 res hl0 hm;cases hm
 |succ n ih=>
  intro l2 l2n x3 x4 res hl0 hm;subst hl0;refine qU (q_sq ?_);refine s_va 1 [(9,vb (decide (x3<x4)))] (q_cq hm (λhm=>?_) (λhm=>?_))
  ·refine q_sk (q_sq ?_);refine q_bk 1 ?_;obtain⟨g6,hm⟩:=qH hm;obtain⟨g7,hm⟩:=qH hm
   refine q_du [qi 6 g6,qd 7 dN (zC (zJ g6)),qi 10 g7,qd 11 dN (zC (zJ g7)),qi 12 g7,qd 13 (drw 0 0 (rf qB (l2.set x3.toNat (l2.getD x4.toNat dd)))) (stP qB dd (l2.getD x4.toNat dd) l2 l2.length x3.toNat 0 [ci ((l2.getD x4.toNat dd).X),ci ((l2.getD x4.toNat dd).Y)] rfl (zC (zJ g7)) rfl),qi 14 g6,qd 15 (drw 0 0 (rf qB ((l2.set x3.toNat (l2.getD x4.toNat dd)).set x4.toNat (l2.getD x3.toNat dd)))) (stP qB dd (l2.getD x3.toNat dd) (l2.set x3.toNat (l2.getD x4.toNat dd)) l2.length x4.toNat 0 [ci ((l2.getD x3.toNat dd).X),ci ((l2.getD x3.toNat dd).Y)] (UD rfl) (zC (zJ g6)) rfl)] [0,0,0,0,0,0,48,112,0,0,768,1792,4083,8179,16383,32767] 1 [9] [] [0] [(0,ro 0 71 2 l2.length (rf qB ((l2.set x3.toNat (l2.getD x4.toNat dd)).set x4.toNat (l2.getD x3.toNat dd))))] ?_
   exact q_vv [] 1 [2,3] [(2,vi (w64 (x3+1))),(3,vi (w64 (x4-1)))] (q_hl (ZI ((l2.set x3.toNat (l2.getD x4.toNat dd)).set x4.toNat (l2.getD x3.toNat dd)) l2.length (w64 (x3+1)) (w64 (x4-1))) (ih ((l2.set x3.toNat (l2.getD x4.toNat dd)).set x4.toNat (l2.getD x3.toNat dd)) l2.length (w64 (x3+1)) (w64 (x4-1)) _ (UD (UD rfl)) hm))
  ·refine q_ex 0 ?_;obtain rfl:=oi hm;exact q_l0
theorem OC (a1:List qA) (r:(List qA)) (hm:jO a1=some r):CtX Tryz.prog globs 131 1 1 [.one (.own 0 0 2 a1.length)] [(0,ro 0 71 2 a1.length (rf qB a1))] (UV a1 r) (UX a1 r):=by
 unfold jO at hm;refine q_E f131 28 λE=>?_;refine s_vn [] 1 ⟨[(0,vo 0 0 2 a1.length),(2,vi 0),(3,vi (w64 ((a1.length:Int)-1)))],[(0,ro 0 71 2 a1.length (rf qB a1))]⟩ ?_;obtain⟨o9,h10,hm⟩:=qE hm;refine zU (nd f131 12) 0 (by kernel_rfl) FUEL KZ o9 (q_hl (ZI a1 a1.length 0 (w64 ((a1.length:Int)-1))) (ST E FUEL a1 a1.length 0 (w64 ((a1.length:Int)-1)) o9 rfl h10)) ?_;obtain rfl:=oi hm;exact q_rm
open Go.Proofs Go.Proofs.Tryz
def qIM (r:Bool):V:=vb r
def qIF (r:Bool):List (Nat×(Nat×O)):=[]
def qFv (x3:Bool):St:=
 ⟨[(2,vb x3)],[]⟩
theorem ZS (a1:Int) (r:Bool) (hm:ZR a1=some r):CtX Tryz.prog globs 120 0 0 [.one (ci a1)] [] (qIM r) (qIF r):=by
 unfold ZR at hm;refine q_E f120 9 λE=>?_;refine s_vn [] 0 ⟨[(0,vi a1)],[]⟩ (q_jn (qFv) (λp=>UH p=some r) ?_ ?_)
 ·rintro x3 hm;obtain rfl:=oi hm;exact q_rt q_rm
 ·rcases bif_c hm with⟨b2,hm⟩|⟨b2,hm⟩
  ·exact q_vn [qf 2 b2] 0 ⟨[(2,vb (decide (a1<=600)))],[]⟩ (q_J (decide (a1<=600)) hm)
  ·exact q_vn [qf 2 b2] 0 ⟨[(2,vb false)],[]⟩ (q_J (false) hm)
def MC (r:Bool):V:=vb r
def FW (r:Bool):List (Nat×(Nat×O)):=[]
def qEl (a1:List qA) (x2:Int) (x10:Bool):St:=
 ⟨[(5,vc (tl qB dd a1)),(6,vi (a1.length:Int)),(7,vi x2),(20,vb x10)],[]⟩
def VF (a1:List qA) (x2:Int):St:=
 ⟨[(5,vc (tl qB dd a1)),(6,vi (a1.length:Int)),(7,vi x2)],[]⟩
def ER :St:=
 ⟨[],[]⟩
theorem qDF (E:Env 0) (a1:List qA):∀(n:Nat) (x2:Int) (res:Bool⊕Unit),yH a1 n x2=some res->HL (kx E 22 0) (nd f123 52) (jJ 0 (λo=>ER) (λv st=>RetQ Tryz.prog f123 (MC v) (FW v) .ret st) res) n (VF a1 x2):=by
 intro n
 induction n with
 |zero=>
  intro x2 res hm;cases hm
 |succ n ih=>
  intro x2 res hm;refine qU (s_va 0 [(8,vb (decide (x2<(a1.length:Int))))] ?_);refine q_sq (q_cq hm (λhm=>?_) (λhm=>?_))
  ·refine q_sk (q_sq ?_);refine q_bk 1 ?_;obtain⟨g4,hm⟩:=qH hm;refine s_vu [qi 0 g4] 0 [8] [(4,vp 0 0)] [] [(0,bx 71 (qB (a1.getD x2.toNat dd)))] (q_jn (qEl a1 x2) (λp=>RH x2 (yH a1 n) p=some res) ?_ ?_)
   ·rintro x10 hm;refine q_cq hm (λhm=>?_) (λhm=>?_)
    ·refine s_vn [] 1 ⟨[(2,vb false)],[]⟩ ?_;obtain rfl:=oi hm;refine q_rt (zR false ?_);exact q_rm
    ·refine q_sk (q_vv [] 1 [7,20] [(7,vi (w64 (x2+1)))] ?_);exact q_hl (VF a1 (w64 (x2+1))) (ih (w64 (x2+1)) _ hm)
   ·obtain⟨v5,h6,hm⟩:=qE hm;rcases bif_c hm with⟨b7,hm⟩|⟨b7,hm⟩
    ·exact q_vu [qc 2 [12] 1 (ZS ((a1.getD x2.toNat dd).X) v5 h6),qf 4 b7] 1 [4] [(20,vb true)] [0] [] (q_J (true) hm)
    ·obtain⟨v8,h9,hm⟩:=qE hm;exact q_vu [qc 2 [12] 1 (ZS ((a1.getD x2.toNat dd).X) v5 h6),qf 4 b7,qk 7 [15,17] 1 ⟨[(15,vb false),(17,vi ((a1.getD x2.toNat dd).Y))],[]⟩ (ZS ((a1.getD x2.toNat dd).Y) v8 h9)] 1 [4] [(20,vb (!v8))] [0] [] (q_J (!v8) hm)
  ·refine q_ex 0 ?_;obtain rfl:=oi hm;exact q_l1 ()
theorem BS (a1:List qA) (r:Bool) (hm:WD a1=some r):CtX Tryz.prog globs 123 0 0 [.one (tl qB dd a1)] [] (MC r) (FW r):=by
 unfold WD at hm;refine q_E f123 22 λE=>?_;refine s_vn [] 0 ⟨[(0,vc (tl qB dd a1))],[]⟩ (q_sq ?_);refine s_vn [] 0 ⟨[(5,vc (tl qB dd a1)),(6,vi (a1.length:Int)),(7,vi 0)],[]⟩ ?_;obtain⟨u14,h13,hm⟩:=qE hm;refine zZ (nd f123 52) 0 (by kernel_rfl) FUEL (λo=>ER) (λv st=>RetQ Tryz.prog f123 (MC v) (FW v) .ret st) u14 (q_hl (VF a1 0) (qDF E a1 FUEL 0 u14 h13)) ?_ ?_
 ·rintro v15 rfl st hr;obtain rfl:=oi hm;exact hr
 ·rintro o12 rfl;replace hm:_=some r:=hm;refine s_vn [] 0 ⟨[(2,vb true)],[]⟩ ?_;obtain rfl:=oi hm;exact q_rt q_rm
def qEL (r:(List qA)):V:=vo 0 0 2 r.length
def MU (r:(List qA)):List (Nat×(Nat×O)):=[(0,ro 0 71 2 r.length (rf qB r))]
theorem qLN (r:(List qA)):yX (MU r):=by
 intro i k o h;unfold MU at h;rw[look_cons] at h;split at h
 ·cases h;exact λ_ _=>rfl
 ·cases h
def qHD (a1:List qA) (x6:Bool):St:=
 ⟨[(0,vc (tl qB dd a1)),(17,vb x6)],[]⟩
theorem qDc (a1:List qA) (r:(List qA)) (hm:DT a1=some r):CtX Tryz.prog globs 65 0 0 [.one (tl qB dd a1)] [] (qEL r) (MU r):=by
 unfold DT at hm;refine q_E f65 36 λE=>?_;refine s_vn [] 0 ⟨[(0,vc (tl qB dd a1))],[]⟩ (q_sq ?_);refine q_jn (qHD a1) (λp=>RZ a1 p=some r) ?_ ?_
 ·rintro x6 hm;refine q_cq hm (λhm=>?_) (λhm=>?_)
  ·refine s_vn [] 0 ⟨[(2,vc (.emp))],[]⟩ (q_fn [.own 2 0 71 2 (rf qB [])] ⟨[(2,vo 0 0 2 0)],[(0,ro 0 71 2 0 (rf qB []))]⟩ o0 ?_);refine q_fn [.len 0 (([]:List qA).length)] ⟨[(2,vo 0 0 2 (([]:List qA).length))],[(0,ro 0 71 2 (([]:List qA).length) (rf qB []))]⟩ (o1 (And.intro (show 0=([]:List qA).length from rfl) (show 0=([]:List qA).length from rfl))) ?_;obtain rfl:=oi hm;exact q_rt q_rm
  ·refine q_sk ?_;obtain⟨v8,h9,hm⟩:=qE hm;refine s_vn [qc 1 [18] 0 (qAv a1 v8 h9)] 0 ⟨[(3,vo 0 0 2 v8.length)],[(0,ro 0 71 2 v8.length (rf qB v8))]⟩ ?_;obtain⟨v10,h11,hm⟩:=qE hm;obtain⟨g12,hm⟩:=qH hm
   refine s_wu [qd 1 (dex (cen [(0,0)] [0] 0 1 (TN v8 v10) (RK v8 v10) [20] [0])) (zI (K:=(kx E 36 0)) ⟨[(20,vo 0 0 2 v8.length)],[(0,ro 0 71 2 v8.length (rf qB v8))]⟩ (opAt (rg f65 30) 1) [(0,0)] [0] 0 o0 rfl (AD v8 v10 h11) (.inl rfl) (by kernel_rfl))] [.len 0 v8.length] (o1 (And.intro (And.intro (Eq.refl v8.length) (Eq.refl v8.length)) (And.intro (qBo g12) (Eq.refl v8.length)))) 1 [] [] [0] [(0,ro 0 71 2 v8.length (rf qB v10))] ?_;obtain⟨v13,h14,hm⟩:=qE hm
   refine s_vn [qd 1 (dpr [.len 0 v10.length] (dex (cen [(0,0)] [0] 0 1 (yS v10 v13) (yR v10 v13) [22] [0]))) (And.intro (And.intro (Eq.symm (show v10.length=v8.length from(qBo g12))) (Eq.symm (show v10.length=v8.length from(qBo g12)))) (Eq.symm (show v10.length=v8.length from(qBo g12)))),qd 1 dN (zI (K:=(kx E 36 0)) ⟨[(22,vo 0 0 2 v10.length)],[(0,ro 0 71 2 v10.length (rf qB v10))]⟩ (opAt (rg f65 62) 1) [(0,0)] [0] 0 o0 rfl (AR v10 v13 h14) (.inl rfl) (by kernel_rfl))] 1 ⟨[(3,vo 0 0 2 v13.2.length)],[(0,ro 0 71 2 v13.2.length (rf qB v13.2))]⟩ ?_;obtain⟨v15,h16,hm⟩:=qE hm
   refine s_vu [qd 1 (dex (cen [] [] 1 0 (IH v15) (TB v15) [24] [0])) (zI (K:=(kx E 36 0)) (b:=false) ⟨[(24,vo 0 0 2 v13.2.length)],[(0,ro 0 71 2 v13.2.length (rf qB v13.2))]⟩ (opAt (rg f65 126) 1) [] [] 1 (o1 (kr v13.2.length)) rfl (qCg v13.2 v15 h16) (.inr ⟨(by kernel_rfl),qCO v15⟩) (by kernel_rfl))] 1 [] [(4,vo 1 0 2 v15.length)] [] [(1,ro 0 71 2 v15.length (rf qB v15))] ?_;obtain⟨v17,h18,hm⟩:=qE hm;obtain⟨g19,hm⟩:=qH hm
   refine s_wu [qd 1 (dex (cen [(0,0)] [0] 1 1 (UV v13.2 v17) (UX v13.2 v17) [26] [0])) (zI (K:=(kx E 36 0)) ⟨[(26,vo 0 0 2 v13.2.length)],[(0,ro 0 71 2 v13.2.length (rf qB v13.2))]⟩ (opAt (rg f65 254) 1) [(0,0)] [0] 1 o0 rfl (OC v13.2 v17 h18) (.inl rfl) (by kernel_rfl))] [.len 0 v13.2.length] (o1 (And.intro (And.intro (Eq.refl v13.2.length) (Eq.refl v13.2.length)) (And.intro (qBo g19) (Eq.refl v13.2.length)))) 2 [] [] [0] [(0,ro 0 71 2 v13.2.length (rf qB v17))] ?_;obtain⟨v20,h21,hm⟩:=qE hm;obtain⟨g22,hm⟩:=qH hm
   refine s_vn [qd 2 (dex (cen [] [] 2 0 (IH v20) (TB v20) [29] [0])) (zI (K:=(kx E 36 0)) (xs':=[.one (.lst v13.2.length (rf qB v17))]) (b:=false) ⟨[(29,vo 0 0 2 v13.2.length)],[(0,ro 0 71 2 v13.2.length (rf qB v17))]⟩ (opAt (rg f65 510) 2) [] [] 2 (o1 (kr v13.2.length)) (by simp only[tl,rf,show v17.length=v13.2.length from(qBo g19)]) (qCg v17 v20 h21) (.inr ⟨(by kernel_rfl),qCO v20⟩) (by kernel_rfl)),qd 3 (drw 1 1 (rf qB (v15++v20))) (apP qB dd v15 v20 v15.length v20.length 2 16 (v20.length<=v20.length) (kr _) rfl rfl (λ_=>rfl) (wE g22))] 2 ⟨[(4,vo 1 1 2 (v15.length+v20.length))],[(1,ro 1 71 2 (v15.length+v20.length) (rf qB (v15++v20)))]⟩ (q_sq ?_)
   refine s_va 3 [(34,vb (decide ((((v15.length+v20.length):Nat):Int)<3)))] (q_cq hm (λhm=>?_) (λhm=>?_))
   ·refine s_vn [] 3 ⟨[(2,vc (.emp))],[]⟩ (q_fn [.own 2 3 71 2 (rf qB [])] ⟨[(2,vo 3 0 2 0)],[(3,ro 0 71 2 0 (rf qB []))]⟩ o0 ?_);refine q_fn [.len 3 (([]:List qA).length)] ⟨[(2,vo 3 0 2 (([]:List qA).length))],[(3,ro 0 71 2 (([]:List qA).length) (rf qB []))]⟩ (o1 (And.intro (show 0=([]:List qA).length from rfl) (show 0=([]:List qA).length from rfl))) ?_;obtain rfl:=oi hm;exact q_sw 3 0 (q_rt q_rm)
   ·refine q_sk (s_vv [] 3 [4,34] [(2,vo 1 1 2 (v15.length+v20.length))] ?_);refine q_fn [.len 1 ((v15++v20).length)] ⟨[(2,vo 1 1 2 ((v15++v20).length))],[(1,ro 1 71 2 ((v15++v20).length) (rf qB (v15++v20)))]⟩ (o1 (And.intro (Eq.symm (show(v15++v20).length=(v15.length+v20.length) from(wS rfl rfl))) (Eq.symm (show(v15++v20).length=(v15.length+v20.length) from(wS rfl rfl))))) ?_;obtain rfl:=oi hm;exact q_sw 1 0 (q_rt q_rm)
 ·rcases bif_c hm with⟨b2,hm⟩|⟨b2,hm⟩
  ·exact q_vv [qf 3 b2] 0 [] [(17,vb true)] (q_J (true) hm)
  ·rcases bif_c hm with⟨b3,hm⟩|⟨b3,hm⟩
   ·exact q_vv [qf 3 b2,qf 8 b3] 0 [] [(17,vb true)] (q_J (true) hm)
   ·obtain⟨v4,h5,hm⟩:=qE hm;exact q_vv [qf 3 b2,qf 8 b3,qk 10 [13,14] 0 ⟨[(13,vb false),(14,vc (tl qB dd a1))],[]⟩ (BS a1 v4 h5)] 0 [] [(17,vb (!v4))] (q_J (!v4) hm)
open Go.Proofs Go.Proofs.Tryz
def qIH (r:Bool):V:=vb r
def qIK (r:Bool):List (Nat×(Nat×O)):=[]
def qFy (x10:Bool):St:=
 ⟨[(6,vb x10)],[]⟩
theorem qHu (a1:qA) (a2:qA) (a3:qA) (r:Bool) (hm:GA a1 a2 a3=some r):CtX Tryz.prog globs 121 0 0 [.agg (qB a1),.agg (qB a2),.agg (qB a3)] [] (qIH r) (qIK r):=by
 unfold GA at hm;refine q_E f121 52 λE=>?_;refine s_vn [] 0 ⟨[(3,vp 0 0),(4,vp 1 0),(5,vp 2 0)],[(0,bx 71 (qB a1)),(1,bx 71 (qB a2)),(2,bx 71 (qB a3))]⟩ (q_jn (qFy) (λp=>QE p=some r) ?_ ?_)
 ·rintro x10 hm;obtain rfl:=oi hm;exact q_rt q_rm
 ·obtain⟨v4,h5,hm⟩:=qE hm;rcases bif_c hm with⟨b6,hm⟩|⟨b6,hm⟩
  ·rcases bif_c hm with⟨b7,hm⟩|⟨b7,hm⟩
   ·rcases bif_c hm with⟨b8,hm⟩|⟨b8,hm⟩
    ·rcases bif_c hm with⟨b9,hm⟩|⟨b9,hm⟩
     ·exact q_vn [qc 3 [7,8,9] 3 (ZA a1 a2 a3 v4 h5),qf 5 b6,qf 15 b7,qf 25 b8,qf 35 b9] 3 ⟨[(6,vb (decide (a3.Y<=(imax a1.Y a2.Y))))],[]⟩ (q_J (decide (a3.Y<=(imax a1.Y a2.Y))) hm)
     ·exact q_vn [qc 3 [7,8,9] 3 (ZA a1 a2 a3 v4 h5),qf 5 b6,qf 15 b7,qf 25 b8,qf 35 b9] 3 ⟨[(6,vb false)],[]⟩ (q_J (false) hm)
    ·exact q_vn [qc 3 [7,8,9] 3 (ZA a1 a2 a3 v4 h5),qf 5 b6,qf 15 b7,qf 25 b8] 3 ⟨[(6,vb false)],[]⟩ (q_J (false) hm)
   ·exact q_vn [qc 3 [7,8,9] 3 (ZA a1 a2 a3 v4 h5),qf 5 b6,qf 15 b7] 3 ⟨[(6,vb false)],[]⟩ (q_J (false) hm)
  ·exact q_vn [qc 3 [7,8,9] 3 (ZA a1 a2 a3 v4 h5),qf 5 b6] 3 ⟨[(6,vb false)],[]⟩ (q_J (false) hm)
def qLe (r:Int):V:=vi r
def qLm (r:Int):List (Nat×(Nat×O)):=[]
def NP (a1:List qA) (x7:Int) (x8:Int):St:=
 ⟨[(0,vc (tl qB dd a1)),(3,vi x7),(15,vc (tl qB dd a1)),(16,vi (a1.length:Int)),(17,vi x8)],[]⟩
def qAn (x13:Int):St:=
 ⟨[(3,vi x13)],[]⟩
def qG1 (a1:List qA) (x5:Bool):St:=
 ⟨[(0,vc (tl qB dd a1)),(14,vb x5)],[]⟩
theorem qE6 (E:Env 0) (a1:List qA):∀(n:Nat) (x7:Int) (x8:Int) (res:Int),JA a1 n x7 x8=some res->HL (kx E 45 0) (nd f170 244) (zW 0 qAn res) n (NP a1 x7 x8):=by
 intro n
 induction n with
 |zero=>
  intro x7 x8 res hm;cases hm
 |succ n ih=>
  intro x7 x8 res hm;refine qU (s_va 0 [(18,vb (decide (x8<(a1.length:Int))))] ?_);refine q_sq (q_cq hm (λhm=>?_) (λhm=>?_))
  ·refine q_sk (q_sq ?_);refine q_bk 1 ?_;obtain⟨g10,hm⟩:=qH hm;refine s_vu [qi 1 g10] 0 [18] [(4,vi x8),(5,vp 0 0)] [] [(0,bx 71 (qB (a1.getD x8.toNat dd)))] ?_;obtain⟨g11,hm⟩:=qH hm;obtain⟨g12,hm⟩:=qH hm;refine s_vu [qd 5 dN (MN g11),qi 6 g12] 1 [4] [(6,vp 1 0)] [] [(1,bx 71 (qB (a1.getD (Int.tmod (w64 (x8+1)) (a1.length:Int)).toNat dd)))] (q_vu [] 2 [3,5,6] [(3,vi (w64 (x7+(w64 ((w64 (((a1.getD x8.toNat dd).X)*((a1.getD (Int.tmod (w64 (x8+1)) (a1.length:Int)).toNat dd).Y)))-(w64 (((a1.getD (Int.tmod (w64 (x8+1)) (a1.length:Int)).toNat dd).X)*((a1.getD x8.toNat dd).Y))))))))] [0,1] [] ?_)
   exact q_vv [] 2 [17] [(17,vi (w64 (x8+1)))] (q_hl (NP a1 (w64 (x7+(w64 ((w64 (((a1.getD x8.toNat dd).X)*((a1.getD (Int.tmod (w64 (x8+1)) (a1.length:Int)).toNat dd).Y)))-(w64 (((a1.getD (Int.tmod (w64 (x8+1)) (a1.length:Int)).toNat dd).X)*((a1.getD x8.toNat dd).Y))))))) (w64 (x8+1))) (ih (w64 (x7+(w64 ((w64 (((a1.getD x8.toNat dd).X)*((a1.getD (Int.tmod (w64 (x8+1)) (a1.length:Int)).toNat dd).Y)))-(w64 (((a1.getD (Int.tmod (w64 (x8+1)) (a1.length:Int)).toNat dd).X)*((a1.getD x8.toNat dd).Y))))))) (w64 (x8+1)) _ hm))
  ·refine q_ex 0 ?_;obtain rfl:=oi hm;exact q_l0
theorem qI8 (a1:List qA) (r:Int) (hm:NC a1=some r):CtX Tryz.prog globs 170 0 0 [.one (tl qB dd a1)] [] (qLe r) (qLm r):=by
 unfold NC at hm;refine q_E f170 45 λE=>?_;refine s_vn [] 0 ⟨[(0,vc (tl qB dd a1))],[]⟩ (q_sq ?_);refine q_jn (qG1 a1) (λp=>GI a1 p=some r) ?_ ?_
 ·rintro x5 hm;refine q_cq hm (λhm=>?_) (λhm=>?_)
  ·refine s_vn [] 0 ⟨[(2,vi 0)],[]⟩ ?_;obtain rfl:=oi hm;exact q_rt q_rm
  ·refine q_sk (s_vv [] 0 [14] [(3,vi 0)] ?_);refine q_sq (s_va 0 [(15,vc (tl qB dd a1)),(16,vi (a1.length:Int)),(17,vi 0)] ?_);obtain⟨o14,h15,hm⟩:=qE hm;refine zU (nd f170 244) 0 (by kernel_rfl) FUEL qAn o14 (q_hl (NP a1 0 0) (qE6 E a1 FUEL 0 0 o14 h15)) (s_vn [] 0 ⟨[(2,vi o14)],[]⟩ ?_);obtain rfl:=oi hm;exact q_rt q_rm
 ·rcases bif_c hm with⟨b2,hm⟩|⟨b2,hm⟩
  ·exact q_vv [qf 3 b2] 0 [] [(14,vb true)] (q_J (true) hm)
  ·obtain⟨v3,h4,hm⟩:=qE hm;exact q_vv [qf 3 b2,qk 5 [10,11] 0 ⟨[(10,vb false),(11,vc (tl qB dd a1))],[]⟩ (BS a1 v3 h4)] 0 [] [(14,vb (!v3))] (q_J (!v3) hm)
def qK7 (r:Int):V:=vi r
def qJt (r:Int):List (Nat×(Nat×O)):=[]
theorem GE (a1:List qA) (r:Int) (hm:TU a1=some r):CtX Tryz.prog globs 119 0 0 [.one (tl qB dd a1)] [] (qK7 r) (qJt r):=by
 unfold TU at hm;refine q_E f119 19 λE=>?_;refine s_vn [] 0 ⟨[(0,vc (tl qB dd a1))],[]⟩ (q_sq ?_);refine q_bk 0 (s_va 0 [(3,vb (decide ((a1.length:Int)<3)))] ?_);refine q_cq hm (λhm=>?_) (λhm=>?_)
 ·refine s_vn [] 0 ⟨[(2,vi 3)],[]⟩ ?_;obtain rfl:=oi hm;exact q_rt q_rm
 ·refine s_vv [] 0 [3] [(7,vb (decide ((a1.length:Int)>32)))] (q_cq hm (λhm=>?_) (λhm=>?_))
  ·refine s_vn [] 0 ⟨[(2,vi 4)],[]⟩ ?_;obtain rfl:=oi hm;exact q_rt q_rm
  ·obtain⟨v4,h5,hm⟩:=qE hm;refine s_vv [qc 1 [12] 0 (BS a1 v4 h5)] 0 [7] [(11,vb (!v4))] (q_cq hm (λhm=>?_) (λhm=>?_))
   ·refine s_vn [] 0 ⟨[(2,vi 9)],[]⟩ ?_;obtain rfl:=oi hm;exact q_rt q_rm
   ·obtain⟨v7,h8,hm⟩:=qE hm;refine s_vn [qc 1 [16] 0 (qI8 a1 v7 h8)] 0 ⟨[(15,vb (v7==0))],[]⟩ (q_cq hm (λhm=>?_) (λhm=>?_))
    ·refine s_vn [] 0 ⟨[(2,vi 19)],[]⟩ ?_;obtain rfl:=oi hm;exact q_rt q_rm
    ·refine q_sk (s_vn [] 0 ⟨[(2,vi 0)],[]⟩ ?_);obtain rfl:=oi hm;exact q_rt q_rm
end Saw
end Go.SL
