import Derived.Test.YthbamnkheinbgaaGreatDoorSBase
import Derived.Test.YthbamnkheinbgaaGreatDoorSFa1
import Derived.Test.YthbamnkheinbgaaGreatDoorYa6
import Derived.Test.YthbamnkheinbgaaGreatDoorPCmp
import Derived.Ground.SlsfProg
set_option linter.unusedVariables false
set_option linter.unusedSimpArgs false
namespace Go.SL
namespace Saw
open Go.Proofs Go.Proofs.Tryz
set_option maxHeartbeats 4000000
set_option maxRecDepth 100000
def qG0 (r:Int):V:=vi r
def qHQ (r:Int):List (Nat×(Nat×O)):=[]
def VL (a1:List qA) (x7:Int) (x8:Int):St:=
 ⟨[(0,vc (tl qB dd a1)),(3,vi x7),(15,vc (tl qB dd a1)),(16,vi (a1.length:Int)),(17,vi x8)],[]⟩
def SV (x13:Int):St:=
 ⟨[(3,vi x13)],[]⟩
def qEf (a1:List qA) (x5:Bool):St:=
 ⟨[(0,vc (tl qB dd a1)),(14,vb x5)],[]⟩
theorem qCv (E:Env 0) (a1:List qA):∀(n:Nat) (x7:Int) (x8:Int) (res:Int),NY a1 n x7 x8=some res->HL (kx E 45 0) (nd f170 244) (zF 0 SV res) n (VL a1 x7 x8):=by
 intro n
 induction n with
 |zero=>
  intro x7 x8 res hm;cases hm
 |succ n ih=>
  intro x7 x8 res hm;refine qR (s_va 0 [(18,vb (decide (x8<(a1.length:Int))))] ?_);refine q_sq (q_cq hm (λhm=>?_) (λhm=>?_))
  ·refine q_sk (q_sq ?_);refine q_bk 1 ?_;obtain⟨g10,hm⟩:=qJ hm;refine s_vu [qi 1 g10] 0 [18] [(4,vi x8),(5,vp 0 0)] [] [(0,bx 71 (qB (a1.getD x8.toNat dd)))] ?_;obtain⟨g11,hm⟩:=qJ hm;obtain⟨g12,hm⟩:=qJ hm;refine s_vu [qd 5 dN (LA g11),qi 6 g12] 1 [4] [(6,vp 1 0)] [] [(1,bx 71 (qB (a1.getD (Int.tmod (w64 (x8+1)) (a1.length:Int)).toNat dd)))] (q_vu [] 2 [3,5,6] [(3,vi (w64 (x7+(w64 ((w64 (((a1.getD x8.toNat dd).X)*((a1.getD (Int.tmod (w64 (x8+1)) (a1.length:Int)).toNat dd).Y)))-(w64 (((a1.getD (Int.tmod (w64 (x8+1)) (a1.length:Int)).toNat dd).X)*((a1.getD x8.toNat dd).Y))))))))] [0,1] [] ?_)
   exact q_vv [] 2 [17] [(17,vi (w64 (x8+1)))] (q_hl (VL a1 (w64 (x7+(w64 ((w64 (((a1.getD x8.toNat dd).X)*((a1.getD (Int.tmod (w64 (x8+1)) (a1.length:Int)).toNat dd).Y)))-(w64 (((a1.getD (Int.tmod (w64 (x8+1)) (a1.length:Int)).toNat dd).X)*((a1.getD x8.toNat dd).Y))))))) (w64 (x8+1))) (ih (w64 (x7+(w64 ((w64 (((a1.getD x8.toNat dd).X)*((a1.getD (Int.tmod (w64 (x8+1)) (a1.length:Int)).toNat dd).Y)))-(w64 (((a1.getD (Int.tmod (w64 (x8+1)) (a1.length:Int)).toNat dd).X)*((a1.getD x8.toNat dd).Y))))))) (w64 (x8+1)) _ hm))
  ·refine q_ex 0 ?_;obtain rfl:=oi hm;exact q_l0
theorem qF3 (a1:List qA) (r:Int) (hm:CD a1=some r):CtX Tryz.prog globs 170 0 0 [.one (tl qB dd a1)] [] (qG0 r) (qHQ r):=by
 unfold CD at hm;refine q_E f170 45 λE=>?_;refine s_vn [] 0 ⟨[(0,vc (tl qB dd a1))],[]⟩ (q_sq ?_);refine q_jn (qEf a1) (λp=>FK a1 p=some r) ?_ ?_
 ·rintro x5 hm;refine q_cq hm (λhm=>?_) (λhm=>?_)
  ·refine s_vn [] 0 ⟨[(2,vi 0)],[]⟩ ?_;obtain rfl:=oi hm;exact q_rt q_rm
  ·refine q_sk (s_vv [] 0 [14] [(3,vi 0)] ?_);refine q_sq (s_va 0 [(15,vc (tl qB dd a1)),(16,vi (a1.length:Int)),(17,vi 0)] ?_);obtain⟨o14,h15,hm⟩:=qE hm;refine qZ (nd f170 244) 0 (by kernel_rfl) FUEL SV o14 (q_hl (VL a1 0 0) (qCv E a1 FUEL 0 0 o14 h15)) (s_vn [] 0 ⟨[(2,vi o14)],[]⟩ ?_);obtain rfl:=oi hm;exact q_rt q_rm
 ·rcases bif_c hm with⟨b2,hm⟩|⟨b2,hm⟩
  ·exact q_vv [qf 3 b2] 0 [] [(14,vb true)] (q_J (true) hm)
  ·obtain⟨v3,h4,hm⟩:=qE hm;exact q_vv [qf 3 b2,qk 5 [10,11] 0 ⟨[(10,vb false),(11,vc (tl qB dd a1))],[]⟩ (GH a1 v3 h4)] 0 [] [(14,vb (!v3))] (q_J (!v3) hm)
def qIc (r:Int):V:=vi r
def qH6 (r:Int):List (Nat×(Nat×O)):=[]
theorem qGc (a1:List qA) (r:Int) (hm:CH a1=some r):CtX Tryz.prog globs 119 0 0 [.one (tl qB dd a1)] [] (qIc r) (qH6 r):=by
 unfold CH at hm;refine q_E f119 19 λE=>?_;refine s_vn [] 0 ⟨[(0,vc (tl qB dd a1))],[]⟩ (q_sq ?_);refine q_bk 0 (s_va 0 [(3,vb (decide ((a1.length:Int)<3)))] ?_);refine q_cq hm (λhm=>?_) (λhm=>?_)
 ·refine s_vn [] 0 ⟨[(2,vi 3)],[]⟩ ?_;obtain rfl:=oi hm;exact q_rt q_rm
 ·refine s_vv [] 0 [3] [(7,vb (decide ((a1.length:Int)>32)))] (q_cq hm (λhm=>?_) (λhm=>?_))
  ·refine s_vn [] 0 ⟨[(2,vi 4)],[]⟩ ?_;obtain rfl:=oi hm;exact q_rt q_rm
  ·obtain⟨v4,h5,hm⟩:=qE hm;refine s_vv [qc 1 [12] 0 (GH a1 v4 h5)] 0 [7] [(11,vb (!v4))] (q_cq hm (λhm=>?_) (λhm=>?_))
   ·refine s_vn [] 0 ⟨[(2,vi 9)],[]⟩ ?_;obtain rfl:=oi hm;exact q_rt q_rm
   ·obtain⟨v7,h8,hm⟩:=qE hm;refine s_vn [qc 1 [16] 0 (qF3 a1 v7 h8)] 0 ⟨[(15,vb (v7==0))],[]⟩ (q_cq hm (λhm=>?_) (λhm=>?_))
    ·refine s_vn [] 0 ⟨[(2,vi 19)],[]⟩ ?_;obtain rfl:=oi hm;exact q_rt q_rm
    ·refine q_sk (s_vn [] 0 ⟨[(2,vi 0)],[]⟩ ?_);obtain rfl:=oi hm;exact q_rt q_rm
def qBP (r:Span):V:=va (qL r)
def qB2 (r:Span):List (Nat×(Nat×O)):=[]
theorem qA3 (a1:Int) (a2:Int) (r:Span) (hm:VC a1 a2=some r):CtX Tryz.prog globs 148 0 0 [.one (ci a1),.one (ci a2)] [] (qBP r) (qB2 r):=by
 unfold VC at hm;refine q_E f148 10 λE=>?_;refine s_vn [] 0 ⟨[(0,vi a1),(1,vi a2),(4,vp 0 0)],[(0,bx 64 [ci 0,ci 0])]⟩ (s_vu [] 1 [0,1] [] [0] [(0,bx 64 [ci (w64 (10*a1)),ci (w64 (10*a2))])] ?_);obtain rfl:=oi hm;exact q_rt q_rm
open Go.Proofs Go.Proofs.Tryz
def IQ (r:List qA):V:=vo 0 0 2 r.length
def II (r:List qA):List (Nat×(Nat×O)):=[(0,ro 0 71 2 r.length (rf qB r))]
theorem AK (a1:List qA) (r:List qA) (hm:XB a1=some r):CtX Tryz.prog globs 124 0 0 [.one (tl qB dd a1)] [] (IQ r) (II r):=by
 unfold XB at hm;obtain⟨g1,hm⟩:=qJ hm;obtain rfl:=kH hm;refine LQ (fn:=f124) (c:=nd f124 1) (nt:=8) (by kernel_rfl) (by kernel_rfl) (by kernel_rfl) (by kernel_rfl) λE=>?_;refine R_sq f124 2 3 (by kernel_rfl) (R_rn f124 2 0 [] [] 0 ⟨[(0,vc (tl qB dd a1))],[]⟩ o0 (by kernel_rfl) (by kernel_rfl) ?_);refine R_sq f124 6 7 (by kernel_rfl) (R_sq f124 12 13 (by kernel_rfl) ?_);refine qGP f124 12 1 1 ⟨[(0,vc (tl qB dd a1)),(3,vc (tl qB dd a1))],[]⟩ 52 52 71 4 (.tmp 3) a1.length (rf qB a1) (by kernel_rfl) (by kernel_rfl) (by kernel_rfl) (λb hb=>?_)
 refine R_cn f124 (.tmp 4) 26 27 (by kernel_rfl) b (by kernel_rfl) (λb6=>?_) (λb6=>?_)
 ·obtain rfl:a1=[]:=ut (hb b6);refine R_sq f124 52 53 (by kernel_rfl) (R_rn f124 52 2 [] [.own 2 0 71 2 (rf qB [])] 0 ⟨[(2,vo 0 0 2 0)],[(0,ro 0 71 2 0 (rf qB []))]⟩ o0 (by kernel_rfl) (by kernel_rfl) ?_);exact LC (by kernel_rfl) (GG (by kernel_rfl) (by kernel_rfl))
 ·refine qBi (by kernel_rfl) (R_sq f124 14 15 (by kernel_rfl) ?_);refine R_rn f124 14 3 [(0,drw 0 0 (rf qB [])),(2,drw 0 1 (rf qB ([]++a1)))] [.len 0 a1.length] 0 ⟨[(2,vo 0 1 2 a1.length)],[(0,ro 1 71 2 a1.length (rf qB ([]++a1)))]⟩ (o1 (And.intro (And.intro (litP qB dd 2 (λ_=>rfl) ([]:List qA) 0 rfl) (apP qB dd ([]:List qA) a1 0 a1.length 2 16 True trivial rfl rfl (λ_=>rfl) (by have:=zP g1;rw[ky];exact this))) (And.intro (And.intro (ky a1.length) (ky a1.length)) (ky a1.length)))) (by kernel_rfl) (by kernel_rfl) (LC (by kernel_rfl) ?_);exact GG (by kernel_rfl) (by kernel_rfl)
def qEa (r:Bool):V:=vb r
def qDZ (r:Bool):List (Nat×(Nat×O)):=[]
theorem FN (a1:Int) (r:Bool) (hm:YK a1=some r):CtX Tryz.prog (markG::globs) 173 0 0 [.one (ci a1)] [] (qEa r) (qDZ r):=by
 unfold YK at hm;refine q_T f173 6 λE=>?_;refine s_vn [] 0 ⟨[(0,vi a1)],[]⟩ (s_vn [] 0 ⟨[(2,vb (a1 !=a1))],[]⟩ ?_);obtain rfl:=oi hm;exact q_rt q_rm
def qCf (r:Int):V:=vi r
def qCg (r:Int):List (Nat×(Nat×O)):=[]
theorem GM (a1:Int) (a2:Int) (r:Int) (hm:yN a1 a2=some r):CtX Tryz.prog (markG::globs) 128 0 0 [.one (ci a1),.one (ci a2)] [] (qCf r) (qCg r):=by
 unfold yN at hm;refine q_T f128 20 λE=>?_;refine s_vn [] 0 ⟨[(0,vi a1),(1,vi a2)],[]⟩ ?_;obtain⟨v3,h4,hm⟩:=qE hm;refine s_vv [qc 1 [7] 0 (FN a1 v3 h4)] 0 [] [(5,vb v3)] ?_;obtain⟨v5,h6,hm⟩:=qE hm;refine s_vv [qc 1 [9] 0 (FN a2 v5 h6)] 0 [] [(6,vb v5)] (q_sq ?_);refine s_vv [] 0 [5] [(11,vb v3)] (q_cq hm (λhm=>?_) (λhm=>?_))
 ·refine q_sq (s_vn [] 0 ⟨[(12,vb v5)],[]⟩ ?_);refine q_cq hm (λhm=>?_) (λhm=>?_)
  ·refine s_vn [] 0 ⟨[(4,vi 0)],[]⟩ ?_;obtain rfl:=oi hm;exact q_rt q_rm
  ·refine q_sk (s_vn [] 0 ⟨[(4,vi (-1))],[]⟩ ?_);obtain rfl:=oi hm;exact q_rt q_rm
 ·refine q_sk (q_sq ?_);refine s_vv [] 0 [6,11] [(13,vb v5)] (q_cq hm (λhm=>?_) (λhm=>?_))
  ·refine s_vn [] 0 ⟨[(4,vi 1)],[]⟩ ?_;obtain rfl:=oi hm;exact q_rt q_rm
  ·refine q_sk (q_sq ?_);refine s_vv [] 0 [13] [(16,vb (decide (a1<a2)))] (q_cq hm (λhm=>?_) (λhm=>?_))
   ·refine s_vn [] 0 ⟨[(4,vi (-1))],[]⟩ ?_;obtain rfl:=oi hm;exact q_rt q_rm
   ·refine q_sk (q_sq ?_);refine s_vn [] 0 ⟨[(19,vb (decide (a1>a2)))],[]⟩ (q_cq hm (λhm=>?_) (λhm=>?_))
    ·refine s_vn [] 0 ⟨[(4,vi 1)],[]⟩ ?_;obtain rfl:=oi hm;exact q_rt q_rm
    ·refine q_sk (s_vn [] 0 ⟨[(4,vi 0)],[]⟩ ?_);obtain rfl:=oi hm;exact q_rt q_rm
open Go.Proofs Go.Proofs.Tryz
def RH (r:Int):V:=vi r
def ZE (r:Int):List (Nat×(Nat×O)):=[]
theorem qGy (r:Int):yM (ZE r):=by
 intro i k o h;unfold ZE at h;cases h
def TT (a1:List Int) (x2:Int):St:=
 ⟨[(3,vi 0),(6,vc (tl qN dd a1)),(7,vi (a1.length:Int)),(8,vi x2)],[]⟩
def MJ :St:=
 ⟨[(3,vi 0)],[]⟩
theorem qA1 (E:Env 0) (a1:List Int):∀(n:Nat) (x2:Int) (res:Int⊕Unit),QK a1 n x2=some res->HL (kt E 18 0) (nd f127 116) (wF 0 (λo=>MJ) (λv st=>RetQ Tryz.prog f127 (RH v) (ZE v) .ret st) res) n (TT a1 x2):=by
 intro n
 induction n with
 |zero=>
  intro x2 res hm;cases hm
 |succ n ih=>
  intro x2 res hm;refine qR (s_va 0 [(9,vb (decide (x2<(a1.length:Int))))] ?_);refine q_sq (q_cq hm (λhm=>?_) (λhm=>?_))
  ·refine q_sk (q_sq ?_);refine q_bk 1 ?_;obtain⟨g4,hm⟩:=qJ hm;refine s_vv [qi 0 g4] 0 [9] [(5,vi (a1.getD x2.toNat dd))] (s_va 0 [(14,vb ((a1.getD x2.toNat dd) !=0))] ?_);refine q_cq hm (λhm=>?_) (λhm=>?_)
   ·refine s_vn [] 0 ⟨[(2,vi (a1.getD x2.toNat dd))],[]⟩ ?_;obtain rfl:=oi hm;refine q_rt (zC (a1.getD x2.toNat dd) ?_);exact q_rm
   ·refine q_sk (q_vv [] 0 [5,8,14] [(8,vi (w64 (x2+1)))] ?_);exact q_hl (TT a1 (w64 (x2+1))) (ih (w64 (x2+1)) _ hm)
  ·refine q_ex 0 ?_;obtain rfl:=oi hm;exact q_l1 ()
theorem qDD (a1:List Int) (r:Int) (hm:PU a1=some r):CtX Tryz.prog (markG::globs) 127 0 0 [.one (tl qN dd a1)] [] (RH r) (ZE r):=by
 unfold PU at hm;refine q_T f127 18 λE=>?_;refine s_vn [] 0 ⟨[(0,vc (tl qN dd a1))],[]⟩ (s_va 0 [(3,vi 0)] ?_);refine q_sq (s_vv [] 0 [0] [(6,vc (tl qN dd a1)),(7,vi (a1.length:Int)),(8,vi 0)] ?_);obtain⟨u8,h7,hm⟩:=qE hm;refine zN (nd f127 116) 0 (by kernel_rfl) FUEL (λo=>MJ) (λv st=>RetQ Tryz.prog f127 (RH v) (ZE v) .ret st) u8 (q_hl (TT a1 0) (qA1 E a1 FUEL 0 u8 h7)) ?_ ?_
 ·rintro v9 rfl st hr;obtain rfl:=oi hm;exact hr
 ·rintro o6 rfl;replace hm:_=some r:=hm;refine s_vn [] 0 ⟨[(2,vi 0)],[]⟩ ?_;obtain rfl:=oi hm;exact q_rt q_rm
def qGp (r:Int):V:=vi r
def qGr (r:Int):List (Nat×(Nat×O)):=[]
theorem qEe (a1:qA) (a2:qA) (r:Int) (hm:poly_Hull_1 a1 a2=some r):CtX Tryz.prog (markG::globs) 126 0 0 [.agg (qB a1),.agg (qB a2)] [] (qGp r) (qGr r):=by
 unfold poly_Hull_1 at hm;refine q_T f126 17 λE=>?_;refine s_vn [] 0 ⟨[(2,vp 0 0),(3,vp 1 0)],[(0,bx 71 (qB a1)),(1,bx 71 (qB a2))]⟩ ?_;obtain⟨v3,h4,hm⟩:=qE hm;obtain⟨v5,h6,hm⟩:=qE hm;obtain⟨v7,h8,hm⟩:=qE hm
 refine s_dn [qc 4 [6,8] 2 (GM a1.X a2.X v3 h4),qc 9 [11,13] 2 (GM a1.Y a2.Y v5 h6),qd 10 (drw 2 0 (rf qN [v3,v5])) (litP qN dd 1 (λ_=>rfl) ([v3,v5]:List Int) 2 rfl),qd 11 (dex (cen [] [] 3 0 (RH v7) (ZE v7) [15] [2])) (zJ (K:=(kt E 17 0)) (xs':=[.one (.lst 2 (rf qN [v3,v5]))]) (b:=false) ⟨[(15,vo 2 0 1 2)],[(2,ro 0 3 1 2 (rf qN [v3,v5]))]⟩ (opAt (rg f126 6) 11) [] [] 3 (o1 (kg 2)) (by simp only[tl,rf,show([v3,v5]:List Int).length=2 from rfl]) (qDD ([v3,v5]:List Int) v7 h8) (.inr ⟨(by kernel_rfl),qGy v7⟩) (by kernel_rfl))] [0,1,0,4,15,0,32,0,128,511,1023,2047,4095] 2 ⟨[(4,vi v7)],[]⟩ ?_
 obtain rfl:=oi hm;exact q_rt q_rm
open Go.Proofs
def KM (a1:List qA) (r:List qA):V:= .undef
def XY (a1:List qA) (r:List qA):List (Nat×(Nat×O)):=[(0,ro 0 71 2 r.length (rf qB r))]
theorem lfB {α:Type} {o:Option α} {a b:α} (h:o=some a) (e:a=b:=by kernel_rfl):o=some b:=h.trans (congrArg some e)
def slices_SortFunc_SPoint_lay_ren :Go.Shelf.Ren:=⟨fun |6=>125|15=>172|14=>171|28=>194|29=>195|20=>186|21=>187|22=>188|23=>189|24=>190|25=>191|26=>192|27=>193|46=>199|47=>200|48=>201|49=>202|50=>203|57=>206|n=>n,fun |22=>52|24=>71|25=>151|3=>3|39=>168|0=>0|53=>206|55=>126|4=>4|46=>199|45=>198|50=>203|5=>5|9=>9|66=>207|70=>211|76=>214|77=>55|n=>n,fun n=>n⟩
theorem slices_SortFunc_SPoint_lay : Go.Proofs.SlLaysF0.n6 Tryz.prog slices_SortFunc_SPoint_lay_ren :={mixed:=by kernel_rfl,f6:=⟨Tryz.f125.name,by decide,lfB Tryz.func125⟩,f14:=⟨Tryz.f171.name,by decide,lfB Tryz.func171⟩,f15:=lfB Tryz.func172,f20:=⟨Tryz.f186.name,by decide,lfB Tryz.func186⟩,f21:=⟨Tryz.f187.name,by decide,lfB Tryz.func187⟩,f22:=⟨Tryz.f188.name,by decide,lfB Tryz.func188⟩,f23:=⟨Tryz.f189.name,by decide,lfB Tryz.func189⟩,f24:=⟨Tryz.f190.name,by decide,lfB Tryz.func190⟩,f25:=⟨Tryz.f191.name,by decide,lfB Tryz.func191⟩,f26:=⟨Tryz.f192.name,by decide,lfB Tryz.func192⟩,f27:=⟨Tryz.f193.name,by decide,lfB Tryz.func193⟩,f28:=lfB Tryz.func194,f29:=lfB Tryz.func195,f46:=⟨Tryz.f199.name,by decide,lfB Tryz.func199⟩,f47:=lfB Tryz.func200,f48:=lfB Tryz.func201,f49:=⟨Tryz.f202.name,by decide,lfB Tryz.func202⟩,f50:=⟨Tryz.f203.name,by decide,lfB Tryz.func203⟩,f57:=⟨Tryz.f206.name,by decide,lfB Tryz.func206⟩,t0:=Tryz.underlying0,a0:=Tryz.isAgg0,z0:=Tryz.sizeOf0,v0:=Tryz.zeroValue0,t3:=Tryz.underlying3,a3:=Tryz.isAgg3,z3:=Tryz.sizeOf3,v3:=Tryz.zeroValue3,t4:=Tryz.underlying4,a4:=Tryz.isAgg4,z4:=Tryz.sizeOf4,v4:=Tryz.zeroValue4,t5:=Tryz.underlying5,a5:=Tryz.isAgg5,z5:=Tryz.sizeOf5,v5:=Tryz.zeroValue5,t9:=Tryz.underlying9,a9:=Tryz.isAgg9,z9:=Tryz.sizeOf9,v9:=Tryz.zeroValue9,t22:=Tryz.underlying52,a22:=Tryz.isAgg52,z22:=Tryz.sizeOf52,v22:=Tryz.zeroValue52,t25:=Tryz.underlying151,a25:=Tryz.isAgg151,z25:=Tryz.sizeOf151,v25:=Tryz.zeroValue151,t39:=Tryz.underlying168,a39:=Tryz.isAgg168,z39:=Tryz.sizeOf168,v39:=Tryz.zeroValue168,t45:=Tryz.underlying198,a45:=Tryz.isAgg198,z45:=Tryz.sizeOf198,v45:=Tryz.zeroValue198,t46:=Tryz.underlying199,a46:=Tryz.isAgg199,z46:=Tryz.sizeOf199,v46:=Tryz.zeroValue199,t50:=Tryz.underlying203,a50:=Tryz.isAgg203,z50:=Tryz.sizeOf203,v50:=Tryz.zeroValue203,t53:=Tryz.underlying206,a53:=Tryz.isAgg206,z53:=Tryz.sizeOf206,v53:=Tryz.zeroValue206,t55:=Tryz.underlying126,a55:=Tryz.isAgg126,z55:=Tryz.sizeOf126,v55:=Tryz.zeroValue126,t66:=Tryz.underlying207,a66:=Tryz.isAgg207,z66:=Tryz.sizeOf207,v66:=Tryz.zeroValue207,t70:=Tryz.underlying211,a70:=Tryz.isAgg211,z70:=Tryz.sizeOf211,v70:=Tryz.zeroValue211,t76:=Tryz.underlying214,a76:=Tryz.isAgg214,z76:=Tryz.sizeOf214,v76:=Tryz.zeroValue214,t77:=Tryz.underlying55,a77:=Tryz.isAgg55,z77:=Tryz.sizeOf55,v77:=Tryz.zeroValue55}
def qD7 (p:qA):List Value:=[.int .i64 p.X,.int .i64 p.Y]
theorem slices_SortFunc_SPoint_swo :Go.Sort.SWO (ltOf cmpPt) where
 irrefl x:=by unfold ltOf cmpPt;simp
 trans x y z h1 h2:=by
  rw[ltPt] at*;simp only[decide_eq_true_eq] at*;omega
 ntrans x y z h1 h2:=by
  rw[ltPt] at*;simp only[decide_eq_false_iff_not] at*;omega
theorem slices_SortFunc_SPoint_anti (x y:qA) (h1:ltOf cmpPt x y=false) (h2:ltOf cmpPt y x=false):x=y:=by
 rw[ltPt] at*;simp only[decide_eq_false_iff_not] at*;cases x;cases y;simp only[qA.mk.injEq] at*;omega
theorem LD (a1:List qA) (r:List qA) (hm:WA a1=some r):CtX Tryz.prog globs 125 1 1 [.one (.own 0 0 2 a1.length),.one (.fn 126 [])] [(0,ro 0 71 2 a1.length (rf qB a1))] (KM a1 r) (XY a1 r):=by
 unfold WA at hm;obtain⟨g1,hm⟩:=qJ hm;obtain rfl:=kH hm;have hs:=qJY g1;have eg:∀args w,(callFunc 126 args).run Tryz.prog w= .ok (.enter 126 args) w:=enters_of Tryz.func126 (by kernel_rfl) rfl;exact qK4 (gl:=globs) slices_SortFunc_SPoint_lay 2 Tryz.isAgg71 Tryz.sizeOf71 qD7 (λ_=>rfl) (λx v hv=>by simp[qD7] at hv;rcases hv with rfl|rfl<;>rfl) poly_Hull_1 cmpPt poly_Hull_1_eq slices_SortFunc_SPoint_swo slices_SortFunc_SPoint_anti 126 71 eg (λx y=>qEe x y _ (poly_Hull_1_eq x y)) a1 hs.1 hs.2
def jY (a1:List qA) (r:(List qA)×(List qA)):V:=vo 0 0 2 r.2.length
def jZ (a1:List qA) (r:(List qA)×(List qA)):List (Nat×(Nat×O)):=[(0,ro 0 71 2 r.2.length (rf qB r.2))]
def JZ (l3:List qA) (x4:Int) (x12:Int) (l19:List qA) (l19n:Nat) (x20:Int):St:=
 ⟨[(0,vo 0 0 2 l19n),(3,vi x20),(4,vc (.sub 0 0 2 x4.toNat (l3.length-x4.toNat))),(5,vi x12)],[(0,ro 0 71 2 l19n (rf qB l19))]⟩
def yS (l3:List qA) (x4:Int) (l10:List qA) (l10n:Nat) (x11:Int) (x12:Int):St:=
 ⟨[(0,vo 0 0 2 l10n),(3,vi x11),(4,vc (.sub 0 0 2 x4.toNat (l3.length-x4.toNat))),(5,vi x12)],[(0,ro 0 71 2 l10n (rf qB l10))]⟩
def JT (l21:List qA) (x22:Int):St:=
 ⟨[(0,vo 0 0 2 l21.length),(3,vi x22)],[(0,ro 0 71 2 l21.length (rf qB l21))]⟩
def yR (l3:List qA) (l3n:Nat) (x4:Int):St:=
 ⟨[(0,vo 0 0 2 l3n),(3,vi x4)],[(0,ro 0 71 2 l3n (rf qB l3))]⟩
def YL (l27:List qA):St:=
 ⟨[(0,vo 0 0 2 l27.length)],[(0,ro 0 71 2 l27.length (rf qB l27))]⟩
theorem BV (E:Env 1) (l3:List qA) (x4:Int):∀(n:Nat) (l10:List qA) (l10n:Nat) (x11:Int) (x12:Int) (res:(List qA)×Int),l10.length=l10n->wJ l3 x4 n l10 x11 x12=some res->HL (kx E 61 1) (nd f129 119380) (zF 2 (λo=>JT o.1 o.2) res) n (yS l3 x4 l10 l10n x11 x12):=by
 intro n
 induction n with
 |zero=>
  intro l10 l10n x11 x12 res hl0 hm;cases hm
 |succ n ih=>
  intro l10 l10n x11 x12 res hl0 hm;subst hl0;refine qR (q_sq ?_);refine s_va 1 [(32,vb (decide (x12<(((l3.length-x4.toNat):Nat):Int))))] (q_cq hm (λhm=>?_) (λhm=>?_))
  ·refine q_sk (q_jn (ι:=(List qA)×Nat×Int) (λp=>JZ l3 x4 x12 p.1 p.2.1 p.2.2) (λp=>p.1.length=p.2.1/\QW x12 (wJ l3 x4 n) p.1 p.2.2=some res) ?_ ?_)
   ·rintro⟨l19,l19n,x20⟩ ⟨el19,hm⟩;replace el19:l19.length=l19n:=el19;subst el19;show H _ (JZ l3 x4 x12 l19 l19.length x20) _ _;exact q_vv [] 1 [5] [(5,vi (w64 (x12+1)))] (q_hl (yS l3 x4 l19 l19.length x20 (w64 (x12+1))) (ih l19 l19.length x20 (w64 (x12+1)) _ rfl hm))
   ·refine q_bk 3 ?_;obtain⟨g14,hm⟩:=qJ hm;obtain⟨g15,hm⟩:=qJ hm;obtain⟨g16,hm⟩:=qJ hm;refine s_du [qi 2 g14,qd 3 dN (kC (Nat.add_lt_add_left (qU (zA g14)) x4.toNat) (kM g15)),qi 7 g16,qd 8 dN (kC (Nat.add_lt_add_left (qU (zA g16)) x4.toNat) (kM g15))] [0,0,3,7,0,0,32,112,240,511] 1 [32] [(44,vb (!((((l10.getD (x4.toNat+x12.toNat) dd).X)==((l10.getD (x4.toNat+((w64 (x12-1)).toNat)) dd).X))&&((((l10.getD (x4.toNat+x12.toNat) dd).Y)==((l10.getD (x4.toNat+((w64 (x12-1)).toNat)) dd).Y))&&true))))] [] [] (q_cq hm (λhm=>?_) (λhm=>?_))
    ·obtain⟨g18,hm⟩:=qJ hm;refine s_vu [qi 4 g14,qd 5 dN (kC (Nat.add_lt_add_left (qU (zA g14)) x4.toNat) (kM g15)),qi 6 g18,qd 7 (drw 0 0 (rf qB (l10.set x11.toNat (l10.getD (x4.toNat+x12.toNat) dd)))) (stP qB dd (l10.getD (x4.toNat+x12.toNat) dd) l10 l10.length x11.toNat 0 [ci ((l10.getD (x4.toNat+x12.toNat) dd).X),ci ((l10.getD (x4.toNat+x12.toNat) dd).Y)] rfl (qU (zA g18)) rfl)] 1 [44] [] [0] [(0,ro 0 71 2 l10.length (rf qB (l10.set x11.toNat (l10.getD (x4.toNat+x12.toNat) dd))))] (q_vv [] 1 [3] [(3,vi (w64 (x11+1)))] ?_)
     exact q_J ((l10.set x11.toNat (l10.getD (x4.toNat+x12.toNat) dd)),l10.length,w64 (x11+1)) ⟨(jP rfl),hm⟩
    ·exact q_sk (q_J (l10,l10.length,x11) ⟨rfl,hm⟩)
  ·refine q_ex 2 ?_;obtain rfl:=oi hm;exact q_l0
theorem BO (E:Env 1) (a1:List qA):∀(n:Nat) (l3:List qA) (l3n:Nat) (x4:Int) (res:((List qA)×(List qA))⊕(List qA)),l3.length=l3n->QV n l3 x4=some res->HL (kx E 61 1) (nd f129 116) (wF 0 YL (λv st=>RetQ Tryz.prog f129 (jY a1 v) (jZ a1 v) .ret st) res) n (yR l3 l3n x4):=by
 intro n
 induction n with
 |zero=>
  intro l3 l3n x4 res hl0 hm;cases hm
 |succ n ih=>
  intro l3 l3n x4 res hl0 hm;subst hl0;refine qR (q_sq ?_);refine s_va 1 [(13,vb (decide (x4<(l3.length:Int))))] (q_cq hm (λhm=>?_) (λhm=>?_))
  ·refine q_sk (q_sq ?_);refine q_bk 1 ?_;obtain⟨g6,hm⟩:=qJ hm;obtain⟨g7,hm⟩:=qJ hm;refine s_du [qi 2 g6,qd 3 dN (qU (zA g6)),qi 7 g7,qd 8 dN (qU (zA g7))] [0,0,3,7,0,0,32,112,240,511] 1 [13] [(25,vb ((((l3.getD x4.toNat dd).X)==((l3.getD ((w64 (x4-1)).toNat) dd).X))&&((((l3.getD x4.toNat dd).Y)==((l3.getD ((w64 (x4-1)).toNat) dd).Y))&&true)))] [] [] (q_cq hm (λhm=>?_) (λhm=>?_))
   ·obtain⟨g9,hm⟩:=qJ hm;refine s_vv [qd 2 dN (And.intro (zD g9).1 (zD g9).2.1)] 1 [25] [(4,vc (.sub 0 0 2 x4.toNat (l3.length-x4.toNat)))] (q_sq ?_);refine s_va 1 [(5,vi 1)] ?_;obtain⟨o23,h24,hm⟩:=qE hm;refine qZ (nd f129 119380) 2 (by kernel_rfl) FUEL (λo=>JT o.1 o.2) o23 (q_hl (yS l3 x4 l3 l3.length x4 1) (BV E l3 x4 FUEL l3 l3.length x4 1 o23 rfl h24)) ?_;obtain⟨g25,hm⟩:=qJ hm
    refine s_wu [qd 2 dN (And.intro (zD g25).1 (zD g25).2.1),qd 3 (drw 0 0 (rf qB o23.1)) (show o23.2.toNat+(o23.1.length-o23.2.toNat)<=o23.1.length by have:=(zD g25);omega)] [.row 0 o23.2.toNat (rf qB (o23.1.take o23.2.toNat))] (o1 (tkP qB dd o23.1 o23.2.toNat o23.2.toNat (kg _))) 1 [] [] [0] [(0,ro 0 71 2 o23.2.toNat (rf qB (o23.1.take o23.2.toNat)))] ?_;obtain⟨g26,hm⟩:=qJ hm
    refine s_vv [qd 2 dN (And.intro (zD g26).2.1 (zD g26).2.2)] 1 [0,3] [(2,vo 0 0 2 o23.2.toNat)] (q_fn [.len 0 ((o23.1.take o23.2.toNat).length)] ⟨[(2,vo 0 0 2 ((o23.1.take o23.2.toNat).length))],[(0,ro 0 71 2 ((o23.1.take o23.2.toNat).length) (rf qB (o23.1.take o23.2.toNat)))]⟩ (o1 (And.intro (Eq.symm (show(o23.1.take o23.2.toNat).length=o23.2.toNat from(JI rfl (kV (Nat.le_add_right _ _) (show o23.2.toNat+(o23.1.length-o23.2.toNat)<=o23.1.length by have:=(zD g25);omega))))) (Eq.symm (show(o23.1.take o23.2.toNat).length=o23.2.toNat from(JI rfl (kV (Nat.le_add_right _ _) (show o23.2.toNat+(o23.1.length-o23.2.toNat)<=o23.1.length by have:=(zD g25);omega))))))) ?_)
    obtain rfl:=oi hm;refine q_rt (zC ((o23.1.take o23.2.toNat),(o23.1.take o23.2.toNat)) ?_);exact q_rm
   ·refine q_sk (q_vv [] 1 [3,25] [(3,vi (w64 (x4+1)))] ?_);exact q_hl (yR l3 l3.length (w64 (x4+1))) (ih l3 l3.length (w64 (x4+1)) _ rfl hm)
  ·refine q_ex 0 ?_;obtain rfl:=oi hm;exact q_l1 l3
theorem SD (a1:List qA) (r:(List qA)×(List qA)) (hm:WM a1=some r):CtX Tryz.prog globs 129 1 1 [.one (.own 0 0 2 a1.length)] [(0,ro 0 71 2 a1.length (rf qB a1))] (jY a1 r) (jZ a1 r):=by
 unfold WM at hm;refine q_E f129 61 λE=>?_;refine s_vn [] 1 ⟨[(0,vo 0 0 2 a1.length)],[(0,ro 0 71 2 a1.length (rf qB a1))]⟩ (q_sq ?_);refine s_va 1 [(8,vb (decide ((a1.length:Int)<2)))] (q_cq hm (λhm=>?_) (λhm=>?_))
 ·refine s_vv [] 1 [0,8] [(2,vo 0 0 2 a1.length)] ?_;obtain rfl:=oi hm;exact q_rt q_rm
 ·refine q_sk (q_sq ?_);refine s_vv [] 1 [8] [(3,vi 1)] ?_;obtain⟨u30,h29,hm⟩:=qE hm;refine zN (nd f129 116) 0 (by kernel_rfl) FUEL YL (λv st=>RetQ Tryz.prog f129 (jY a1 v) (jZ a1 v) .ret st) u30 (q_hl (yR a1 a1.length 1) (BO E a1 FUEL a1 a1.length 1 u30 rfl h29)) ?_ ?_
  ·rintro v31 rfl st hr;obtain rfl:=oi hm;exact hr
  ·rintro o28 rfl;replace hm:_=some r:=hm;refine s_vv [] 1 [0] [(2,vo 0 0 2 o28.length)] ?_;obtain rfl:=oi hm;exact q_rt q_rm
open Go.Proofs Go.Proofs.Tryz
def qHa (r:Int):V:=vi r
def qH0 (r:Int):List (Nat×(Nat×O)):=[]
theorem qGC (a1:qA) (a2:qA) (a3:qA) (r:Int) (hm:OX a1 a2 a3=some r):CtX Tryz.prog globs 122 0 0 [.agg (qB a1),.agg (qB a2),.agg (qB a3)] [] (qHa r) (qH0 r):=by
 unfold OX at hm;refine q_E f122 30 λE=>?_;refine s_vn [] 0 ⟨[(3,vp 0 0),(4,vp 1 0),(5,vp 2 0)],[(0,bx 71 (qB a1)),(1,bx 71 (qB a2)),(2,bx 71 (qB a3))]⟩ (s_vn [] 3 ⟨[(6,vi (w64 ((w64 ((w64 (a2.X-a1.X))*(w64 (a3.Y-a1.Y))))-(w64 ((w64 (a3.X-a1.X))*(w64 (a2.Y-a1.Y)))))))],[]⟩ ?_);obtain rfl:=oi hm;exact q_rt q_rm
def MY (r:(List qA)):V:=vo 0 0 2 r.length
def KB (r:(List qA)):List (Nat×(Nat×O)):=[(0,ro 0 71 2 r.length (rf qB r))]
theorem qAL (r:(List qA)):yM (KB r):=by
 intro i k o h;unfold KB at h;rw[look_cons] at h;split at h
 ·cases h;exact λ_ _=>rfl
 ·cases h
def WF (a1:List qA) (x3:Int):St:=
 ⟨[(5,vp 1 0),(6,vc (tl qB dd a1)),(7,vi (a1.length:Int)),(8,vi x3)],[(1,bx 71 (qB (a1.getD x3.toNat dd)))]⟩
def qDT (a1:List qA) (x3:Int) (l6:List qA) (x12:Bool):St:=
 (WF a1 x3).up [] [(3,vo 0 0 2 l6.length),(31,vb x12)] [] [(0,ro 0 71 2 l6.length (rf qB l6))]
def VU (a1:List qA) (x3:Int) (l6:List qA) (l6n:Nat):St:=
 (WF a1 x3).up [] [(3,vo 0 0 2 l6n)] [] [(0,ro 0 71 2 l6n (rf qB l6))]
def AA (a1:List qA) (x3:Int) (l15:List qA):St:=
 (WF a1 x3).up [] [(3,vo 0 0 2 l15.length)] [] [(0,ro 0 71 2 l15.length (rf qB l15))]
def GI (a1:List qA) (l2:List qA) (l2n:Nat) (x3:Int):St:=
 (WF a1 x3).up [5] [(3,vo 0 0 2 l2n)] [1] [(0,ro 0 71 2 l2n (rf qB l2))]
def ST (l19:List qA):St:=
 ⟨[(3,vo 0 0 2 l19.length)],[(0,ro 0 71 2 l19.length (rf qB l19))]⟩
theorem qCU (E:Env 0) (a1:List qA) (x3:Int):∀(n:Nat) (l6:List qA) (l6n:Nat) (res:(List qA)),l6.length=l6n->YI a1 x3 n l6=some res->HL (kx E 47 0) (nd f130 29896) (zF 2 (λo=>AA a1 x3 o) res) n (VU a1 x3 l6 l6n):=by
 intro n
 induction n with
 |zero=>
  intro l6 l6n res hl0 hm;cases hm
 |succ n ih=>
  intro l6 l6n res hl0 hm;subst hl0;refine qR (q_sq ?_);refine q_jn (qDT a1 x3 l6) (λp=>NO l6 (YI a1 x3 n) p=some res) ?_ ?_
  ·rintro x12 hm;refine q_cq hm (λhm=>?_) (λhm=>?_)
   ·refine q_sk (q_bk 3 ?_);obtain⟨g14,hm⟩:=qJ hm
    exact q_wu [qd 4 dN (And.intro (zD g14).2.1 (zD g14).2.2)] [.row 0 ((w64 ((l6.length:Int)-1)).toNat) (rf qB (l6.take ((w64 ((l6.length:Int)-1)).toNat)))] (o1 (tkP qB dd l6 l6.length ((w64 ((l6.length:Int)-1)).toNat) (show(w64 ((l6.length:Int)-1)).toNat<=l6.length by have:=(zD g14);omega))) 2 [3,31] [(3,vo 0 0 2 ((w64 ((l6.length:Int)-1)).toNat))] [0] [(0,ro 0 71 2 ((w64 ((l6.length:Int)-1)).toNat) (rf qB (l6.take ((w64 ((l6.length:Int)-1)).toNat))))] (q_hl (VU a1 x3 (l6.take ((w64 ((l6.length:Int)-1)).toNat)) ((w64 ((l6.length:Int)-1)).toNat)) (ih (l6.take ((w64 ((l6.length:Int)-1)).toNat)) ((w64 ((l6.length:Int)-1)).toNat) _ (JI rfl (show(w64 ((l6.length:Int)-1)).toNat<=l6.length by have:=(zD g14);omega)) hm))
   ·refine q_ex 2 ?_;obtain rfl:=oi hm;exact q_l0
  ·rcases bif_c hm with⟨b7,hm⟩|⟨b7,hm⟩
   ·obtain⟨g8,hm⟩:=qJ hm;obtain⟨g9,hm⟩:=qJ hm;obtain⟨v10,h11,hm⟩:=qE hm
    exact q_du [qf 3 b7,qi 8 g8,qd 9 dN (qU (zA g8)),qi 14 g9,qd 15 dN (qU (zA g9)),qk 17 [15,21,27,28] 2 ⟨[(15,vb true),(21,va [ci ((l6.getD ((w64 ((l6.length:Int)-2)).toNat) dd).X),ci ((l6.getD ((w64 ((l6.length:Int)-2)).toNat) dd).Y)]),(27,va [ci ((l6.getD ((w64 ((l6.length:Int)-1)).toNat) dd).X),ci ((l6.getD ((w64 ((l6.length:Int)-1)).toNat) dd).Y)]),(28,va [ci ((a1.getD x3.toNat dd).X),ci ((a1.getD x3.toNat dd).Y)])],[]⟩ (qGC (l6.getD ((w64 ((l6.length:Int)-2)).toNat) dd) (l6.getD ((w64 ((l6.length:Int)-1)).toNat) dd) (a1.getD x3.toNat dd) v10 h11)] [0,1,3,7,15,15,47,111,255,511,15,15,2063,6159,15375,31759,15,131071,262143,524287] 2 [] [(31,vb (decide (v10<=0)))] [] [] (q_J (decide (v10<=0)) hm)
   ·exact q_du [qf 3 b7] [0,1,3,7,15,15,47,111,255,511,15,15,2063,6159,15375,31759,15,131071,262143,524287] 2 [] [(31,vb false)] [] [] (q_J (false) hm)
theorem qCO (E:Env 0) (a1:List qA):∀(n:Nat) (l2:List qA) (l2n:Nat) (x3:Int) (res:(List qA)),l2.length=l2n->NT a1 n l2 x3=some res->HL (kx E 47 0) (nd f130 116) (zF 0 ST res) n (GI a1 l2 l2n x3):=by
 intro n
 induction n with
 |zero=>
  intro l2 l2n x3 res hl0 hm;cases hm
 |succ n ih=>
  intro l2 l2n x3 res hl0 hm;subst hl0;refine qR (s_va 1 [(9,vb (decide (x3<(a1.length:Int))))] ?_);refine q_sq (q_cq hm (λhm=>?_) (λhm=>?_))
  ·refine q_sk (q_sq ?_);refine q_bk 1 ?_;obtain⟨g5,hm⟩:=qJ hm;refine s_vu [qi 0 g5] 1 [9] [(5,vp 1 0)] [] [(1,bx 71 (qB (a1.getD x3.toNat dd)))] (q_sq ?_);obtain⟨o16,h17,hm⟩:=qE hm;refine qZ (nd f130 29896) 2 (by kernel_rfl) FUEL (λo=>AA a1 x3 o) o16 (q_hl (VU a1 x3 l2 l2.length) (qCU E a1 x3 FUEL l2 l2.length o16 rfl h17)) ?_;obtain⟨g18,hm⟩:=qJ hm
   refine q_vu [qd 2 (drw 2 0 (rf qB [(a1.getD x3.toNat dd)])) (litP qB dd 2 (λ_=>rfl) ([(a1.getD x3.toNat dd)]:List qA) 1 rfl),qd 3 (drw 0 1 (rf qB (o16++[(a1.getD x3.toNat dd)]))) (apP qB dd o16 ([(a1.getD x3.toNat dd)]:List qA) o16.length 1 2 16 (1<=1) (kg _) rfl rfl (λ_=>rfl) (zP g18))] 2 [3,5] [(3,vo 0 1 2 (o16.length+1))] [0,1] [(0,ro 1 71 2 (o16.length+1) (rf qB (o16++[(a1.getD x3.toNat dd)])))] (q_vv [] 3 [8] [(8,vi (w64 (x3+1)))] ?_)
   exact q_hl (GI a1 (o16++[(a1.getD x3.toNat dd)]) (o16.length+1) (w64 (x3+1))) (ih (o16++[(a1.getD x3.toNat dd)]) (o16.length+1) (w64 (x3+1)) _ (zX rfl rfl) hm)
  ·refine q_ex 0 ?_;obtain rfl:=oi hm;exact q_l0
theorem qAk (a1:List qA) (r:(List qA)) (hm:LI a1=some r):CtX Tryz.prog globs 130 0 0 [.one (tl qB dd a1)] [] (MY r) (KB r):=by
 unfold LI at hm;refine q_E f130 47 λE=>?_;refine s_vn [] 0 ⟨[(0,vc (tl qB dd a1))],[]⟩ (s_va 0 [(3,vc (.emp))] ?_);refine q_sq (s_vv [] 0 [0] [(6,vc (tl qB dd a1)),(7,vi (a1.length:Int)),(8,vi 0)] ?_);refine q_fo 3 0 71 2 qB ?_;obtain⟨o20,h21,hm⟩:=qE hm;refine qZ (nd f130 116) 0 (by kernel_rfl) FUEL ST o20 (q_hl (GI a1 ([]:List qA) 0 0) (qCO E a1 FUEL ([]:List qA) 0 0 o20 rfl h21)) ?_;obtain⟨g22,hm⟩:=qJ hm
 refine s_wn [qd 4 dN (And.intro (zD g22).2.1 (zD g22).2.2)] [.row 0 ((w64 ((o20.length:Int)-1)).toNat) (rf qB (o20.take ((w64 ((o20.length:Int)-1)).toNat)))] (o1 (tkP qB dd o20 o20.length ((w64 ((o20.length:Int)-1)).toNat) (show(w64 ((o20.length:Int)-1)).toNat<=o20.length by have:=(zD g22);omega))) 1 ⟨[(2,vo 0 0 2 ((w64 ((o20.length:Int)-1)).toNat))],[(0,ro 0 71 2 ((w64 ((o20.length:Int)-1)).toNat) (rf qB (o20.take ((w64 ((o20.length:Int)-1)).toNat))))]⟩ ?_
 refine q_fn [.len 0 ((o20.take ((w64 ((o20.length:Int)-1)).toNat)).length)] ⟨[(2,vo 0 0 2 ((o20.take ((w64 ((o20.length:Int)-1)).toNat)).length))],[(0,ro 0 71 2 ((o20.take ((w64 ((o20.length:Int)-1)).toNat)).length) (rf qB (o20.take ((w64 ((o20.length:Int)-1)).toNat))))]⟩ (o1 (And.intro (Eq.symm (show(o20.take ((w64 ((o20.length:Int)-1)).toNat)).length=(w64 ((o20.length:Int)-1)).toNat from(JI rfl (show(w64 ((o20.length:Int)-1)).toNat<=o20.length by have:=(zD g22);omega)))) (Eq.symm (show(o20.take ((w64 ((o20.length:Int)-1)).toNat)).length=(w64 ((o20.length:Int)-1)).toNat from(JI rfl (show(w64 ((o20.length:Int)-1)).toNat<=o20.length by have:=(zD g22);omega)))))) ?_
 obtain rfl:=oi hm;exact q_rt q_rm
def PH (a1:List qA) (r:(List qA)):V:= .undef
def PG (a1:List qA) (r:(List qA)):List (Nat×(Nat×O)):=[(0,ro 0 71 2 r.length (rf qB r))]
def yU (l2:List qA) (l2n:Nat) (x3:Int) (x4:Int):St:=
 ⟨[(0,vo 0 0 2 l2n),(2,vi x3),(3,vi x4)],[(0,ro 0 71 2 l2n (rf qB l2))]⟩
def JX (l8:List qA):St:=
 ⟨[],[(0,ro 0 71 2 l8.length (rf qB l8))]⟩
theorem BT (E:Env 1):∀(n:Nat) (l2:List qA) (l2n:Nat) (x3:Int) (x4:Int) (res:(List qA)),l2.length=l2n->QQ n l2 x3 x4=some res->HL (kx E 28 1) (nd f131 12) (zF 0 JX res) n (yU l2 l2n x3 x4):=by
 intro n
 induction n with
 |zero=>
  intro l2 l2n x3 x4 res hl0 hm;cases hm
 |succ n ih=>
  intro l2 l2n x3 x4 res hl0 hm;subst hl0;refine qR (q_sq ?_);refine s_va 1 [(9,vb (decide (x3<x4)))] (q_cq hm (λhm=>?_) (λhm=>?_))
  ·refine q_sk (q_sq ?_);refine q_bk 1 ?_;obtain⟨g6,hm⟩:=qJ hm;obtain⟨g7,hm⟩:=qJ hm
   refine q_du [qi 6 g6,qd 7 dN (qU (zA g6)),qi 10 g7,qd 11 dN (qU (zA g7)),qi 12 g7,qd 13 (drw 0 0 (rf qB (l2.set x3.toNat (l2.getD x4.toNat dd)))) (stP qB dd (l2.getD x4.toNat dd) l2 l2.length x3.toNat 0 [ci ((l2.getD x4.toNat dd).X),ci ((l2.getD x4.toNat dd).Y)] rfl (qU (zA g7)) rfl),qi 14 g6,qd 15 (drw 0 0 (rf qB ((l2.set x3.toNat (l2.getD x4.toNat dd)).set x4.toNat (l2.getD x3.toNat dd)))) (stP qB dd (l2.getD x3.toNat dd) (l2.set x3.toNat (l2.getD x4.toNat dd)) l2.length x4.toNat 0 [ci ((l2.getD x3.toNat dd).X),ci ((l2.getD x3.toNat dd).Y)] (jP rfl) (qU (zA g6)) rfl)] [0,0,0,0,0,0,48,112,0,0,768,1792,4083,8179,16383,32767] 1 [9] [] [0] [(0,ro 0 71 2 l2.length (rf qB ((l2.set x3.toNat (l2.getD x4.toNat dd)).set x4.toNat (l2.getD x3.toNat dd))))] ?_
   exact q_vv [] 1 [2,3] [(2,vi (w64 (x3+1))),(3,vi (w64 (x4-1)))] (q_hl (yU ((l2.set x3.toNat (l2.getD x4.toNat dd)).set x4.toNat (l2.getD x3.toNat dd)) l2.length (w64 (x3+1)) (w64 (x4-1))) (ih ((l2.set x3.toNat (l2.getD x4.toNat dd)).set x4.toNat (l2.getD x3.toNat dd)) l2.length (w64 (x3+1)) (w64 (x4-1)) _ (jP (jP rfl)) hm))
  ·refine q_ex 0 ?_;obtain rfl:=oi hm;exact q_l0
theorem MW (a1:List qA) (r:(List qA)) (hm:JB a1=some r):CtX Tryz.prog globs 131 1 1 [.one (.own 0 0 2 a1.length)] [(0,ro 0 71 2 a1.length (rf qB a1))] (PH a1 r) (PG a1 r):=by
 unfold JB at hm;refine q_E f131 28 λE=>?_;refine s_vn [] 1 ⟨[(0,vo 0 0 2 a1.length),(2,vi 0),(3,vi (w64 ((a1.length:Int)-1)))],[(0,ro 0 71 2 a1.length (rf qB a1))]⟩ ?_;obtain⟨o9,h10,hm⟩:=qE hm;refine qZ (nd f131 12) 0 (by kernel_rfl) FUEL JX o9 (q_hl (yU a1 a1.length 0 (w64 ((a1.length:Int)-1))) (BT E FUEL a1 a1.length 0 (w64 ((a1.length:Int)-1)) o9 rfl h10)) ?_;obtain rfl:=oi hm;exact q_rm
open Go.Proofs Go.Proofs.Tryz
def qIE (r:(List qA)):V:=vo 0 0 2 r.length
def qIW (r:(List qA)):List (Nat×(Nat×O)):=[(0,ro 0 71 2 r.length (rf qB r))]
def qEL (a1:List qA) (x6:Bool):St:=
 ⟨[(0,vc (tl qB dd a1)),(17,vb x6)],[]⟩
theorem qG3 (a1:List qA) (r:(List qA)) (hm:qA6 a1=some r):CtX Tryz.prog globs 65 0 0 [.one (tl qB dd a1)] [] (qIE r) (qIW r):=by
 unfold qA6 at hm;refine q_E f65 36 λE=>?_;refine s_vn [] 0 ⟨[(0,vc (tl qB dd a1))],[]⟩ (q_sq ?_);refine q_jn (qEL a1) (λp=>GD a1 p=some r) ?_ ?_
 ·rintro x6 hm;refine q_cq hm (λhm=>?_) (λhm=>?_)
  ·refine s_vn [] 0 ⟨[(2,vc (.emp))],[]⟩ (q_fn [.own 2 0 71 2 (rf qB [])] ⟨[(2,vo 0 0 2 0)],[(0,ro 0 71 2 0 (rf qB []))]⟩ o0 ?_);refine q_fn [.len 0 (([]:List qA).length)] ⟨[(2,vo 0 0 2 (([]:List qA).length))],[(0,ro 0 71 2 (([]:List qA).length) (rf qB []))]⟩ (o1 (And.intro (show 0=([]:List qA).length from rfl) (show 0=([]:List qA).length from rfl))) ?_;obtain rfl:=oi hm;exact q_rt q_rm
  ·refine q_sk ?_;obtain⟨v8,h9,hm⟩:=qE hm;refine s_vn [qc 1 [18] 0 (AK a1 v8 h9)] 0 ⟨[(3,vo 0 0 2 v8.length)],[(0,ro 0 71 2 v8.length (rf qB v8))]⟩ ?_;obtain⟨v10,h11,hm⟩:=qE hm;obtain⟨g12,hm⟩:=qJ hm
   refine s_wu [qd 1 (dex (cen [(0,0)] [0] 0 1 (KM v8 v10) (XY v8 v10) [20] [0])) (zJ (K:=(kx E 36 0)) ⟨[(20,vo 0 0 2 v8.length)],[(0,ro 0 71 2 v8.length (rf qB v8))]⟩ (opAt (rg f65 30) 1) [(0,0)] [0] 0 o0 rfl (LD v8 v10 h11) (.inl rfl) (by kernel_rfl))] [.len 0 v8.length] (o1 (And.intro (And.intro (Eq.refl v8.length) (Eq.refl v8.length)) (And.intro (IR g12) (Eq.refl v8.length)))) 1 [] [] [0] [(0,ro 0 71 2 v8.length (rf qB v10))] ?_;obtain⟨v13,h14,hm⟩:=qE hm
   refine s_vn [qd 1 (dpr [.len 0 v10.length] (dex (cen [(0,0)] [0] 0 1 (jY v10 v13) (jZ v10 v13) [22] [0]))) (And.intro (And.intro (Eq.symm (show v10.length=v8.length from(IR g12))) (Eq.symm (show v10.length=v8.length from(IR g12)))) (Eq.symm (show v10.length=v8.length from(IR g12)))),qd 1 dN (zJ (K:=(kx E 36 0)) ⟨[(22,vo 0 0 2 v10.length)],[(0,ro 0 71 2 v10.length (rf qB v10))]⟩ (opAt (rg f65 62) 1) [(0,0)] [0] 0 o0 rfl (SD v10 v13 h14) (.inl rfl) (by kernel_rfl))] 1 ⟨[(3,vo 0 0 2 v13.2.length)],[(0,ro 0 71 2 v13.2.length (rf qB v13.2))]⟩ ?_;obtain⟨v15,h16,hm⟩:=qE hm
   refine s_vu [qd 1 (dex (cen [] [] 1 0 (MY v15) (KB v15) [24] [0])) (zJ (K:=(kx E 36 0)) (b:=false) ⟨[(24,vo 0 0 2 v13.2.length)],[(0,ro 0 71 2 v13.2.length (rf qB v13.2))]⟩ (opAt (rg f65 126) 1) [] [] 1 (o1 (kg v13.2.length)) rfl (qAk v13.2 v15 h16) (.inr ⟨(by kernel_rfl),qAL v15⟩) (by kernel_rfl))] 1 [] [(4,vo 1 0 2 v15.length)] [] [(1,ro 0 71 2 v15.length (rf qB v15))] ?_;obtain⟨v17,h18,hm⟩:=qE hm;obtain⟨g19,hm⟩:=qJ hm
   refine s_wu [qd 1 (dex (cen [(0,0)] [0] 1 1 (PH v13.2 v17) (PG v13.2 v17) [26] [0])) (zJ (K:=(kx E 36 0)) ⟨[(26,vo 0 0 2 v13.2.length)],[(0,ro 0 71 2 v13.2.length (rf qB v13.2))]⟩ (opAt (rg f65 254) 1) [(0,0)] [0] 1 o0 rfl (MW v13.2 v17 h18) (.inl rfl) (by kernel_rfl))] [.len 0 v13.2.length] (o1 (And.intro (And.intro (Eq.refl v13.2.length) (Eq.refl v13.2.length)) (And.intro (IR g19) (Eq.refl v13.2.length)))) 2 [] [] [0] [(0,ro 0 71 2 v13.2.length (rf qB v17))] ?_;obtain⟨v20,h21,hm⟩:=qE hm;obtain⟨g22,hm⟩:=qJ hm
   refine s_vn [qd 2 (dex (cen [] [] 2 0 (MY v20) (KB v20) [29] [0])) (zJ (K:=(kx E 36 0)) (xs':=[.one (.lst v13.2.length (rf qB v17))]) (b:=false) ⟨[(29,vo 0 0 2 v13.2.length)],[(0,ro 0 71 2 v13.2.length (rf qB v17))]⟩ (opAt (rg f65 510) 2) [] [] 2 (o1 (kg v13.2.length)) (by simp only[tl,rf,show v17.length=v13.2.length from(IR g19)]) (qAk v17 v20 h21) (.inr ⟨(by kernel_rfl),qAL v20⟩) (by kernel_rfl)),qd 3 (drw 1 1 (rf qB (v15++v20))) (apP qB dd v15 v20 v15.length v20.length 2 16 (v20.length<=v20.length) (kg _) rfl rfl (λ_=>rfl) (zP g22))] 2 ⟨[(4,vo 1 1 2 (v15.length+v20.length))],[(1,ro 1 71 2 (v15.length+v20.length) (rf qB (v15++v20)))]⟩ (q_sq ?_)
   refine s_va 3 [(34,vb (decide ((((v15.length+v20.length):Nat):Int)<3)))] (q_cq hm (λhm=>?_) (λhm=>?_))
   ·refine s_vn [] 3 ⟨[(2,vc (.emp))],[]⟩ (q_fn [.own 2 3 71 2 (rf qB [])] ⟨[(2,vo 3 0 2 0)],[(3,ro 0 71 2 0 (rf qB []))]⟩ o0 ?_);refine q_fn [.len 3 (([]:List qA).length)] ⟨[(2,vo 3 0 2 (([]:List qA).length))],[(3,ro 0 71 2 (([]:List qA).length) (rf qB []))]⟩ (o1 (And.intro (show 0=([]:List qA).length from rfl) (show 0=([]:List qA).length from rfl))) ?_;obtain rfl:=oi hm;exact q_sw 3 0 (q_rt q_rm)
   ·refine q_sk (s_vv [] 3 [4,34] [(2,vo 1 1 2 (v15.length+v20.length))] ?_);refine q_fn [.len 1 ((v15++v20).length)] ⟨[(2,vo 1 1 2 ((v15++v20).length))],[(1,ro 1 71 2 ((v15++v20).length) (rf qB (v15++v20)))]⟩ (o1 (And.intro (Eq.symm (show(v15++v20).length=(v15.length+v20.length) from(zX rfl rfl))) (Eq.symm (show(v15++v20).length=(v15.length+v20.length) from(zX rfl rfl))))) ?_;obtain rfl:=oi hm;exact q_sw 1 0 (q_rt q_rm)
 ·rcases bif_c hm with⟨b2,hm⟩|⟨b2,hm⟩
  ·exact q_vv [qf 3 b2] 0 [] [(17,vb true)] (q_J (true) hm)
  ·rcases bif_c hm with⟨b3,hm⟩|⟨b3,hm⟩
   ·exact q_vv [qf 3 b2,qf 8 b3] 0 [] [(17,vb true)] (q_J (true) hm)
   ·obtain⟨v4,h5,hm⟩:=qE hm;exact q_vv [qf 3 b2,qf 8 b3,qk 10 [13,14] 0 ⟨[(13,vb false),(14,vc (tl qB dd a1))],[]⟩ (GH a1 v4 h5)] 0 [] [(17,vb (!v4))] (q_J (!v4) hm)
def qAe (r:Rect):V:=va (ZV r)
def RL (r:Rect):List (Nat×(Nat×O)):=[]
theorem qGs (r:Rect):yM (RL r):=by
 intro i k o h;unfold RL at h;cases h
def TD (a1:List qA) (x4:Int) (x5:Rect):St:=
 ⟨[(2,vp 0 0),(3,vp 1 0),(29,vc (tl qB dd a1)),(30,vi (a1.length:Int)),(31,vi x4)],[(0,bx 190 [ci 0,ci 0,ci 0,ci 0]),(1,bx 190 (ZV x5))]⟩
def HO (x8:Rect):St:=
 ⟨[(2,vp 0 0),(3,vp 1 0)],[(0,bx 190 [ci 0,ci 0,ci 0,ci 0]),(1,bx 190 (ZV x8))]⟩
theorem qBK (E:Env 0) (a1:List qA):∀(n:Nat) (x4:Int) (x5:Rect) (res:Rect),GS a1 n x4 x5=some res->HL (kx E 65 0) (nd f177 244) (zF 0 HO res) n (TD a1 x4 x5):=by
 intro n
 induction n with
 |zero=>
  intro x4 x5 res hm;cases hm
 |succ n ih=>
  intro x4 x5 res hm;refine qR (s_va 2 [(32,vb (decide (x4<(a1.length:Int))))] ?_);refine q_sq (q_cq hm (λhm=>?_) (λhm=>?_))
  ·refine q_sk (q_sq ?_);refine q_bk 1 ?_;obtain⟨g7,hm⟩:=qJ hm;refine s_vu [qi 0 g7] 2 [32] [(5,vp 2 0)] [] [(2,bx 71 (qB (a1.getD x4.toNat dd)))] (s_vu [] 3 [] [] [1] [(1,bx 190 [ci (imin x5.X.A ((a1.getD x4.toNat dd).X)),ci (imax x5.X.B ((a1.getD x4.toNat dd).X)),ci x5.Y.A,ci x5.Y.B])] ?_);refine q_vu [] 3 [5] [] [1,2] [(1,bx 190 [ci (imin x5.X.A ((a1.getD x4.toNat dd).X)),ci (imax x5.X.B ((a1.getD x4.toNat dd).X)),ci (imin x5.Y.A ((a1.getD x4.toNat dd).Y)),ci (imax x5.Y.B ((a1.getD x4.toNat dd).Y))])] (q_vv [] 3 [31] [(31,vi (w64 (x4+1)))] ?_)
   exact q_hl (TD a1 (w64 (x4+1)) (Rect.mk (Span.mk (imin x5.X.A ((a1.getD x4.toNat dd).X)) (imax x5.X.B ((a1.getD x4.toNat dd).X))) (Span.mk (imin x5.Y.A ((a1.getD x4.toNat dd).Y)) (imax x5.Y.B ((a1.getD x4.toNat dd).Y))))) (ih (w64 (x4+1)) (Rect.mk (Span.mk (imin x5.X.A ((a1.getD x4.toNat dd).X)) (imax x5.X.B ((a1.getD x4.toNat dd).X))) (Span.mk (imin x5.Y.A ((a1.getD x4.toNat dd).Y)) (imax x5.Y.B ((a1.getD x4.toNat dd).Y)))) _ hm)
  ·refine q_ex 0 ?_;obtain rfl:=oi hm;exact q_l0
theorem qEH (a1:List qA) (r:Rect) (hm:IA a1=some r):CtX Tryz.prog globs 177 0 0 [.one (tl qB dd a1)] [] (qAe r) (RL r):=by
 unfold IA at hm;refine q_E f177 65 λE=>?_;refine s_vn [] 0 ⟨[(0,vc (tl qB dd a1)),(2,vp 0 0)],[(0,bx 190 [ci 0,ci 0,ci 0,ci 0])]⟩ (q_sq ?_);refine s_va 1 [(8,vb ((a1.length:Int)==0))] (q_cq hm (λhm=>?_) (λhm=>?_))
 ·refine s_vv [] 1 [0,8] [] ?_;obtain rfl:=oi hm;exact q_rt q_rm
 ·refine q_sk ?_;obtain⟨g3,hm⟩:=qJ hm;refine s_du [qi 1 g3,qi 5 g3,qi 10 g3,qi 14 g3] [0,1,3,7,0,16,48,112,255,0,512,1536,3584,0,8192,24576,57344,130560,262143,0,1048575] 1 [8] [(3,vp 1 0)] [] [(1,bx 190 [ci ((a1.getD (0:Int).toNat dd).X),ci ((a1.getD (0:Int).toNat dd).X),ci ((a1.getD (0:Int).toNat dd).Y),ci ((a1.getD (0:Int).toNat dd).Y)])] (q_sq ?_);refine s_vv [] 2 [0] [(29,vc (tl qB dd a1)),(30,vi (a1.length:Int)),(31,vi 0)] ?_;obtain⟨o9,h10,hm⟩:=qE hm
  refine qZ (nd f177 244) 0 (by kernel_rfl) FUEL HO o9 (q_hl (TD a1 0 (Rect.mk (Span.mk ((a1.getD (0:Int).toNat dd).X) ((a1.getD (0:Int).toNat dd).X)) (Span.mk ((a1.getD (0:Int).toNat dd).Y) ((a1.getD (0:Int).toNat dd).Y)))) (qBK E a1 FUEL 0 (Rect.mk (Span.mk ((a1.getD (0:Int).toNat dd).X) ((a1.getD (0:Int).toNat dd).X)) (Span.mk ((a1.getD (0:Int).toNat dd).Y) ((a1.getD (0:Int).toNat dd).Y))) o9 h10)) (s_vu [] 2 [3] [] [0,1] [(0,bx 190 (ZV o9))] ?_);obtain rfl:=oi hm;exact q_rt q_rm
def qHG (r:Int):V:=vi r
def qHS (r:Int):List (Nat×(Nat×O)):=[]
def qDR (x5:Int):St:=
 ⟨[(5,vi x5)],[]⟩
theorem qAd (a1:Int) (a2:Int) (r:Int) (hm:LB a1 a2=some r):CtX Tryz.prog globs 179 0 0 [.one (ci a1),.one (ci a2)] [] (qHG r) (qHS r):=by
 unfold LB at hm;refine q_E f179 16 λE=>?_;refine s_vn [] 0 ⟨[(0,vi a1),(1,vi a2)],[]⟩ ?_;obtain⟨g3,hm⟩:=qJ hm;refine s_vv [qd 2 dN (LA g3)] 0 [] [(5,vi (w64 (Int.tdiv a1 a2)))] (q_jn (qDR) (λp=>FI p=some r) ?_ ?_)
 ·rintro x5 hm;refine s_vn [] 0 ⟨[(4,vi x5)],[]⟩ ?_;obtain rfl:=oi hm;exact q_rt q_rm
 ·refine s_vv [qd 2 dN (LA g3)] 0 [0,1] [(12,vb (decide ((Int.tmod a1 a2)<0)))] (q_cq hm (λhm=>?_) (λhm=>?_))
  ·exact q_vn [] 0 ⟨[(5,vi (w64 ((w64 (Int.tdiv a1 a2))-1)))],[]⟩ (q_J (w64 ((w64 (Int.tdiv a1 a2))-1)) hm)
  ·exact q_sk (q_J (w64 (Int.tdiv a1 a2)) hm)
end Saw
end Go.SL
