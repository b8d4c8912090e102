import Derived.Test.YtidlfgiogdjkaaaGreatDoorEBase
import Derived.Test.YtidlfgiogdjkaaaGreatDoorEFa10
import Derived.Test.YtidlfgiogdjkaaaGreatDoorEFa9
set_option linter.unusedVariables false
set_option linter.unusedSimpArgs false
namespace Go.SL
namespace Saw
open Go.Proofs
set_option maxHeartbeats 4000000
set_option maxRecDepth 100000
def ER (r:Bool):V:=vb r
def IG (r:Bool):List (Nat×(Nat×O)):=[]
def ZK (a1:List Node) (a2:Rect) (a4:Saw) (v5:(List Ref24_part)×Bool) (v13:(List Int)×(List Int)) (x15:Int):St:=
 ⟨[(0,vc (tl e_Node default a1)),(5,vp 0 0),(7,vp 1 0),(9,vo 2 0 4 v5.1.length),(11,vo 3 0 1 v13.1.length),(12,vo 4 0 1 v13.2.length),(13,vi x15),(14,vp 5 0)],[(0,bx 33 (qH a2)),(1,bx 38 (zD a4)),(2,ro 0 110 4 v5.1.length (rf qM v5.1)),(3,ro 0 3 1 v13.1.length (rf e_i64 v13.1)),(4,ro 0 3 1 v13.2.length (rf e_i64 v13.2)),(5,bx 65 [ci ((a1.getD ((v5.1.getD x15.toNat default).from_).toNat default).Kind),ci ((a1.getD ((v5.1.getD x15.toNat default).from_).toNat default).At)])]⟩
def qGN (a1:List Node) (a2:Rect) (a4:Saw) (v5:(List Ref24_part)×Bool) (v13:(List Int)×(List Int)) (x15:Int) (x25:Int) (x32:Bool):St:=
 (ZK a1 a2 a4 v5 v13 x15).up [] [(15,vb x32),(16,vi x25)] [] []
def FB (a1:List Node) (a2:Rect) (a4:Saw) (v5:(List Ref24_part)×Bool) (v13:(List Int)×(List Int)) (x15:Int) (x24:Bool) (x25:Int):St:=
 (ZK a1 a2 a4 v5 v13 x15).up [] [(15,vb x24),(16,vi x25)] [] []
def qAl (a1:List Node) (a2:Rect) (a4:Saw) (v5:(List Ref24_part)×Bool) (v13:(List Int)×(List Int)) (x15:Int) (x33:Bool):St:=
 (ZK a1 a2 a4 v5 v13 x15).up [14] [(15,vb x33)] [5] []
def qGf (a1:List Node) (a2:Rect) (a4:Saw) (v5:(List Ref24_part)×Bool) (v13:(List Int)×(List Int)) (x15:Int) (x22:Bool):St:=
 (ZK a1 a2 a4 v5 v13 x15).up [] [(100,vb x22)] [] []
def FX (a1:List Node) (a2:Rect) (a4:Saw) (v5:(List Ref24_part)×Bool) (v13:(List Int)×(List Int)) (x15:Int):St:=
 (ZK a1 a2 a4 v5 v13 x15).up [14] [] [5] []
def qAH :St:=
 ⟨[],[]⟩
def qGA (a1:List Node) (a2:Rect) (a3:List Product) (a4:Saw) (v5:(List Ref24_part)×Bool) (x11:Bool):St:=
 ⟨[(0,vc (tl e_Node default a1)),(2,vc (tl qC default a3)),(5,vp 0 0),(7,vp 1 0),(9,vo 2 0 4 v5.1.length),(41,vb x11)],[(0,bx 33 (qH a2)),(1,bx 38 (zD a4)),(2,ro 0 110 4 v5.1.length (rf qM v5.1))]⟩
theorem qFK (E:Env 0) (a1:List Node) (a2:Rect) (a4:Saw) (v5:(List Ref24_part)×Bool) (v13:(List Int)×(List Int)) (x15:Int):∀(n:Nat) (x24:Bool) (x25:Int) (res:Bool),wP a1 v5 v13 x15 n x24 x25=some res->HL (kx E 139 0) (nd Tryz.f60 512628) (zK 2 (λo=>qAl a1 a2 a4 v5 v13 x15 o) res) n (FB a1 a2 a4 v5 v13 x15 x24 x25):=by
 intro n
 induction n with
 |zero=>
  intro x24 x25 res hm;cases hm
 |succ n ih=>
  intro x24 x25 res hm;refine qK ?_;refine q_sq ?_;refine s_va 6 [(104,vb (decide (x25<((v13.1.length:Nat):Int))))] ?_;refine q_cm hm (λb26 hm=>?_) (λb26 hm=>?_)
  ·refine q_sk ?_;refine q_jn (qGN a1 a2 a4 v5 v13 x15 x25) (λp=>KJ x25 (wP a1 v5 v13 x15 n) p=some res) ?_ ?_
   ·rintro x32 hm;refine q_vv [] 6 [16] [(16,vi (w64 (x25+1)))] ?_;exact q_hl (FB a1 a2 a4 v5 v13 x15 x32 (w64 (x25+1))) (ih x32 (w64 (x25+1)) _ hm)
   ·refine q_bk 3 ?_;rcases bif_c hm with⟨b27,hm⟩|⟨b27,hm⟩
    ·refine q_du [qf 1 b27] [0,1,3,3,15,31,3,3,195,451,963,1987,3,3,12291,28675,61443,126979,262083,524287,1048575,2097151,2097151,8388607,16777215,2097151,35651583,134217727,268435455,536870911,1073741823] 6 [15,104] [(15,vb true)] [] [] ?_;exact q_J (true) hm
    ·obtain⟨g28,hm⟩:=qE hm;obtain⟨g29,hm⟩:=qE hm;rcases bif_c hm with⟨b30,hm⟩|⟨b30,hm⟩
     ·obtain⟨g31,hm⟩:=qE hm;refine q_du [qf 1 b27,qi 4 g28,qd 5 dN (toNat_lt (inb_of g28)),qi 8 g29,qd 11 dN (toNat_lt (inb_of g29)),qi 14 g29,qd 17 dN (toNat_lt (inb_of g29)),qf 20 b30,qi 23 g31,qd 24 dN (toNat_lt (inb_of g31))] [0,1,3,3,15,31,3,3,195,451,963,1987,3,3,12291,28675,61443,126979,262083,524287,1048575,2097151,2097151,8388607,16777215,2097151,35651583,134217727,268435455,536870911,1073741823] 6 [15,104] [(15,vb ((v13.2.getD x25.toNat default)==((a1.getD ((v5.1.getD x15.toNat default).from_).toNat default).At)))] [] [] ?_
      exact q_J ((v13.2.getD x25.toNat default)==((a1.getD ((v5.1.getD x15.toNat default).from_).toNat default).At)) hm
     ·refine q_du [qf 1 b27,qi 4 g28,qd 5 dN (toNat_lt (inb_of g28)),qi 8 g29,qd 11 dN (toNat_lt (inb_of g29)),qi 14 g29,qd 17 dN (toNat_lt (inb_of g29)),qf 20 b30] [0,1,3,3,15,31,3,3,195,451,963,1987,3,3,12291,28675,61443,126979,262083,524287,1048575,2097151,2097151,8388607,16777215,2097151,35651583,134217727,268435455,536870911,1073741823] 6 [15,104] [(15,vb false)] [] [] ?_;exact q_J (false) hm
  ·refine q_ex 2 ?_;obtain rfl:=oi hm;exact wB (by kernel_rfl) (by kernel_rfl)
theorem qFN (E:Env 0) (a1:List Node) (a2:Rect) (a4:Saw) (v5:(List Ref24_part)×Bool) (v13:(List Int)×(List Int)):∀(n:Nat) (x15:Int) (res:Bool⊕Unit),jB a1 a2 a4 v5 v13 n x15=some res->HL (kx E 139 0) (nd Tryz.f60 500) (zW 0 (λo=>qAH) (λv st=>RetQ Tryz.prog Tryz.f60 (ER v) (IG v) .ret st) res) n (FX a1 a2 a4 v5 v13 x15):=by
 intro n
 induction n with
 |zero=>
  intro x15 res hm;cases hm
 |succ n ih=>
  intro x15 res hm;refine qK ?_;refine q_sq ?_;refine s_va 5 [(57,vb (decide (x15<((v5.1.length:Nat):Int))))] ?_;refine q_cm hm (λb16 hm=>?_) (λb16 hm=>?_)
  ·refine q_sk ?_;refine q_sq ?_;refine q_bk 1 ?_;obtain⟨g17,hm⟩:=qE hm;obtain⟨g18,hm⟩:=qE hm;refine s_vu [qi 3 g17,qd 5 dN (toNat_lt (inb_of g17)),qi 6 g18] 5 [57] [(14,vp 5 0)] [] [(5,bx 65 [ci ((a1.getD ((v5.1.getD x15.toNat default).from_).toNat default).Kind),ci ((a1.getD ((v5.1.getD x15.toNat default).from_).toNat default).At)])] ?_;refine q_sq ?_;refine q_jn (qGf a1 a2 a4 v5 v13 x15) (λp=>KW a1 v5 v13 x15 (jB a1 a2 a4 v5 v13 n) p=some res) ?_ ?_
   ·rintro x22 hm;refine q_cm hm (λb23 hm=>?_) (λb23 hm=>?_)
    ·refine s_vn [] 6 ⟨[(8,vb false)],[]⟩ ?_;obtain rfl:=oi hm;refine q_rt ?_;refine qU false ?_;exact q_rm
    ·refine q_sk ?_;refine s_vv [] 6 [100] [(15,vb false)] ?_;refine q_sq ?_;refine s_va 6 [(16,vi 0)] ?_;obtain⟨o34,h35,hm⟩:=qA hm;refine zC (nd Tryz.f60 512628) 2 (by kernel_rfl) FUEL (λo=>qAl a1 a2 a4 v5 v13 x15 o) o34 (q_hl (FB a1 a2 a4 v5 v13 x15 false 0) (qFK E a1 a2 a4 v5 v13 x15 FUEL false 0 o34 h35)) ?_;refine s_vv [] 6 [15] [(138,vb (!o34))] ?_;refine q_cm hm (λb36 hm=>?_) (λb36 hm=>?_)
     ·refine s_vn [] 6 ⟨[(8,vb false)],[]⟩ ?_;obtain rfl:=oi hm;refine q_rt ?_;refine qU false ?_;exact q_rm
     ·refine q_sk ?_;refine q_vv [] 6 [13,138] [(13,vi (w64 (x15+1)))] ?_;exact q_hl (FX a1 a2 a4 v5 v13 (w64 (x15+1))) (ih (w64 (x15+1)) _ hm)
   ·rcases bif_c hm with⟨b19,hm⟩|⟨b19,hm⟩
    ·refine q_du [qi 2 g17,qd 4 dN (toNat_lt (inb_of g17)),qi 7 g17,qd 9 dN (toNat_lt (inb_of g17)),qf 12 b19] [0,0,3,7,15,0,0,96,224,480,992,2047,4095,8191,16383,32767,65535,131071,262143,262143,1048575,2097151,4194303,8388607,262143,17039359,50593791,134217727,262143,268697599,1073741823,2147483647,4294967295] 6 [] [(100,vb true)] [] [] ?_;exact q_J (true) hm
    ·rcases bif_c hm with⟨b20,hm⟩|⟨b20,hm⟩
     ·refine q_du [qi 2 g17,qd 4 dN (toNat_lt (inb_of g17)),qi 7 g17,qd 9 dN (toNat_lt (inb_of g17)),qf 12 b19,qf 17 b20] [0,0,3,7,15,0,0,96,224,480,992,2047,4095,8191,16383,32767,65535,131071,262143,262143,1048575,2097151,4194303,8388607,262143,17039359,50593791,134217727,262143,268697599,1073741823,2147483647,4294967295] 6 [] [(100,vb true)] [] [] ?_;exact q_J (true) hm
     ·obtain⟨g21,hm⟩:=qE hm;refine q_du [qi 2 g17,qd 4 dN (toNat_lt (inb_of g17)),qi 7 g17,qd 9 dN (toNat_lt (inb_of g17)),qf 12 b19,qf 17 b20,qi 20 g17,qd 23 dN (toNat_lt (inb_of g17)),qd 30 dN (HK g21)] [0,0,3,7,15,0,0,96,224,480,992,2047,4095,8191,16383,32767,65535,131071,262143,262143,1048575,2097151,4194303,8388607,262143,17039359,50593791,134217727,262143,268697599,1073741823,2147483647,4294967295] 6 [] [(100,vb ((Int.tmod (w64 ((((v5.1.getD x15.toNat default).at_).A)-a2.X.A)) a4.Pitch) !=0))] [] [] ?_
      exact q_J ((Int.tmod (w64 ((((v5.1.getD x15.toNat default).at_).A)-a2.X.A)) a4.Pitch) !=0) hm
  ·refine q_ex 0 ?_;obtain rfl:=oi hm;exact wA () (by kernel_rfl) (by kernel_rfl)
theorem qJH (a1:List Node) (a2:Rect) (a3:List Product) (a4:Saw) (r:Bool) (hm:PJ a1 a2 a3 a4=some r):CtX Tryz.prog globs 60 0 0 [.one (tl e_Node default a1),.agg (qH a2),.one (tl qC default a3),.agg (zD a4)] [] (ER r) (IG r):=by
 unfold PJ at hm;refine q_E Tryz.f60 139 λE=>?_;refine s_vn [] 0 ⟨[(0,vc (tl e_Node default a1)),(2,vc (tl qC default a3)),(5,vp 0 0),(7,vp 1 0)],[(0,bx 33 (qH a2)),(1,bx 38 (zD a4))]⟩ ?_;obtain⟨v5,h6,hm⟩:=qA hm;refine s_vu [qk 5 [18,20,22] 2 ⟨[(18,vc (tl e_Node default a1)),(20,va (e_Span a2.X)),(22,vi a4.Kerf)],[]⟩ (qEe a1 a2.X 2 a4.Kerf v5 h6)] 2 [] [(9,vo 2 0 4 v5.1.length),(10,vb v5.2)] [] [(2,ro 0 110 4 v5.1.length (rf qM v5.1))] ?_;refine q_sq ?_;refine q_jn (qGA a1 a2 a3 a4 v5) (λp=>KL a1 a2 a3 a4 v5 p=some r) ?_ ?_
 ·rintro x11 hm;refine q_cm hm (λb12 hm=>?_) (λb12 hm=>?_)
  ·refine s_vn [] 3 ⟨[(8,vb false)],[]⟩ ?_;obtain rfl:=oi hm;refine q_rt ?_;exact q_rm
  ·refine q_sk ?_;obtain⟨v13,h14,hm⟩:=qA hm;refine s_vu [qc 8 [43,50] 3 (qMd a3 (w64 (a2.Y.B-a2.Y.A)) v13 h14)] 3 [2,41] [(11,vo 3 0 1 v13.1.length),(12,vo 4 0 1 v13.2.length)] [] [(3,ro 0 3 1 v13.1.length (rf e_i64 v13.1)),(4,ro 0 3 1 v13.2.length (rf e_i64 v13.2))] ?_;refine q_sq ?_;refine s_va 5 [(13,vi 0)] ?_;obtain⟨u39,h38,hm⟩:=qA hm;refine zA (nd Tryz.f60 500) 0 (by kernel_rfl) FUEL (λo=>qAH) (λv st=>RetQ Tryz.prog Tryz.f60 (ER v) (IG v) .ret st) u39 (q_hl (FX a1 a2 a4 v5 v13 0) (qFN E a1 a2 a4 v5 v13 FUEL 0 u39 h38)) ?_ ?_
   ·rintro v40 rfl st hr;obtain rfl:=oi hm;exact hr
   ·rintro o37 rfl;replace hm:_=some r:=hm;refine s_vn [] 5 ⟨[(8,vb true)],[]⟩ ?_;obtain rfl:=oi hm;refine q_rt ?_;exact q_rm
 ·rcases bif_c hm with⟨b7,hm⟩|⟨b7,hm⟩
  ·refine q_vv [qf 2 b7] 3 [10] [(41,vb true)] ?_;exact q_J (true) hm
  ·rcases bif_c hm with⟨b8,hm⟩|⟨b8,hm⟩
   ·refine q_vv [qf 2 b7,qf 7 b8] 3 [10] [(41,vb true)] ?_;exact q_J (true) hm
   ·obtain⟨v9,h10,hm⟩:=qA hm;refine q_vv [qf 2 b7,qf 7 b8,qd 13 (dex (cen [] [] 3 0 (qCj v9) (FV v9) [33,34,35,37,38] [2])) (wG (K:=(kx E 139 0)) (b:=false) ⟨[(33,vb false),(34,vc (tl e_Node default a1)),(35,va (qH a2)),(37,vi a4.Kerf),(38,vo 2 0 4 v5.1.length)],[(2,ro 0 110 4 v5.1.length (rf qM v5.1))]⟩ (opAt (rg Tryz.f60 28) 13) [] [] 3 (o1 (Nat.le_refl v5.1.length)) rfl (qFl a1 a2 2 a4.Kerf v5.1 v9 h10) (.inr ⟨(by kernel_rfl),qG5 v9⟩) (by kernel_rfl))] 3 [10] [(41,vb (!v9))] ?_;exact q_J (!v9) hm
def qPd (r:Bool):V:=vb r
def qPu (r:Bool):List (Nat×(Nat×O)):=[]
def qKM (x5:Bool):St:=
 ⟨[(6,vb x5)],[]⟩
theorem zR (a1:Int) (a2:Int) (a3:Int) (r:Bool) (hm:ZV a1 a2 a3=some r):CtX Tryz.prog globs 110 0 0 [.one (ci a1),.one (ci a2),.one (ci a3)] [] (qPd r) (qPu r):=by
 unfold ZV at hm;refine q_E Tryz.f110 15 λE=>?_;refine s_vn [] 0 ⟨[(0,vi a1),(1,vi a2),(2,vi a3)],[]⟩ ?_;refine q_jn (qKM) (λp=>HW p=some r) ?_ ?_
 ·rintro x5 hm;obtain rfl:=oi hm;refine q_rt ?_;exact q_rm
 ·rcases bif_c hm with⟨b4,hm⟩|⟨b4,hm⟩
  ·refine q_vn [qf 3 b4] 0 ⟨[(6,vb (decide (a1<=a3)))],[]⟩ ?_;exact q_J (decide (a1<=a3)) hm
  ·refine q_vn [qf 3 b4] 0 ⟨[(6,vb false)],[]⟩ ?_;exact q_J (false) hm
def qOb (r:Int):V:=vi r
def qNL (r:Int):List (Nat×(Nat×O)):=[]
def qJo (x24:Bool):St:=
 ⟨[(42,vb x24)],[]⟩
def qI2 (a2:Rates) (x14:Bool):St:=
 ⟨[(3,vp 1 0),(26,vb x14)],[(1,bx 40 (zX a2))]⟩
theorem OH (a1:Saw) (a2:Rates) (r:Int) (hm:HD a1 a2=some r):CtX Tryz.prog globs 55 0 0 [.agg (zD a1),.agg (zX a2)] [] (qOb r) (qNL r):=by
 unfold HD at hm;refine q_E Tryz.f55 43 λE=>?_;refine s_vn [] 0 ⟨[(2,vp 0 0),(3,vp 1 0)],[(0,bx 38 (zD a1)),(1,bx 40 (zX a2))]⟩ ?_;refine q_sq ?_;refine q_jn (qI2 a2) (λp=>XW a2 p=some r) ?_ ?_
 ·rintro x14 hm;refine q_cm hm (λb15 hm=>?_) (λb15 hm=>?_)
  ·refine s_vn [] 2 ⟨[(4,vi 9)],[]⟩ ?_;obtain rfl:=oi hm;refine q_rt ?_;exact q_rm
  ·refine q_sk ?_;refine q_sq ?_;refine q_jn (qJo) (λp=>UE p=some r) ?_ ?_
   ·rintro x24 hm;refine q_cm hm (λb25 hm=>?_) (λb25 hm=>?_)
    ·refine s_vn [] 2 ⟨[(4,vi 9)],[]⟩ ?_;obtain rfl:=oi hm;refine q_rt ?_;exact q_rm
    ·refine q_sk ?_;refine s_vn [] 2 ⟨[(4,vi 0)],[]⟩ ?_;obtain rfl:=oi hm;refine q_rt ?_;exact q_rm
   ·obtain⟨v16,h17,hm⟩:=qA hm;rcases bif_c hm with⟨b18,hm⟩|⟨b18,hm⟩
    ·refine q_vn [qk 2 [28] 2 ⟨[(28,vi a2.Chip)],[]⟩ (zR a2.Chip 0 1000 v16 h17),qf 4 b18] 2 ⟨[(42,vb true)],[]⟩ ?_;exact q_J (true) hm
    ·obtain⟨v19,h20,hm⟩:=qA hm;rcases bif_c hm with⟨b21,hm⟩|⟨b21,hm⟩
     ·refine q_vn [qk 2 [28] 2 ⟨[(28,vi a2.Chip)],[]⟩ (zR a2.Chip 0 1000 v16 h17),qf 4 b18,qk 7 [31,33] 2 ⟨[(31,vb false),(33,vi a2.Dust)],[]⟩ (zR a2.Dust 0 1000 v19 h20),qf 10 b21] 2 ⟨[(42,vb true)],[]⟩ ?_;exact q_J (true) hm
     ·obtain⟨v22,h23,hm⟩:=qA hm;refine q_vn [qk 2 [28] 2 ⟨[(28,vi a2.Chip)],[]⟩ (zR a2.Chip 0 1000 v16 h17),qf 4 b18,qk 7 [31,33] 2 ⟨[(31,vb false),(33,vi a2.Dust)],[]⟩ (zR a2.Dust 0 1000 v19 h20),qf 10 b21,qk 13 [37,39] 2 ⟨[(37,vb false),(39,vi a2.Fine)],[]⟩ (zR a2.Fine 0 1000000 v22 h23)] 2 ⟨[(42,vb (!v22))],[]⟩ ?_;exact q_J (!v22) hm
 ·obtain⟨v3,h4,hm⟩:=qA hm;rcases bif_c hm with⟨b5,hm⟩|⟨b5,hm⟩
  ·refine q_vu [qk 2 [6] 2 ⟨[(6,vi a1.Kerf)],[]⟩ (zR a1.Kerf 0 20 v3 h4),qf 4 b5] 2 [2] [(26,vb true)] [0] [] ?_;exact q_J (true) hm
  ·obtain⟨v6,h7,hm⟩:=qA hm;rcases bif_c hm with⟨b8,hm⟩|⟨b8,hm⟩
   ·refine q_vu [qk 2 [6] 2 ⟨[(6,vi a1.Kerf)],[]⟩ (zR a1.Kerf 0 20 v3 h4),qf 4 b5,qk 7 [9,11] 2 ⟨[(9,vb false),(11,vi a1.Trim)],[]⟩ (zR a1.Trim 0 20 v6 h7),qf 10 b8] 2 [2] [(26,vb true)] [0] [] ?_;exact q_J (true) hm
   ·obtain⟨v9,h10,hm⟩:=qA hm;rcases bif_c hm with⟨b11,hm⟩|⟨b11,hm⟩
    ·refine q_vu [qk 2 [6] 2 ⟨[(6,vi a1.Kerf)],[]⟩ (zR a1.Kerf 0 20 v3 h4),qf 4 b5,qk 7 [9,11] 2 ⟨[(9,vb false),(11,vi a1.Trim)],[]⟩ (zR a1.Trim 0 20 v6 h7),qf 10 b8,qk 13 [15,17] 2 ⟨[(15,vb false),(17,vi a1.Pitch)],[]⟩ (zR a1.Pitch 1 2000 v9 h10),qf 16 b11] 2 [2] [(26,vb true)] [0] [] ?_;exact q_J (true) hm
    ·obtain⟨v12,h13,hm⟩:=qA hm;refine q_vu [qk 2 [6] 2 ⟨[(6,vi a1.Kerf)],[]⟩ (zR a1.Kerf 0 20 v3 h4),qf 4 b5,qk 7 [9,11] 2 ⟨[(9,vb false),(11,vi a1.Trim)],[]⟩ (zR a1.Trim 0 20 v6 h7),qf 10 b8,qk 13 [15,17] 2 ⟨[(15,vb false),(17,vi a1.Pitch)],[]⟩ (zR a1.Pitch 1 2000 v9 h10),qf 16 b11,qk 19 [21,23] 2 ⟨[(21,vb false),(23,vi a1.Step)],[]⟩ (zR a1.Step 1 20000 v12 h13)] 2 [2] [(26,vb (!v12))] [0] [] ?_;exact q_J (!v12) hm
def OG (r:Bool):V:=vb r
def CF (r:Bool):List (Nat×(Nat×O)):=[]
def DY (a1:Pattern) (a2:List Product) (a3:Saw) (v15:(List Ref24_part)×Bool):St:=
 ⟨[(1,vc (tl qC default a2)),(3,vp 0 0),(5,vp 1 0),(7,vo 2 0 4 v15.1.length)],[(0,bx 46 (QQ a1)),(1,bx 38 (zD a3)),(2,ro 0 110 4 v15.1.length (rf qM v15.1))]⟩
def qHM (a1:Pattern) (a2:List Product) (a3:Saw) (v15:(List Ref24_part)×Bool) (x22:Int) (x35:Bool):St:=
 (DY a1 a2 a3 v15).up [] [(9,vi x22),(115,vb x35)] [] []
def MP (a1:Pattern) (a2:List Product) (a3:Saw) (v15:(List Ref24_part)×Bool) (x22:Int):St:=
 (DY a1 a2 a3 v15).up [] [(9,vi x22)] [] []
def qBc :St:=
 ⟨[],[]⟩
def qHG (a1:Pattern) (a2:List Product) (a3:Saw) (v15:(List Ref24_part)×Bool) (x20:Bool):St:=
 (DY a1 a2 a3 v15).up [] [(55,vb x20)] [] []
def qHE (a1:Pattern) (a2:List Product) (a3:Saw) (x13:Bool):St:=
 ⟨[(1,vc (tl qC default a2)),(3,vp 0 0),(5,vp 1 0),(31,vb x13)],[(0,bx 46 (QQ a1)),(1,bx 38 (zD a3))]⟩
theorem qG1 (E:Env 0) (a1:Pattern) (a2:List Product) (a3:Saw) (v15:(List Ref24_part)×Bool):∀(n:Nat) (x22:Int) (res:Bool⊕Unit),jS a1 a2 a3 v15 n x22=some res->HL (kx E 116 0) (nd Tryz.f23 500) (zW 0 (λo=>qBc) (λv st=>RetQ Tryz.prog Tryz.f23 (OG v) (CF v) .ret st) res) n (MP a1 a2 a3 v15 x22):=by
 intro n
 induction n with
 |zero=>
  intro x22 res hm;cases hm
 |succ n ih=>
  intro x22 res hm;refine qK ?_;refine q_sq ?_;refine s_va 3 [(59,vb (decide (x22<((v15.1.length:Nat):Int))))] ?_;refine q_cm hm (λb23 hm=>?_) (λb23 hm=>?_)
  ·refine q_sk ?_;refine q_sq ?_;refine q_bk 1 ?_;obtain⟨g24,hm⟩:=qE hm;refine s_du [qi 5 g24,qd 7 dN (toNat_lt (inb_of g24))] [0,1,3,0,0,24,56,120,255,0,1023] 3 [59] [(10,vp 3 0)] [] [(3,bx 33 [ci a1.Frame.X.A,ci a1.Frame.X.B,ci (((v15.1.getD x22.toNat default).at_).A),ci (((v15.1.getD x22.toNat default).at_).B)])] ?_;refine q_jn (qHM a1 a2 a3 v15 x22) (λp=>RV x22 (jS a1 a2 a3 v15 n) p=some res) ?_ ?_
   ·rintro x35 hm;refine q_cm hm (λb36 hm=>?_) (λb36 hm=>?_)
    ·refine s_vn [] 5 ⟨[(6,vb false)],[]⟩ ?_;obtain rfl:=oi hm;refine q_rt ?_;refine qU false ?_;exact q_rm
    ·refine q_sk ?_;refine q_vv [] 5 [9,115] [(9,vi (w64 (x22+1)))] ?_;exact q_hl (MP a1 a2 a3 v15 (w64 (x22+1))) (ih (w64 (x22+1)) _ hm)
   ·obtain⟨g25,hm⟩:=qE hm;rcases bif_c hm with⟨b26,hm⟩|⟨b26,hm⟩
    ·refine q_du [qd 10 dN (HK g25),qf 12 b26] [0,1,3,0,8,24,56,127,0,256,1023,2047,4095,8191,16383,8191,40959,106495,8191,270335,794623,2072575,4194303,8388607,16777215,33554431,67108863,134217727,67108863,67108863,872415231,1946157055,4093640703,67108863,67108863,25836912639,60196651007,128916127743,274877906943,67108863,67108863,67108863,4398046511103,8796093022207,17592186044415] 4 [10] [(115,vb true)] [3] [] ?_;exact q_J (true) hm
    ·obtain⟨v27,h28,hm⟩:=qA hm;obtain⟨v29,h30,hm⟩:=qA hm;rcases bif_c hm with⟨b31,hm⟩|⟨b31,hm⟩
     ·refine q_du [qd 10 dN (HK g25),qf 12 b26,qk 14 [83,84] 4 ⟨[(83,vb false),(84,vc (tl qC default a2))],[]⟩ (qBO a2 v27 h28),qd 22 (dex (cen [] [] 5 0 (AY v29) (GJ v29) [83,85,92] [4])) (wG (K:=(kx E 116 0)) (b:=false) ⟨[(83,vb false),(85,vo 4 0 1 v27.length),(92,vi (w64 ((((v15.1.getD x22.toNat default).at_).B)-(((v15.1.getD x22.toNat default).at_).A))))],[(4,ro 0 3 1 v27.length (rf e_i64 v27))]⟩ (opAt (rg Tryz.f23 16018) 22) [] [] 5 (o1 (Nat.le_refl v27.length)) rfl (qIi v27 (w64 ((((v15.1.getD x22.toNat default).at_).B)-(((v15.1.getD x22.toNat default).at_).A))) v29 h30) (.inr ⟨(by kernel_rfl),qKT v29⟩) (by kernel_rfl)),qf 25 b31] [0,1,3,0,8,24,56,127,0,256,1023,2047,4095,8191,16383,8191,40959,106495,8191,270335,794623,2072575,4194303,8388607,16777215,33554431,67108863,134217727,67108863,67108863,872415231,1946157055,4093640703,67108863,67108863,25836912639,60196651007,128916127743,274877906943,67108863,67108863,67108863,4398046511103,8796093022207,17592186044415] 4 [10] [(115,vb true)] [3] [] ?_
      exact q_J (true) hm
     ·obtain⟨g32,hm⟩:=qE hm;obtain⟨v33,h34,hm⟩:=qA hm
      refine q_du [qd 10 dN (HK g25),qf 12 b26,qk 14 [83,84] 4 ⟨[(83,vb false),(84,vc (tl qC default a2))],[]⟩ (qBO a2 v27 h28),qd 22 (dex (cen [] [] 5 0 (AY v29) (GJ v29) [83,85,92] [4])) (wG (K:=(kx E 116 0)) (b:=false) ⟨[(83,vb false),(85,vo 4 0 1 v27.length),(92,vi (w64 ((((v15.1.getD x22.toNat default).at_).B)-(((v15.1.getD x22.toNat default).at_).A))))],[(4,ro 0 3 1 v27.length (rf e_i64 v27))]⟩ (opAt (rg Tryz.f23 16018) 22) [] [] 5 (o1 (Nat.le_refl v27.length)) rfl (qIi v27 (w64 ((((v15.1.getD x22.toNat default).at_).B)-(((v15.1.getD x22.toNat default).at_).A))) v29 h30) (.inr ⟨(by kernel_rfl),qKT v29⟩) (by kernel_rfl)),qf 25 b31,qi 30 g24,qd 32 dN (toNat_lt (inb_of g24)),qi 35 g24,qd 37 dN (toNat_lt (inb_of g24)),qd 38 (drw (((a1.Nodes.drop (((v15.1.getD x22.toNat default).from_).toNat)).take (((v15.1.getD x22.toNat default).to).toNat-((v15.1.getD x22.toNat default).from_).toNat)).length) 0 (rf e_Node ((a1.Nodes.drop (((v15.1.getD x22.toNat default).from_).toNat)).take (((v15.1.getD x22.toNat default).to).toNat-((v15.1.getD x22.toNat default).from_).toNat)))) (slPlh e_Node default a1.Nodes ((v15.1.getD x22.toNat default).from_) ((v15.1.getD x22.toNat default).to) (slOk_of g32)),qk 42 [96,109,110,111,112] 5 ⟨[(96,vb false),(109,vc (tl e_Node default ((a1.Nodes.drop (((v15.1.getD x22.toNat default).from_).toNat)).take (((v15.1.getD x22.toNat default).to).toNat-((v15.1.getD x22.toNat default).from_).toNat)))),(110,va [ci a1.Frame.X.A,ci a1.Frame.X.B,ci (((v15.1.getD x22.toNat default).at_).A),ci (((v15.1.getD x22.toNat default).at_).B)]),(111,vc (tl qC default a2)),(112,va (zD a3))],[]⟩ (qJH ((a1.Nodes.drop (((v15.1.getD x22.toNat default).from_).toNat)).take (((v15.1.getD x22.toNat default).to).toNat-((v15.1.getD x22.toNat default).from_).toNat)) (Rect.mk a1.Frame.X ((v15.1.getD x22.toNat default).at_)) a2 a3 v33 h34)] [0,1,3,0,8,24,56,127,0,256,1023,2047,4095,8191,16383,8191,40959,106495,8191,270335,794623,2072575,4194303,8388607,16777215,33554431,67108863,134217727,67108863,67108863,872415231,1946157055,4093640703,67108863,67108863,25836912639,60196651007,128916127743,274877906943,67108863,67108863,67108863,4398046511103,8796093022207,17592186044415] 4 [10] [(115,vb (!v33))] [3] [] ?_
      exact q_J (!v33) hm
  ·refine q_ex 0 ?_;obtain rfl:=oi hm;exact wA () (by kernel_rfl) (by kernel_rfl)
theorem qDi (a1:Pattern) (a2:List Product) (a3:Saw) (r:Bool) (hm:UK a1 a2 a3=some r):CtX Tryz.prog globs 23 0 0 [.agg (QQ a1),.one (tl qC default a2),.agg (zD a3)] [] (OG r) (CF r):=by
 unfold UK at hm;refine q_E Tryz.f23 116 λE=>?_;refine s_vn [] 0 ⟨[(1,vc (tl qC default a2)),(3,vp 0 0),(5,vp 1 0)],[(0,bx 46 (QQ a1)),(1,bx 38 (zD a3))]⟩ ?_;refine q_sq ?_;refine q_jn (qHE a1 a2 a3) (λp=>ZJ a1 a2 a3 p=some r) ?_ ?_
 ·rintro x13 hm;refine q_cm hm (λb14 hm=>?_) (λb14 hm=>?_)
  ·refine s_vn [] 2 ⟨[(6,vb false)],[]⟩ ?_;obtain rfl:=oi hm;refine q_rt ?_;exact q_rm
  ·refine q_sk ?_;obtain⟨v15,h16,hm⟩:=qA hm;refine s_vu [qk 7 [34,37,39] 2 ⟨[(34,vc (tl e_Node default a1.Nodes)),(37,va (e_Span a1.Frame.Y)),(39,vi a3.Kerf)],[]⟩ (qEe a1.Nodes a1.Frame.Y 3 a3.Kerf v15 h16)] 2 [31] [(7,vo 2 0 4 v15.1.length),(8,vb v15.2)] [] [(2,ro 0 110 4 v15.1.length (rf qM v15.1))] ?_;refine q_sq ?_;refine q_jn (qHG a1 a2 a3 v15) (λp=>BQ a1 a2 a3 v15 p=some r) ?_ ?_
   ·rintro x20 hm;refine q_cm hm (λb21 hm=>?_) (λb21 hm=>?_)
    ·refine s_vn [] 3 ⟨[(6,vb false)],[]⟩ ?_;obtain rfl:=oi hm;refine q_rt ?_;exact q_rm
    ·refine q_sk ?_;refine q_sq ?_;refine s_vv [] 3 [55] [(9,vi 0)] ?_;obtain⟨u39,h38,hm⟩:=qA hm;refine zA (nd Tryz.f23 500) 0 (by kernel_rfl) FUEL (λo=>qBc) (λv st=>RetQ Tryz.prog Tryz.f23 (OG v) (CF v) .ret st) u39 (q_hl (MP a1 a2 a3 v15 0) (qG1 E a1 a2 a3 v15 FUEL 0 u39 h38)) ?_ ?_
     ·rintro v40 rfl st hr;obtain rfl:=oi hm;exact hr
     ·rintro o37 rfl;replace hm:_=some r:=hm;refine s_vn [] 3 ⟨[(6,vb true)],[]⟩ ?_;obtain rfl:=oi hm;refine q_rt ?_;exact q_rm
   ·rcases bif_c hm with⟨b17,hm⟩|⟨b17,hm⟩
    ·refine q_vv [qf 2 b17] 3 [8] [(55,vb true)] ?_;exact q_J (true) hm
    ·obtain⟨v18,h19,hm⟩:=qA hm;refine q_vv [qf 2 b17,qd 10 (dex (cen [] [] 3 0 (qCj v18) (FV v18) [45,47,49,51,52] [2])) (wG (K:=(kx E 116 0)) (b:=false) ⟨[(45,vb false),(47,vc (tl e_Node default a1.Nodes)),(49,va (qH a1.Frame)),(51,vi a3.Kerf),(52,vo 2 0 4 v15.1.length)],[(2,ro 0 110 4 v15.1.length (rf qM v15.1))]⟩ (opAt (rg Tryz.f23 60) 10) [] [] 3 (o1 (Nat.le_refl v15.1.length)) rfl (qFl a1.Nodes a1.Frame 3 a3.Kerf v15.1 v18 h19) (.inr ⟨(by kernel_rfl),qG5 v18⟩) (by kernel_rfl))] 3 [8] [(55,vb (!v18))] ?_;exact q_J (!v18) hm
 ·obtain⟨v4,h5,hm⟩:=qA hm;rcases bif_c hm with⟨b6,hm⟩|⟨b6,hm⟩
  ·refine q_vv [qc 1 [11] 2 (XZ a2 v4 h5),qf 3 b6] 2 [] [(31,vb true)] ?_;exact q_J (true) hm
  ·obtain⟨v7,h8,hm⟩:=qA hm;rcases bif_c hm with⟨b9,hm⟩|⟨b9,hm⟩
   ·refine q_vv [qc 1 [11] 2 (XZ a2 v4 h5),qf 3 b6,qk 6 [14,15,16] 2 ⟨[(14,vb false),(15,va (zD a3)),(16,va [ci 0,ci 0,ci 0])],[]⟩ (OH a3 (Rates.mk 0 0 0) v7 h8),qf 9 b9] 2 [] [(31,vb true)] ?_;exact q_J (true) hm
   ·obtain⟨v10,h11,hm⟩:=qA hm;rcases bif_c hm with⟨b12,hm⟩|⟨b12,hm⟩
    ·refine q_vv [qc 1 [11] 2 (XZ a2 v4 h5),qf 3 b6,qk 6 [14,15,16] 2 ⟨[(14,vb false),(15,va (zD a3)),(16,va [ci 0,ci 0,ci 0])],[]⟩ (OH a3 (Rates.mk 0 0 0) v7 h8),qf 9 b9,qk 12 [20,22] 2 ⟨[(20,vb false),(22,va (qH a1.Frame))],[]⟩ (BH a1.Frame v10 h11),qf 15 b12] 2 [] [(31,vb true)] ?_;exact q_J (true) hm
    ·refine q_vv [qc 1 [11] 2 (XZ a2 v4 h5),qf 3 b6,qk 6 [14,15,16] 2 ⟨[(14,vb false),(15,va (zD a3)),(16,va [ci 0,ci 0,ci 0])],[]⟩ (OH a3 (Rates.mk 0 0 0) v7 h8),qf 9 b9,qk 12 [20,22] 2 ⟨[(20,vb false),(22,va (qH a1.Frame))],[]⟩ (BH a1.Frame v10 h11),qf 15 b12] 2 [] [(31,vb (decide (((a1.Nodes.length:Nat):Int)>127)))] ?_;exact q_J (decide (((a1.Nodes.length:Nat):Int)>127)) hm
end Saw
end Go.SL
