import Derived.Test.YtidlfgiogdjkaaaGreatDoorEBase
import Derived.Test.YtidlfgiogdjkaaaGreatDoorEFa1
set_option linter.unusedVariables false
set_option linter.unusedSimpArgs false
namespace Go.SL
namespace Saw
open Go.Proofs
set_option maxHeartbeats 4000000
set_option maxRecDepth 100000
def yS (r:Int):V:=vi r
def QB (r:Int):List (Nat×(Nat×O)):=[]
def GP (a1:Product) (x18:Int) (x26:Bool):St:=
 ⟨[(1,vp 0 0),(70,vc (tl e_i64 default a1.Lengths)),(71,vi ((a1.Lengths.length:Nat):Int)),(72,vi x18),(94,vb x26)],[(0,bx 54 (qC a1))]⟩
def GZ (a1:Product) (x18:Int) (x22:Bool):St:=
 ⟨[(1,vp 0 0),(5,vi x18),(6,vi (a1.Lengths.getD x18.toNat default)),(70,vc (tl e_i64 default a1.Lengths)),(71,vi ((a1.Lengths.length:Nat):Int)),(72,vi x18),(82,vb x22)],[(0,bx 54 (qC a1))]⟩
def YK (a1:Product) (x18:Int):St:=
 ⟨[(1,vp 0 0),(70,vc (tl e_i64 default a1.Lengths)),(71,vi ((a1.Lengths.length:Nat):Int)),(72,vi x18)],[(0,bx 54 (qC a1))]⟩
def GL (a1:Product):St:=
 ⟨[(1,vp 0 0)],[(0,bx 54 (qC a1))]⟩
def DC (a1:Product) (x32:Int) (x36:Bool):St:=
 ⟨[(97,vc (tl e_i64 default a1.Prices)),(98,vi ((a1.Prices.length:Nat):Int)),(99,vi x32),(108,vb x36)],[]⟩
def YJ (a1:Product) (x32:Int):St:=
 ⟨[(97,vc (tl e_i64 default a1.Prices)),(98,vi ((a1.Prices.length:Nat):Int)),(99,vi x32)],[]⟩
def GH :St:=
 ⟨[],[]⟩
def GQ (a1:Product) (x10:Bool):St:=
 ⟨[(1,vp 0 0),(46,vb x10)],[(0,bx 54 (qC a1))]⟩
def GX (a1:Product) (x5:Bool):St:=
 ⟨[(1,vp 0 0),(28,vb x5)],[(0,bx 54 (qC a1))]⟩
theorem CW (E:Env 0) (a1:Product):∀(n:Nat) (x18:Int) (res:Int⊕Unit),zE a1 n x18=some res->HL (kx E 110 0) (nd Tryz.f74 4084) (wY 0 (λo=>GL a1) (λv st=>RetQ Tryz.prog Tryz.f74 (yS v) (QB v) .ret st) res) n (YK a1 x18):=by
 intro n
 induction n with
 |zero=>
  intro x18 res hm;cases hm
 |succ n ih=>
  intro x18 res hm;refine qM ?_;refine s_vu [] 1 [] [(73,vb (decide (x18<((a1.Lengths.length:Nat):Int))))] [] [] ?_;refine q_sq ?_;refine q_cm hm (λb19 hm=>?_) (λb19 hm=>?_)
  ·refine q_sk ?_;refine q_sq ?_;refine q_bk 1 ?_;obtain⟨g20,hm⟩:=qI hm;refine s_vu [qd 1 (Dir.none) (inb_of g20)] 1 [73] [(5,vi x18),(6,vi (a1.Lengths.getD x18.toNat default))] [] [] ?_;refine q_sq ?_;refine q_jn (ι:=Bool) (λp=>GZ a1 x18 p) (λp=>ZY a1 x18 (zE a1 n) p=some res) ?_ ?_
   ·rintro x22 hm;show H _ (GZ a1 x18 x22) _ _;refine q_cm hm (λb23 hm=>?_) (λb23 hm=>?_)
    ·refine s_vn [] 1 ⟨[(2,vi 9)],[]⟩ ?_;obtain rfl:=oi hm;refine q_rt ?_;refine zH 9 ?_;exact q_rm
    ·refine q_sk ?_;refine q_jn (ι:=Bool) (λp=>GP a1 x18 p) (λp=>ZU x18 (zE a1 n) p=some res) ?_ ?_
     ·rintro x26 hm;show H _ (GP a1 x18 x26) _ _;refine q_cm hm (λb27 hm=>?_) (λb27 hm=>?_)
      ·refine s_vn [] 1 ⟨[(2,vi 11)],[]⟩ ?_;obtain rfl:=oi hm;refine q_rt ?_;refine zH 11 ?_;exact q_rm
      ·refine q_sk ?_;refine q_vu [] 1 [72,94] [(72,vi (w64 (x18+1)))] [] [] ?_;exact q_hl (YK a1 (w64 (x18+1))) (ih (w64 (x18+1)) _ hm)
     ·rcases bif_c hm with⟨b24,hm⟩|⟨b24,hm⟩
      ·obtain⟨g25,hm⟩:=qI hm;refine q_vu [qf 2 b24,qd 8 (Dir.none) (inb_of g25)] 1 [5,6,82] [(94,vb (decide ((a1.Lengths.getD x18.toNat default)<=(a1.Lengths.getD (w64 (x18-1)).toNat default))))] [] [] ?_;exact q_J (decide ((a1.Lengths.getD x18.toNat default)<=(a1.Lengths.getD (w64 (x18-1)).toNat default))) hm
      ·refine q_vu [qf 2 b24] 1 [5,6,82] [(94,vb false)] [] [] ?_;exact q_J (false) hm
   ·rcases bif_c hm with⟨b21,hm⟩|⟨b21,hm⟩
    ·refine q_vu [qf 2 b21] 1 [] [(82,vb true)] [] [] ?_;exact q_J (true) hm
    ·refine q_vu [qf 2 b21] 1 [] [(82,vb (decide ((a1.Lengths.getD x18.toNat default)>20000)))] [] [] ?_;exact q_J (decide ((a1.Lengths.getD x18.toNat default)>20000)) hm
  ·refine q_ex 0 ?_;obtain rfl:=oi hm;exact jI () (by kernel_rfl) (by kernel_rfl)
theorem qAh (E:Env 0) (a1:Product):∀(n:Nat) (x32:Int) (res:Int⊕Unit),zM a1 n x32=some res->HL (kx E 110 0) (nd Tryz.f74 8180) (wY 2 (λo=>GH) (λv st=>RetQ Tryz.prog Tryz.f74 (yS v) (QB v) .ret st) res) n (YJ a1 x32):=by
 intro n
 induction n with
 |zero=>
  intro x32 res hm;cases hm
 |succ n ih=>
  intro x32 res hm;refine qM ?_;refine s_vu [] 1 [] [(100,vb (decide (x32<((a1.Prices.length:Nat):Int))))] [] [] ?_;refine q_sq ?_;refine q_cm hm (λb33 hm=>?_) (λb33 hm=>?_)
  ·refine q_sk ?_;refine q_sq ?_;refine q_bk 3 ?_;obtain⟨g34,hm⟩:=qI hm;refine s_vu [qd 0 (Dir.none) (inb_of g34)] 1 [100] [(8,vi (a1.Prices.getD x32.toNat default))] [] [] ?_;refine q_jn (ι:=Bool) (λp=>DC a1 x32 p) (λp=>ZW x32 (zM a1 n) p=some res) ?_ ?_
   ·rintro x36 hm;show H _ (DC a1 x32 x36) _ _;refine q_cm hm (λb37 hm=>?_) (λb37 hm=>?_)
    ·refine s_vn [] 1 ⟨[(2,vi 9)],[]⟩ ?_;obtain rfl:=oi hm;refine q_rt ?_;refine zH 9 ?_;exact q_rm
    ·refine q_sk ?_;refine q_vu [] 1 [99,108] [(99,vi (w64 (x32+1)))] [] [] ?_;exact q_hl (YJ a1 (w64 (x32+1))) (ih (w64 (x32+1)) _ hm)
   ·rcases bif_c hm with⟨b35,hm⟩|⟨b35,hm⟩
    ·refine q_vu [qf 2 b35] 1 [8] [(108,vb true)] [] [] ?_;exact q_J (true) hm
    ·refine q_vu [qf 2 b35] 1 [8] [(108,vb (decide ((a1.Prices.getD x32.toNat default)>1000000)))] [] [] ?_;exact q_J (decide ((a1.Prices.getD x32.toNat default)>1000000)) hm
  ·refine q_ex 2 ?_;obtain rfl:=oi hm;exact jI () (by kernel_rfl) (by kernel_rfl)
theorem qBS (a1:Product) (r:Int) (hm:QW a1=some r):CtX Tryz.prog globs 74 0 0 [.agg (qC a1)] [] (yS r) (QB r):=by
 unfold QW at hm;refine q_E Tryz.f74 110 λE=>?_;refine s_vn [] 0 ⟨[(1,vp 0 0)],[(0,bx 54 (qC a1))]⟩ ?_;refine q_sq ?_;refine q_jn (ι:=Bool) (λp=>GX a1 p) (λp=>wX a1 p=some r) ?_ ?_
 ·rintro x5 hm;show H _ (GX a1 x5) _ _;refine q_cm hm (λb6 hm=>?_) (λb6 hm=>?_)
  ·refine s_vn [] 1 ⟨[(2,vi 9)],[]⟩ ?_;obtain rfl:=oi hm;refine q_rt ?_;exact q_rm
  ·refine q_sk ?_;refine q_sq ?_;refine q_jn (ι:=Bool) (λp=>GQ a1 p) (λp=>wW a1 p=some r) ?_ ?_
   ·rintro x10 hm;show H _ (GQ a1 x10) _ _;refine q_cm hm (λb11 hm=>?_) (λb11 hm=>?_)
    ·refine s_vn [] 1 ⟨[(2,vi 9)],[]⟩ ?_;obtain rfl:=oi hm;refine q_rt ?_;exact q_rm
    ·refine q_sk ?_;refine q_sq ?_;obtain⟨v12,h13,hm⟩:=qB hm;refine s_vu [qc 1 [48] 1 (XO a1 v12 h13)] 1 [46] [(4,vi v12.2)] [] [] ?_;refine s_vu [] 1 [4] [(53,vb (decide (v12.2>600)))] [] [] ?_;refine q_cm hm (λb14 hm=>?_) (λb14 hm=>?_)
     ·refine s_vn [] 1 ⟨[(2,vi 9)],[]⟩ ?_;obtain rfl:=oi hm;refine q_rt ?_;exact q_rm
     ·refine q_sk ?_;refine q_sq ?_;refine s_vu [] 1 [53] [(57,vb (((a1.Lengths.length:Nat):Int)==0))] [] [] ?_;refine q_cm hm (λb15 hm=>?_) (λb15 hm=>?_)
      ·refine s_vn [] 1 ⟨[(2,vi 3)],[]⟩ ?_;obtain rfl:=oi hm;refine q_rt ?_;exact q_rm
      ·refine q_sk ?_;refine q_sq ?_;refine s_vu [] 1 [57] [(61,vb (decide (((a1.Lengths.length:Nat):Int)>8)))] [] [] ?_;refine q_cm hm (λb16 hm=>?_) (λb16 hm=>?_)
       ·refine s_vn [] 1 ⟨[(2,vi 4)],[]⟩ ?_;obtain rfl:=oi hm;refine q_rt ?_;exact q_rm
       ·refine q_sk ?_;refine q_sq ?_;refine s_vu [] 1 [61] [(68,vb (((a1.Prices.length:Nat):Int) !=((a1.Lengths.length:Nat):Int)))] [] [] ?_;refine q_cm hm (λb17 hm=>?_) (λb17 hm=>?_)
        ·refine s_vn [] 1 ⟨[(2,vi 19)],[]⟩ ?_;obtain rfl:=oi hm;refine q_rt ?_;exact q_rm
        ·refine q_sk ?_;refine q_sq ?_;refine s_vu [] 1 [68] [(70,vc (tl e_i64 default a1.Lengths)),(71,vi ((a1.Lengths.length:Nat):Int)),(72,vi 0)] [] [] ?_;obtain⟨u30,h29,hm⟩:=qB hm;refine zP (nd Tryz.f74 4084) 0 (by kernel_rfl) FUEL (λo=>GL a1) (λv st=>RetQ Tryz.prog Tryz.f74 (yS v) (QB v) .ret st) u30 (q_hl (YK a1 0) (CW E a1 FUEL 0 u30 h29)) ?_ ?_
         ·rintro v31 rfl st hr;obtain rfl:=oi hm;exact hr
         ·rintro o28 rfl;replace hm:_=some r:=hm;refine q_sq ?_;refine s_vn [] 1 ⟨[(97,vc (tl e_i64 default a1.Prices)),(98,vi ((a1.Prices.length:Nat):Int)),(99,vi 0)],[]⟩ ?_;obtain⟨u40,h39,hm⟩:=qB hm;refine zP (nd Tryz.f74 8180) 2 (by kernel_rfl) FUEL (λo=>GH) (λv st=>RetQ Tryz.prog Tryz.f74 (yS v) (QB v) .ret st) u40 (q_hl (YJ a1 0) (qAh E a1 FUEL 0 u40 h39)) ?_ ?_
          ·rintro v41 rfl st hr;obtain rfl:=oi hm;exact hr
          ·rintro o38 rfl;replace hm:_=some r:=hm;refine s_vn [] 1 ⟨[(2,vi 0)],[]⟩ ?_;obtain rfl:=oi hm;refine q_rt ?_;exact q_rm
   ·rcases bif_c hm with⟨b7,hm⟩|⟨b7,hm⟩
    ·refine q_vu [qf 3 b7] 1 [28] [(46,vb true)] [] [] ?_;exact q_J (true) hm
    ·rcases bif_c hm with⟨b8,hm⟩|⟨b8,hm⟩
     ·refine q_vu [qf 3 b7,qf 8 b8] 1 [28] [(46,vb true)] [] [] ?_;exact q_J (true) hm
     ·rcases bif_c hm with⟨b9,hm⟩|⟨b9,hm⟩
      ·refine q_vu [qf 3 b7,qf 8 b8,qf 13 b9] 1 [28] [(46,vb true)] [] [] ?_;exact q_J (true) hm
      ·refine q_vu [qf 3 b7,qf 8 b8,qf 13 b9] 1 [28] [(46,vb (decide (a1.Wane>1000)))] [] [] ?_;exact q_J (decide (a1.Wane>1000)) hm
 ·rcases bif_c hm with⟨b2,hm⟩|⟨b2,hm⟩
  ·refine q_vu [qf 3 b2] 1 [] [(28,vb true)] [] [] ?_;exact q_J (true) hm
  ·rcases bif_c hm with⟨b3,hm⟩|⟨b3,hm⟩
   ·refine q_vu [qf 3 b2,qf 8 b3] 1 [] [(28,vb true)] [] [] ?_;exact q_J (true) hm
   ·rcases bif_c hm with⟨b4,hm⟩|⟨b4,hm⟩
    ·refine q_vu [qf 3 b2,qf 8 b3,qf 15 b4] 1 [] [(28,vb true)] [] [] ?_;exact q_J (true) hm
    ·refine q_vu [qf 3 b2,qf 8 b3,qf 15 b4] 1 [] [(28,vb (decide (a1.Width>600)))] [] [] ?_;exact q_J (decide (a1.Width>600)) hm
def KR (r:Int):V:=vi r
def QX (r:Int):List (Nat×(Nat×O)):=[]
theorem qCg (r:Int):jW (QX r):=by
 intro i k o h;unfold QX at h;cases h
def DK (a1:List Product) (x3:Int):St:=
 ⟨[(0,vc (tl qC default a1)),(11,vc (tl qC default a1)),(12,vi ((a1.length:Nat):Int)),(13,vi x3)],[]⟩
def OI :St:=
 ⟨[],[]⟩
theorem qED (E:Env 0) (a1:List Product):∀(n:Nat) (x3:Int) (res:Int⊕Unit),QI a1 n x3=some res->HL (kx E 38 0) (nd Tryz.f30 116) (wY 0 (λo=>OI) (λv st=>RetQ Tryz.prog Tryz.f30 (KR v) (QX v) .ret st) res) n (DK a1 x3):=by
 intro n
 induction n with
 |zero=>
  intro x3 res hm;cases hm
 |succ n ih=>
  intro x3 res hm;refine qM ?_;refine s_vu [] 0 [] [(14,vb (decide (x3<((a1.length:Nat):Int))))] [] [] ?_;refine q_sq ?_;refine q_cm hm (λb4 hm=>?_) (λb4 hm=>?_)
  ·refine q_sk ?_;refine q_sq ?_;refine q_bk 1 ?_;obtain⟨g5,hm⟩:=qI hm;refine s_vu [qd 1 (Dir.none) (inb_of g5)] 0 [14] [(3,vi x3),(4,vp 0 0)] [] [(0,bx 54 [cs ((a1.getD x3.toNat default).Name),ci ((a1.getD x3.toNat default).Thick),ci ((a1.getD x3.toNat default).Width),ci ((a1.getD x3.toNat default).Allow),ci ((a1.getD x3.toNat default).Wane),tl e_i64 default ((a1.getD x3.toNat default).Lengths),tl e_i64 default ((a1.getD x3.toNat default).Prices)])] ?_;refine q_sq ?_;obtain⟨v6,h7,hm⟩:=qB hm;refine s_vu [qc 2 [19] 1 (qIL ((a1.getD x3.toNat default).Name) v6 h7)] 1 [] [(21,vb (!v6))] [] [] ?_
   refine q_cm hm (λb8 hm=>?_) (λb8 hm=>?_)
   ·refine s_vn [] 1 ⟨[(2,vi 6)],[]⟩ ?_;obtain rfl:=oi hm;refine q_rt ?_;refine zH 6 ?_;exact q_rm
   ·refine q_sk ?_;refine q_sq ?_;obtain⟨g9,hm⟩:=qI hm;obtain⟨v10,h11,hm⟩:=qB hm;refine s_du [qd 2 (drw ((a1.take x3.toNat).length) 0 (rf qC (a1.take x3.toNat))) (slPhi qC default a1 x3 (And.intro (slOk_of g9).2.1 (slOk_of g9).2.2)),qc 5 [25,27] 1 (qIn (a1.take x3.toNat) ((a1.getD x3.toNat default).Name) v10 h11)] [0,0,3,0,8,31,63,127,127,255,1023] 1 [3,21] [(6,vb v10.2)] [] [] ?_;refine s_vu [] 1 [6] [(31,vb v10.2)] [] [] ?_;refine q_cm hm (λb12 hm=>?_) (λb12 hm=>?_)
    ·refine s_vn [] 1 ⟨[(2,vi 7)],[]⟩ ?_;obtain rfl:=oi hm;refine q_rt ?_;refine zH 7 ?_;exact q_rm
    ·refine q_sk ?_;obtain⟨v13,h14,hm⟩:=qB hm;refine s_vu [qc 1 [32] 1 (qBS (a1.getD x3.toNat default) v13 h14)] 1 [4,31] [(7,vi v13)] [0] [] ?_;refine s_vu [] 1 [] [(35,vb (v13 !=0))] [] [] ?_;refine q_cm hm (λb15 hm=>?_) (λb15 hm=>?_)
     ·refine s_vn [] 1 ⟨[(2,vi v13)],[]⟩ ?_;obtain rfl:=oi hm;refine q_rt ?_;refine zH v13 ?_;exact q_rm
     ·refine q_sk ?_;refine q_vu [] 1 [7,13,35] [(13,vi (w64 (x3+1)))] [] [] ?_;exact q_hl (DK a1 (w64 (x3+1))) (ih (w64 (x3+1)) _ hm)
  ·refine q_ex 0 ?_;obtain rfl:=oi hm;exact jI () (by kernel_rfl) (by kernel_rfl)
theorem wZ (a1:List Product) (r:Int) (hm:jH a1=some r):CtX Tryz.prog globs 30 0 0 [.one (tl qC default a1)] [] (KR r) (QX r):=by
 unfold jH at hm;refine q_E Tryz.f30 38 λE=>?_;refine s_vn [] 0 ⟨[(0,vc (tl qC default a1))],[]⟩ ?_;refine q_sq ?_;refine s_vu [] 0 [] [(10,vb (decide (((a1.length:Nat):Int)>16)))] [] [] ?_;refine q_cm hm (λb2 hm=>?_) (λb2 hm=>?_)
 ·refine s_vn [] 0 ⟨[(2,vi 4)],[]⟩ ?_;obtain rfl:=oi hm;refine q_rt ?_;exact q_rm
 ·refine q_sk ?_;refine q_sq ?_;refine s_vu [] 0 [10] [(11,vc (tl qC default a1)),(12,vi ((a1.length:Nat):Int)),(13,vi 0)] [] [] ?_;obtain⟨u18,h17,hm⟩:=qB hm;refine zP (nd Tryz.f30 116) 0 (by kernel_rfl) FUEL (λo=>OI) (λv st=>RetQ Tryz.prog Tryz.f30 (KR v) (QX v) .ret st) u18 (q_hl (DK a1 0) (qED E a1 FUEL 0 u18 h17)) ?_ ?_
  ·rintro v19 rfl st hr;obtain rfl:=oi hm;exact hr
  ·rintro o16 rfl;replace hm:_=some r:=hm;refine s_vn [] 0 ⟨[(2,vi 0)],[]⟩ ?_;obtain rfl:=oi hm;refine q_rt ?_;exact q_rm
def qJB (r:Bool):V:=vb r
def qJs (r:Bool):List (Nat×(Nat×O)):=[]
def qAn (x3:Bool):St:=
 ⟨[(2,vb x3)],[]⟩
theorem qCy (a1:Int) (r:Bool) (hm:TG a1=some r):CtX Tryz.prog globs 105 0 0 [.one (ci a1)] [] (qJB r) (qJs r):=by
 unfold TG at hm;refine q_E Tryz.f105 9 λE=>?_;refine s_vn [] 0 ⟨[(0,vi a1)],[]⟩ ?_;refine q_jn (ι:=Bool) (λp=>qAn p) (λp=>GM p=some r) ?_ ?_
 ·rintro x3 hm;show H _ (qAn x3) _ _;obtain rfl:=oi hm;refine q_rt ?_;exact q_rm
 ·rcases bif_c hm with⟨b2,hm⟩|⟨b2,hm⟩
  ·refine q_vn [qf 2 b2] 0 ⟨[(2,vb (decide (a1<=1000000)))],[]⟩ ?_;exact q_J (decide (a1<=1000000)) hm
  ·refine q_vn [qf 2 b2] 0 ⟨[(2,vb false)],[]⟩ ?_;exact q_J (false) hm
def qJZ (r:Bool):V:=vb r
def qJo (r:Bool):List (Nat×(Nat×O)):=[]
def qAv (x3:Bool):St:=
 ⟨[(2,vb x3)],[]⟩
theorem HU (a1:Int) (r:Bool) (hm:RQ a1=some r):CtX Tryz.prog globs 104 0 0 [.one (ci a1)] [] (qJZ r) (qJo r):=by
 unfold RQ at hm;refine q_E Tryz.f104 9 λE=>?_;refine s_vn [] 0 ⟨[(0,vi a1)],[]⟩ ?_;refine q_jn (ι:=Bool) (λp=>qAv p) (λp=>GR p=some r) ?_ ?_
 ·rintro x3 hm;show H _ (qAv x3) _ _;obtain rfl:=oi hm;refine q_rt ?_;exact q_rm
 ·rcases bif_c hm with⟨b2,hm⟩|⟨b2,hm⟩
  ·refine q_vn [qf 2 b2] 0 ⟨[(2,vb (decide (a1<=20000)))],[]⟩ ?_;exact q_J (decide (a1<=20000)) hm
  ·refine q_vn [qf 2 b2] 0 ⟨[(2,vb false)],[]⟩ ?_;exact q_J (false) hm
def qLi (r:Int):V:=vi r
def qLf (r:Int):List (Nat×(Nat×O)):=[]
def qBs (x20:Bool):St:=
 ⟨[(60,vb x20)],[]⟩
def qBd (a2:Rates) (x12:Bool):St:=
 ⟨[(3,vp 1 0),(36,vb x12)],[(1,bx 40 (qR a2))]⟩
def qBg (a1:Saw) (a2:Rates) (x6:Bool):St:=
 ⟨[(2,vp 0 0),(3,vp 1 0),(22,vb x6)],[(0,bx 38 (qU a1)),(1,bx 40 (qR a2))]⟩
theorem NI (a1:Saw) (a2:Rates) (r:Int) (hm:YV a1 a2=some r):CtX Tryz.prog globs 50 0 0 [.agg (qU a1),.agg (qR a2)] [] (qLi r) (qLf r):=by
 unfold YV at hm;refine q_E Tryz.f50 61 λE=>?_;refine s_vn [] 0 ⟨[(2,vp 0 0),(3,vp 1 0)],[(0,bx 38 (qU a1)),(1,bx 40 (qR a2))]⟩ ?_;refine q_sq ?_;refine q_jn (ι:=Bool) (λp=>qBg a1 a2 p) (λp=>YY a1 a2 p=some r) ?_ ?_
 ·rintro x6 hm;show H _ (qBg a1 a2 x6) _ _;refine q_cm hm (λb7 hm=>?_) (λb7 hm=>?_)
  ·refine s_vn [] 2 ⟨[(4,vi 9)],[]⟩ ?_;obtain rfl:=oi hm;refine q_rt ?_;exact q_rm
  ·refine q_sk ?_;refine q_sq ?_;refine q_jn (ι:=Bool) (λp=>qBd a2 p) (λp=>RN a2 p=some r) ?_ ?_
   ·rintro x12 hm;show H _ (qBd a2 x12) _ _;refine q_cm hm (λb13 hm=>?_) (λb13 hm=>?_)
    ·refine s_vn [] 2 ⟨[(4,vi 9)],[]⟩ ?_;obtain rfl:=oi hm;refine q_rt ?_;exact q_rm
    ·refine q_sk ?_;refine q_sq ?_;refine q_jn (ι:=Bool) (λp=>qBs p) (λp=>WJ p=some r) ?_ ?_
     ·rintro x20 hm;show H _ (qBs x20) _ _;refine q_cm hm (λb21 hm=>?_) (λb21 hm=>?_)
      ·refine s_vn [] 2 ⟨[(4,vi 9)],[]⟩ ?_;obtain rfl:=oi hm;refine q_rt ?_;exact q_rm
      ·refine q_sk ?_;refine s_vn [] 2 ⟨[(4,vi 0)],[]⟩ ?_;obtain rfl:=oi hm;refine q_rt ?_;exact q_rm
     ·rcases bif_c hm with⟨b14,hm⟩|⟨b14,hm⟩
      ·refine q_vn [qf 3 b14] 2 ⟨[(60,vb true)],[]⟩ ?_;exact q_J (true) hm
      ·rcases bif_c hm with⟨b15,hm⟩|⟨b15,hm⟩
       ·refine q_vn [qf 3 b14,qf 8 b15] 2 ⟨[(60,vb true)],[]⟩ ?_;exact q_J (true) hm
       ·rcases bif_c hm with⟨b16,hm⟩|⟨b16,hm⟩
        ·refine q_vn [qf 3 b14,qf 8 b15,qf 13 b16] 2 ⟨[(60,vb true)],[]⟩ ?_;exact q_J (true) hm
        ·rcases bif_c hm with⟨b17,hm⟩|⟨b17,hm⟩
         ·refine q_vn [qf 3 b14,qf 8 b15,qf 13 b16,qf 18 b17] 2 ⟨[(60,vb true)],[]⟩ ?_;exact q_J (true) hm
         ·obtain⟨v18,h19,hm⟩:=qB hm;refine q_vn [qf 3 b14,qf 8 b15,qf 13 b16,qf 18 b17,qk 21 [55,57] 2 ⟨[(55,vb false),(57,vi a2.Fine)],[]⟩ (qCy a2.Fine v18 h19)] 2 ⟨[(60,vb (!v18))],[]⟩ ?_;exact q_J (!v18) hm
   ·rcases bif_c hm with⟨b8,hm⟩|⟨b8,hm⟩
    ·refine q_vu [qf 3 b8] 2 [2,22] [(36,vb true)] [0] [] ?_;exact q_J (true) hm
    ·rcases bif_c hm with⟨b9,hm⟩|⟨b9,hm⟩
     ·refine q_vu [qf 3 b8,qf 8 b9] 2 [2,22] [(36,vb true)] [0] [] ?_;exact q_J (true) hm
     ·obtain⟨v10,h11,hm⟩:=qB hm;refine q_vu [qf 3 b8,qf 8 b9,qk 11 [31,33] 2 ⟨[(31,vb false),(33,vi a1.Step)],[]⟩ (HU a1.Step v10 h11)] 2 [2,22] [(36,vb (!v10))] [0] [] ?_;exact q_J (!v10) hm
 ·rcases bif_c hm with⟨b3,hm⟩|⟨b3,hm⟩
  ·refine q_vu [qf 3 b3] 2 [] [(22,vb true)] [] [] ?_;exact q_J (true) hm
  ·rcases bif_c hm with⟨b4,hm⟩|⟨b4,hm⟩
   ·refine q_vu [qf 3 b3,qf 8 b4] 2 [] [(22,vb true)] [] [] ?_;exact q_J (true) hm
   ·rcases bif_c hm with⟨b5,hm⟩|⟨b5,hm⟩
    ·refine q_vu [qf 3 b3,qf 8 b4,qf 13 b5] 2 [] [(22,vb true)] [] [] ?_;exact q_J (true) hm
    ·refine q_vu [qf 3 b3,qf 8 b4,qf 13 b5] 2 [] [(22,vb (decide (a1.Trim>20)))] [] [] ?_;exact q_J (decide (a1.Trim>20)) hm
def FK (r:Int):V:=vi r
def FE (r:Int):List (Nat×(Nat×O)):=[]
def ST (a1:Rect) (x5:Int) (x9:Bool):St:=
 ⟨[(33,va (qE a1)),(34,vi x5),(42,vb x9)],[]⟩
def TW (a1:Rect) (x5:Int):St:=
 ⟨[(33,va (qE a1)),(34,vi x5)],[]⟩
def HN :St:=
 ⟨[],[]⟩
def HP (a1:Rect) (x3:Bool):St:=
 ⟨[(1,vp 0 0),(20,vb x3)],[(0,bx 33 (qE a1))]⟩
theorem qDa (E:Env 0) (a1:Rect):∀(n:Nat) (x5:Int) (res:Int⊕Unit),zA a1 n x5=some res->HL (kx E 44 0) (nd Tryz.f51 116) (wY 0 (λo=>HN) (λv st=>RetQ Tryz.prog Tryz.f51 (FK v) (FE v) .ret st) res) n (TW a1 x5):=by
 intro n
 induction n with
 |zero=>
  intro x5 res hm;cases hm
 |succ n ih=>
  intro x5 res hm;refine qM ?_;refine s_vu [] 1 [] [(35,vb (decide (x5<4)))] [] [] ?_;refine q_sq ?_;refine q_cm hm (λb6 hm=>?_) (λb6 hm=>?_)
  ·refine q_sk ?_;refine q_sq ?_;refine q_bk 1 ?_;obtain⟨g7,hm⟩:=qI hm;refine s_vu [qd 0 (Dir.none) (inb_of g7)] 1 [35] [(4,vi (([a1.X.A,a1.X.B,a1.Y.A,a1.Y.B]:List Int).getD x5.toNat 0))] [] [] ?_;refine q_jn (ι:=Bool) (λp=>ST a1 x5 p) (λp=>BK x5 (zA a1 n) p=some res) ?_ ?_
   ·rintro x9 hm;show H _ (ST a1 x5 x9) _ _;refine q_cm hm (λb10 hm=>?_) (λb10 hm=>?_)
    ·refine s_vn [] 1 ⟨[(2,vi 9)],[]⟩ ?_;obtain rfl:=oi hm;refine q_rt ?_;refine zH 9 ?_;exact q_rm
    ·refine q_sk ?_;refine q_vu [] 1 [34,42] [(34,vi (w64 (x5+1)))] [] [] ?_;exact q_hl (TW a1 (w64 (x5+1))) (ih (w64 (x5+1)) _ hm)
   ·rcases bif_c hm with⟨b8,hm⟩|⟨b8,hm⟩
    ·refine q_vu [qf 2 b8] 1 [4] [(42,vb true)] [] [] ?_;exact q_J (true) hm
    ·refine q_vu [qf 2 b8] 1 [4] [(42,vb (decide ((([a1.X.A,a1.X.B,a1.Y.A,a1.Y.B]:List Int).getD x5.toNat 0)>600)))] [] [] ?_;exact q_J (decide ((([a1.X.A,a1.X.B,a1.Y.A,a1.Y.B]:List Int).getD x5.toNat 0)>600)) hm
  ·refine q_ex 0 ?_;obtain rfl:=oi hm;exact jI () (by kernel_rfl) (by kernel_rfl)
theorem CT (a1:Rect) (r:Int) (hm:yO a1=some r):CtX Tryz.prog globs 51 0 0 [.agg (qE a1)] [] (FK r) (FE r):=by
 unfold yO at hm;refine q_E Tryz.f51 44 λE=>?_;refine s_vn [] 0 ⟨[(1,vp 0 0)],[(0,bx 33 (qE a1))]⟩ ?_;refine q_sq ?_;refine q_jn (ι:=Bool) (λp=>HP a1 p) (λp=>PR a1 p=some r) ?_ ?_
 ·rintro x3 hm;show H _ (HP a1 x3) _ _;refine q_cm hm (λb4 hm=>?_) (λb4 hm=>?_)
  ·refine s_vn [] 1 ⟨[(2,vi 19)],[]⟩ ?_;obtain rfl:=oi hm;refine q_rt ?_;exact q_rm
  ·refine q_sk ?_;refine q_sq ?_;refine s_vn [] 1 ⟨[(33,va (qE a1)),(34,vi 0)],[]⟩ ?_;obtain⟨u13,h12,hm⟩:=qB hm;refine zP (nd Tryz.f51 116) 0 (by kernel_rfl) FUEL (λo=>HN) (λv st=>RetQ Tryz.prog Tryz.f51 (FK v) (FE v) .ret st) u13 (q_hl (TW a1 0) (qDa E a1 FUEL 0 u13 h12)) ?_ ?_
   ·rintro v14 rfl st hr;obtain rfl:=oi hm;exact hr
   ·rintro o11 rfl;replace hm:_=some r:=hm;refine s_vn [] 1 ⟨[(2,vi 0)],[]⟩ ?_;obtain rfl:=oi hm;refine q_rt ?_;exact q_rm
 ·rcases bif_c hm with⟨b2,hm⟩|⟨b2,hm⟩
  ·refine q_vu [qf 7 b2] 1 [] [(20,vb true)] [] [] ?_;exact q_J (true) hm
  ·refine q_vu [qf 7 b2] 1 [] [(20,vb (decide (a1.Y.A≥a1.Y.B)))] [] [] ?_;exact q_J (decide (a1.Y.A≥a1.Y.B)) hm
def qNr (r:Int):V:=vi r
def qMU (r:Int):List (Nat×(Nat×O)):=[]
theorem qLo (a1:List qA) (a2:List Defect) (a3:List Product) (a4:Rect) (a5:Saw) (a6:Rates) (r:Int) (hm:UO a1 a2 a3 a4 a5 a6=some r):CtX Tryz.prog globs 85 0 0 [.one (tl qG default a1),.one (tl qH default a2),.one (tl qC default a3),.agg (qE a4),.agg (qU a5),.agg (qR a6)] [] (qNr r) (qMU r):=by
 unfold UO at hm;refine q_E Tryz.f85 40 λE=>?_;refine s_vn [] 0 ⟨[(0,vc (tl qG default a1)),(1,vc (tl qH default a2)),(2,vc (tl qC default a3)),(9,vp 0 0),(10,vp 1 0),(11,vp 2 0)],[(0,bx 33 (qE a4)),(1,bx 38 (qU a5)),(2,bx 40 (qR a6))]⟩ ?_;refine q_sq ?_;obtain⟨v7,h8,hm⟩:=qB hm;refine s_vu [qc 1 [17] 3 (WI a1 v7 h8)] 3 [0] [(13,vi v7)] [] [] ?_;refine s_vu [] 3 [] [(20,vb (v7 !=0))] [] [] ?_;refine q_cm hm (λb9 hm=>?_) (λb9 hm=>?_)
 ·refine s_vn [] 3 ⟨[(12,vi v7)],[]⟩ ?_;obtain rfl:=oi hm;refine q_rt ?_;exact q_rm
 ·refine q_sk ?_;refine q_sq ?_;obtain⟨v10,h11,hm⟩:=qB hm;refine s_vu [qc 1 [22] 3 (PS a2 v10 h11)] 3 [1,13,20] [(14,vi v10)] [] [] ?_;refine s_vu [] 3 [] [(25,vb (v10 !=0))] [] [] ?_;refine q_cm hm (λb12 hm=>?_) (λb12 hm=>?_)
  ·refine s_vn [] 3 ⟨[(12,vi v10)],[]⟩ ?_;obtain rfl:=oi hm;refine q_rt ?_;exact q_rm
  ·refine q_sk ?_;refine q_sq ?_;obtain⟨v13,h14,hm⟩:=qB hm;refine s_vu [qc 1 [27] 3 (wZ a3 v13 h14)] 3 [2,14,25] [(15,vi v13)] [] [] ?_;refine s_vu [] 3 [] [(30,vb (v13 !=0))] [] [] ?_;refine q_cm hm (λb15 hm=>?_) (λb15 hm=>?_)
   ·refine s_vn [] 3 ⟨[(12,vi v13)],[]⟩ ?_;obtain rfl:=oi hm;refine q_rt ?_;exact q_rm
   ·refine q_sk ?_;refine q_sq ?_;obtain⟨v16,h17,hm⟩:=qB hm;refine s_vu [qc 2 [32,33] 3 (NI a5 a6 v16 h17)] 3 [10,11,15,30] [(16,vi v16)] [1,2] [] ?_;refine s_vu [] 3 [] [(36,vb (v16 !=0))] [] [] ?_;refine q_cm hm (λb18 hm=>?_) (λb18 hm=>?_)
    ·refine s_vn [] 3 ⟨[(12,vi v16)],[]⟩ ?_;obtain rfl:=oi hm;refine q_rt ?_;exact q_rm
    ·refine q_sk ?_;obtain⟨v19,h20,hm⟩:=qB hm;refine s_vn [qc 1 [38] 3 (CT a4 v19 h20)] 3 ⟨[(12,vi v19)],[]⟩ ?_;obtain rfl:=oi hm;refine q_rt ?_;exact q_rm
def qOa (r:Rect):V:=va (qE r)
def qN9 (r:Rect):List (Nat×(Nat×O)):=[]
theorem qBk (a1:Rect) (a2:Int) (a3:Int) (r:Rect) (hm:NB a1 a2 a3=some r):CtX Tryz.prog globs 187 0 0 [.agg (qE a1),.one (ci a2),.one (ci a3)] [] (qOa r) (qN9 r):=by
 unfold NB at hm;refine q_E Tryz.f187 21 λE=>?_;refine s_vn [] 0 ⟨[(1,vi a2),(2,vi a3),(3,vp 0 0),(6,vp 1 0)],[(0,bx 33 (qE a1)),(1,bx 33 [ci 0,ci 0,ci 0,ci 0])]⟩ ?_;refine s_vn [] 2 ⟨[(6,vp 1 0)],[(1,bx 33 [ci (w64 (a1.X.A+a2)),ci (w64 (a1.X.A+a3)),ci a1.Y.A,ci a1.Y.B])]⟩ ?_;obtain rfl:=oi hm;refine q_rt ?_;exact q_rm
def HO (r:List Node):V:=vo 0 0 2 r.length
def YH (r:List Node):List (Nat×(Nat×O)):=[(0,ro 0 65 2 r.length (rf e_Node r))]
theorem qDY (r:List Node):jW (YH r):=by
 intro i k o h;unfold YH at h;rw[look_cons] at h;split at h
 ·cases h;exact λ_ _=>rfl
 ·cases h
theorem qC9 (a1:List Node) (r:List Node) (hm:JK a1=some r):CtX Tryz.prog globs 211 0 0 [.one (tl e_Node default a1)] [] (HO r) (YH r):=by
 unfold JK at hm;obtain⟨g1,hm⟩:=qI hm;obtain rfl:=Option.some.inj hm;refine qMt (fn:=Tryz.f211) (c:=nd Tryz.f211 1) (nt:=8) (by kernel_rfl) (by kernel_rfl) (by kernel_rfl) (by kernel_rfl) λE=>?_;refine R_sq Tryz.f211 2 3 (by kernel_rfl) ?_;refine R_rn Tryz.f211 2 0 [] [] 0 ⟨[(0,vc (tl e_Node default a1))],[]⟩ o0 (by kernel_rfl) (by kernel_rfl) ?_;refine R_sq Tryz.f211 6 7 (by kernel_rfl) ?_;refine R_sq Tryz.f211 12 13 (by kernel_rfl) ?_
 refine R_nil Tryz.f211 12 1 1 ⟨[(0,vc (tl e_Node default a1)),(3,vc (tl e_Node default a1))],[]⟩ 44 44 65 4 (.tmp 3) a1.length (rf e_Node a1) (by kernel_rfl) (by kernel_rfl) (by kernel_rfl) (λb hb=>?_);refine R_cn Tryz.f211 (.tmp 4) 26 27 (by kernel_rfl) b (by kernel_rfl) (λb6=>?_) (λb6=>?_)
 ·obtain rfl:a1=[]:=List.eq_nil_of_length_eq_zero (hb b6);refine R_sq Tryz.f211 52 53 (by kernel_rfl) ?_;refine R_rn Tryz.f211 52 2 [] [.own 2 0 65 2 (rf e_Node ([]:List Node))] 0 ⟨[(2,vo 0 0 2 0)],[(0,ro 0 65 2 0 (rf e_Node ([]:List Node)))]⟩ o0 (by kernel_rfl) (by kernel_rfl) ?_;refine R_ret (by kernel_rfl) ?_;exact qNl (by kernel_rfl) (by kernel_rfl)
 ·refine qQE (by kernel_rfl) ?_;refine R_sq Tryz.f211 14 15 (by kernel_rfl) ?_
  refine R_rn Tryz.f211 14 3 [(0,drw 0 0 (rf e_Node ([]:List Node))),(2,drw 0 1 (rf e_Node ([]++a1)))] [.len 0 a1.length] 0 ⟨[(2,vo 0 1 2 a1.length)],[(0,ro 1 65 2 a1.length (rf e_Node ([]++a1)))]⟩ (o1 (And.intro (And.intro (litP e_Node default 2 (λ_=>rfl) ([]:List Node) 0 rfl) (apP e_Node default ([]:List Node) a1 0 a1.length 2 16 True trivial rfl rfl (λ_=>rfl) (by have:=zU g1;rw[Nat.zero_add];exact this))) (And.intro (And.intro (Nat.zero_add a1.length) (Nat.zero_add a1.length)) (Nat.zero_add a1.length)))) (by kernel_rfl) (by kernel_rfl) ?_;refine R_ret (by kernel_rfl) ?_
  exact qNl (by kernel_rfl) (by kernel_rfl)
def qAw (a1:List (List Node)) (a2:List Node) (r:(List (List Node))×(List (List Node))):V:=vo 0 0 1 r.2.length
def qAm (a1:List (List Node)) (a2:List Node) (r:(List (List Node))×(List (List Node))):List (Nat×(Nat×O)):=[(0,ro 0 44 1 r.2.length (rf (qD e_Node) r.2)),(1,ro 0 65 2 a2.length (rf e_Node a2))]
theorem qE9 (a1:List (List Node)) (a2:List Node) (r:(List (List Node))×(List (List Node))) (hm:GU a1 a2=some r):CtX Tryz.prog globs 188 2 0 [.one (.own 0 0 1 a1.length),.one (.own 1 0 2 a2.length)] [(0,ro 0 44 1 a1.length (rf (qD e_Node) a1)),(1,ro 0 65 2 a2.length (rf e_Node a2))] (qAw a1 a2 r) (qAm a1 a2 r):=by
 unfold GU at hm;refine q_E Tryz.f188 10 λE=>?_;refine s_vn [] 2 ⟨[(0,vo 0 0 1 a1.length),(1,vo 1 0 2 a2.length)],[(0,ro 0 44 1 a1.length (rf (qD e_Node) a1)),(1,ro 0 65 2 a2.length (rf e_Node a2))]⟩ ?_;obtain⟨v3,h4,hm⟩:=qB hm;obtain⟨g5,hm⟩:=qI hm
 refine s_vu [qd 2 (dex (cen [] [] 2 0 (HO v3) (YH v3) [6] [1])) (wF (K:=(kx E 10 0)) (b:=false) ⟨[(6,vo 1 0 2 a2.length)],[(1,ro 0 65 2 a2.length (rf e_Node a2))]⟩ (opAt (rg Tryz.f188 6) 2) [] [] 2 (o1 (Nat.le_refl a2.length)) rfl (qC9 a2 v3 h4) (.inr ⟨(by kernel_rfl),qDY v3⟩) (by kernel_rfl)),qd 3 (dpr [.frz 2] (drw 3 0 (rf (qD e_Node) ([v3]:List (List Node))))) (Nat.le_refl v3.length),qd 3 (Dir.none) (litP (qD e_Node) default 1 (λ_=>rfl) ([v3]:List (List Node)) 1 rfl),qd 4 (drw 0 1 (rf (qD e_Node) (a1++([v3]:List (List Node))))) (apP (qD e_Node) default a1 ([v3]:List (List Node)) a1.length 1 1 24 (1<=1) (Nat.le_refl _) rfl rfl (λ_=>rfl) (zU g5))] 2 [0,1] [(4,vo 0 1 1 (a1.length+1))] [0] [(0,ro 1 44 1 (a1.length+1) (rf (qD e_Node) (a1++([v3]:List (List Node)))))] ?_
 refine q_fn [.len 0 ((a1++([v3]:List (List Node))).length)] ⟨[(4,vo 0 1 1 ((a1++([v3]:List (List Node))).length))],[(0,ro 1 44 1 ((a1++([v3]:List (List Node))).length) (rf (qD e_Node) (a1++([v3]:List (List Node))))),(1,ro 0 65 2 a2.length (rf e_Node a2))]⟩ (o1 (And.intro (Eq.symm (show(a1++([v3]:List (List Node))).length=(a1.length+1) from(len_app rfl rfl))) (Eq.symm (show(a1++([v3]:List (List Node))).length=(a1.length+1) from(len_app rfl rfl))))) ?_;obtain rfl:=oi hm;refine q_rt ?_;exact q_rm
def qNQ (r:Span):V:=va (e_Span r)
def qOb (r:Span):List (Nat×(Nat×O)):=[]
theorem TN (a1:Span) (a2:Span) (r:Span) (hm:YW a1 a2=some r):CtX Tryz.prog globs 168 0 0 [.agg (e_Span a1),.agg (e_Span a2)] [] (qNQ r) (qOb r):=by
 unfold YW at hm;refine q_E Tryz.f168 24 λE=>?_;refine s_vn [] 0 ⟨[(2,vp 0 0),(3,vp 1 0),(4,vp 2 0)],[(0,bx 31 (e_Span a1)),(1,bx 31 (e_Span a2)),(2,bx 31 [ci 0,ci 0])]⟩ ?_;refine s_vu [] 3 [2,3] [(5,vp 3 0)] [0,1] [(3,bx 31 [ci (imax a1.A a2.A),ci (imin a1.B a2.B)])] ?_;refine q_sq ?_;refine s_vu [] 4 [] [(21,vb (decide ((imax a1.A a2.A)≥(imin a1.B a2.B))))] [] [] ?_;refine q_cm hm (λb3 hm=>?_) (λb3 hm=>?_)
 ·refine s_vu [] 4 [5,21] [] [3] [] ?_;obtain rfl:=oi hm;refine q_rt ?_;exact q_rm
 ·refine q_sk ?_;refine s_vn [] 4 ⟨[(4,vp 2 0)],[(2,bx 31 [ci (imax a1.A a2.A),ci (imin a1.B a2.B)])]⟩ ?_;obtain rfl:=oi hm;refine q_rt ?_;exact q_rm
def qLt (r:Box×Bool):V:= .tup [.agg (ZF r.1),.one (cb r.2)]
def qLs (r:Box×Bool):List (Nat×(Nat×O)):=[]
def qBf (v3:Span) (v5:Span) (v7:Span) (x17:Bool):St:=
 ⟨[(4,vp 2 0),(6,vp 3 0),(35,vb x17)],[(2,bx 128 [ci 0,ci 0,ci 0,ci 0,ci 0,ci 0]),(3,bx 128 [ci v3.A,ci v3.B,ci v5.A,ci v5.B,ci v7.A,ci v7.B])]⟩
theorem qJ0 (a1:Box) (a2:Box) (r:Box×Bool) (hm:IS a1 a2=some r):CtX Tryz.prog globs 206 0 0 [.agg (ZF a1),.agg (ZF a2)] [] (qLt r) (qLs r):=by
 unfold IS at hm;refine q_E Tryz.f206 38 λE=>?_;refine s_vn [] 0 ⟨[(2,vp 0 0),(3,vp 1 0),(4,vp 2 0)],[(0,bx 128 (ZF a1)),(1,bx 128 (ZF a2)),(2,bx 128 [ci 0,ci 0,ci 0,ci 0,ci 0,ci 0])]⟩ ?_;obtain⟨v3,h4,hm⟩:=qB hm;obtain⟨v5,h6,hm⟩:=qB hm;obtain⟨v7,h8,hm⟩:=qB hm;refine s_du [qc 4 [8,10] 3 (TN a1.X a2.X v3 h4),qc 9 [13,15] 3 (TN a1.Y a2.Y v5 h6),qc 14 [18,20] 3 (TN a1.Z a2.Z v7 h8)] [0,1,0,4,15,0,32,0,128,511,0,1024,0,4096,16383,32767,0,131071] 3 [2,3] [(6,vp 3 0)] [0,1] [(3,bx 128 [ci v3.A,ci v3.B,ci v5.A,ci v5.B,ci v7.A,ci v7.B])] ?_;refine q_sq ?_
 refine q_jn (ι:=Bool) (λp=>qBf v3 v5 v7 p) (λp=>TO v3 v5 v7 p=some r) ?_ ?_
 ·rintro x17 hm;show H _ (qBf v3 v5 v7 x17) _ _;refine q_cm hm (λb18 hm=>?_) (λb18 hm=>?_)
  ·refine s_vu [] 4 [6,35] [(5,vb false)] [3] [] ?_;obtain rfl:=oi hm;refine q_rt ?_;exact q_rm
  ·refine q_sk ?_;refine s_vu [] 4 [6,35] [(5,vb true)] [2,3] [(2,bx 128 [ci v3.A,ci v3.B,ci v5.A,ci v5.B,ci v7.A,ci v7.B])] ?_;obtain rfl:=oi hm;refine q_rt ?_;exact q_rm
 ·obtain⟨v9,h10,hm⟩:=qB hm;rcases bif_c hm with⟨b11,hm⟩|⟨b11,hm⟩
  ·refine q_vu [qc 2 [24] 4 (zN v3 v9 h10),qf 3 b11] 4 [] [(35,vb true)] [] [] ?_;exact q_J (true) hm
  ·obtain⟨v12,h13,hm⟩:=qB hm;rcases bif_c hm with⟨b14,hm⟩|⟨b14,hm⟩
   ·refine q_vu [qc 2 [24] 4 (zN v3 v9 h10),qf 3 b11,qk 6 [26,28] 4 ⟨[(26,vb false),(28,va (e_Span v5))],[]⟩ (zN v5 v12 h13),qf 8 b14] 4 [] [(35,vb true)] [] [] ?_;exact q_J (true) hm
   ·obtain⟨v15,h16,hm⟩:=qB hm;refine q_vu [qc 2 [24] 4 (zN v3 v9 h10),qf 3 b11,qk 6 [26,28] 4 ⟨[(26,vb false),(28,va (e_Span v5))],[]⟩ (zN v5 v12 h13),qf 8 b14,qk 11 [31,33] 4 ⟨[(31,vb false),(33,va (e_Span v7))],[]⟩ (zN v7 v15 h16)] 4 [] [(35,vb v15)] [] [] ?_;exact q_J (v15) hm
def qHM (r:Bool):V:=vb r
def qHP (r:Bool):List (Nat×(Nat×O)):=[]
theorem qAz (a1:Defect) (a2:Box) (r:Bool) (hm:XD a1 a2=some r):CtX Tryz.prog globs 175 0 0 [.agg (qH a1),.agg (ZF a2)] [] (qHM r) (qHP r):=by
 unfold XD at hm;refine q_E Tryz.f175 15 λE=>?_;refine s_vn [] 0 ⟨[(2,vp 0 0),(3,vp 1 0)],[(0,bx 212 (qH a1)),(1,bx 128 (ZF a2))]⟩ ?_;obtain⟨v3,h4,hm⟩:=qB hm;refine s_vn [qc 3 [9,10] 2 (qJ0 a1.Box a2 v3 h4)] 2 ⟨[(6,vb v3.2)],[]⟩ ?_;refine s_vn [] 3 ⟨[(4,vb v3.2)],[]⟩ ?_;obtain rfl:=oi hm;refine q_rt ?_;exact q_rm
def qGY (r:Bool):V:=vb r
def qHB (r:Bool):List (Nat×(Nat×O)):=[]
def EL (x5:Bool):St:=
 ⟨[(4,vb x5)],[]⟩
theorem qGj (a1:Span) (a2:Int) (r:Bool) (hm:NP a1 a2=some r):CtX Tryz.prog globs 176 0 0 [.agg (e_Span a1),.one (ci a2)] [] (qGY r) (qHB r):=by
 unfold NP at hm;refine q_E Tryz.f176 21 λE=>?_;refine s_vn [] 0 ⟨[(1,vi a2),(2,vp 0 0)],[(0,bx 31 (e_Span a1))]⟩ ?_;refine q_jn (ι:=Bool) (λp=>EL p) (λp=>YF p=some r) ?_ ?_
 ·rintro x5 hm;show H _ (EL x5) _ _;obtain rfl:=oi hm;refine q_rt ?_;exact q_rm
 ·rcases bif_c hm with⟨b3,hm⟩|⟨b3,hm⟩
  ·rcases bif_c hm with⟨b4,hm⟩|⟨b4,hm⟩
   ·refine q_vn [qf 3 b3,qf 10 b4] 1 ⟨[(4,vb (decide (a1.B<=a2)))],[]⟩ ?_;exact q_J (decide (a1.B<=a2)) hm
   ·refine q_vn [qf 3 b3,qf 10 b4] 1 ⟨[(4,vb false)],[]⟩ ?_;exact q_J (false) hm
  ·refine q_vn [qf 3 b3] 1 ⟨[(4,vb false)],[]⟩ ?_;exact q_J (false) hm
def EE (r:Int×Bool):V:= .tup [.one (ci r.1),.one (cb r.2)]
def SK (r:Int×Bool):List (Nat×(Nat×O)):=[]
def BW (a1:Product) (a2:Int) (x3:Int):St:=
 ⟨[(1,vi a2),(2,vp 0 0),(9,vc (tl e_i64 default a1.Lengths)),(10,vi ((a1.Lengths.length:Nat):Int)),(11,vi x3)],[(0,bx 54 (qC a1))]⟩
def CR :St:=
 ⟨[],[]⟩
theorem qEH (E:Env 0) (a1:Product) (a2:Int):∀(n:Nat) (x3:Int) (res:(Int×Bool)⊕Unit),QG a1 a2 n x3=some res->HL (kx E 30 0) (nd Tryz.f177 52) (wY 0 (λo=>CR) (λv st=>RetQ Tryz.prog Tryz.f177 (EE v) (SK v) .ret st) res) n (BW a1 a2 x3):=by
 intro n
 induction n with
 |zero=>
  intro x3 res hm;cases hm
 |succ n ih=>
  intro x3 res hm;refine qM ?_;refine s_vu [] 1 [] [(12,vb (decide (x3<((a1.Lengths.length:Nat):Int))))] [] [] ?_;refine q_sq ?_;refine q_cm hm (λb4 hm=>?_) (λb4 hm=>?_)
  ·refine q_sk ?_;refine q_sq ?_;refine q_bk 1 ?_;obtain⟨g5,hm⟩:=qI hm;refine s_vu [qd 1 (Dir.none) (inb_of g5)] 1 [12] [(6,vi x3),(7,vi (a1.Lengths.getD x3.toNat default))] [] [] ?_;refine q_sq ?_;refine s_vu [] 1 [7] [(18,vb ((a1.Lengths.getD x3.toNat default) !=a2))] [] [] ?_;refine q_cm hm (λb6 hm=>?_) (λb6 hm=>?_)
   ·refine q_ex 1 ?_;refine q_vu [] 1 [6,11,18] [(11,vi (w64 (x3+1)))] [] [] ?_;exact q_hl (BW a1 a2 (w64 (x3+1))) (ih (w64 (x3+1)) _ hm)
   ·refine q_sk ?_;refine q_sq ?_;refine s_vu [] 1 [1,9,10,11,18] [(23,vb (decide (x3≥((a1.Prices.length:Nat):Int))))] [] [] ?_;refine q_cm hm (λb7 hm=>?_) (λb7 hm=>?_)
    ·refine s_vn [] 1 ⟨[(4,vi 0),(5,vb false)],[]⟩ ?_;obtain rfl:=oi hm;refine q_rt ?_;refine zH (0,false) ?_;exact q_rm
    ·refine q_sk ?_;obtain⟨g8,hm⟩:=qI hm;refine s_vn [qd 3 (Dir.none) (inb_of g8)] 1 ⟨[(4,vi (a1.Prices.getD x3.toNat default)),(5,vb true)],[]⟩ ?_;obtain rfl:=oi hm;refine q_rt ?_;refine zH ((a1.Prices.getD x3.toNat default),true) ?_;exact q_rm
  ·refine q_ex 0 ?_;obtain rfl:=oi hm;exact jI () (by kernel_rfl) (by kernel_rfl)
theorem qHi (a1:Product) (a2:Int) (r:Int×Bool) (hm:UZ a1 a2=some r):CtX Tryz.prog globs 177 0 0 [.agg (qC a1),.one (ci a2)] [] (EE r) (SK r):=by
 unfold UZ at hm;refine q_E Tryz.f177 30 λE=>?_;refine s_vn [] 0 ⟨[(1,vi a2),(2,vp 0 0)],[(0,bx 54 (qC a1))]⟩ ?_;refine q_sq ?_;refine s_vu [] 1 [] [(9,vc (tl e_i64 default a1.Lengths)),(10,vi ((a1.Lengths.length:Nat):Int)),(11,vi 0)] [] [] ?_;obtain⟨u11,h10,hm⟩:=qB hm;refine zP (nd Tryz.f177 52) 0 (by kernel_rfl) FUEL (λo=>CR) (λv st=>RetQ Tryz.prog Tryz.f177 (EE v) (SK v) .ret st) u11 (q_hl (BW a1 a2 0) (qEH E a1 a2 FUEL 0 u11 h10)) ?_ ?_
 ·rintro v12 rfl st hr;obtain rfl:=oi hm;exact hr
 ·rintro o9 rfl;replace hm:_=some r:=hm;refine s_vn [] 1 ⟨[(4,vi 0),(5,vb false)],[]⟩ ?_;obtain rfl:=oi hm;refine q_rt ?_;exact q_rm
def qBb (r:Box):V:=va (ZF r)
def UE (r:Box):List (Nat×(Nat×O)):=[]
theorem qHx (r:Box):jW (UE r):=by
 intro i k o h;unfold UE at h;cases h
theorem qAE (a1:Worth_view) (a2:Span) (r:Box) (hm:YZ a1 a2=some r):CtX Tryz.prog globs 174 0 0 [.agg (DP a1),.agg (e_Span a2)] [] (qBb r) (UE r):=by
 unfold YZ at hm;refine q_E Tryz.f174 13 λE=>?_;refine s_vn [] 0 ⟨[(2,vp 0 0),(3,vp 1 0),(4,vp 2 0)],[(0,bx 186 (DP a1)),(1,bx 31 (e_Span a2)),(2,bx 128 [ci 0,ci 0,ci 0,ci 0,ci 0,ci 0])]⟩ ?_;refine s_vn [] 3 ⟨[(4,vp 2 0)],[(2,bx 128 [ci a1.rect.X.A,ci a1.rect.X.B,ci a1.rect.Y.A,ci a1.rect.Y.B,ci a2.A,ci a2.B])]⟩ ?_;obtain rfl:=oi hm;refine q_rt ?_;exact q_rm
def qLd (r:Int):V:=vi r
def qLe (r:Int):List (Nat×(Nat×O)):=[]
def qBc (a1:List Worth_zone) (a2:Span) (x4:Int) (x10:Int):St:=
 ⟨[(3,vp 0 0),(5,vi x10),(8,vc (tl qL default a1)),(9,vi ((a1.length:Nat):Int)),(10,vi x4)],[(0,bx 31 (e_Span a2))]⟩
def qBz (a1:List Worth_zone) (a2:Span) (x3:Int) (x4:Int) (x8:Bool):St:=
 ⟨[(3,vp 0 0),(5,vi x3),(7,vp 1 0),(8,vc (tl qL default a1)),(9,vi ((a1.length:Nat):Int)),(10,vi x4),(27,vb x8)],[(0,bx 31 (e_Span a2)),(1,bx 249 [ci (((a1.getD x4.toNat default).z).A),ci (((a1.getD x4.toNat default).z).B),ci ((a1.getD x4.toNat default).lack)])]⟩
def LZ (a1:List Worth_zone) (a2:Span) (x3:Int) (x4:Int):St:=
 ⟨[(3,vp 0 0),(5,vi x3),(8,vc (tl qL default a1)),(9,vi ((a1.length:Nat):Int)),(10,vi x4)],[(0,bx 31 (e_Span a2))]⟩
def qBR (x11:Int):St:=
 ⟨[(5,vi x11)],[]⟩
theorem qGk (E:Env 0) (a1:List Worth_zone) (a2:Span):∀(n:Nat) (x3:Int) (x4:Int) (res:Int),yJ a1 a2 n x3 x4=some res->HL (kx E 34 0) (nd Tryz.f178 116) (zS 0 (λo=>qBR o) res) n (LZ a1 a2 x3 x4):=by
 intro n
 induction n with
 |zero=>
  intro x3 x4 res hm;cases hm
 |succ n ih=>
  intro x3 x4 res hm;refine qM ?_;refine s_vu [] 1 [] [(11,vb (decide (x4<((a1.length:Nat):Int))))] [] [] ?_;refine q_sq ?_;refine q_cm hm (λb5 hm=>?_) (λb5 hm=>?_)
  ·refine q_sk ?_;refine q_jn (ι:=Int) (λp=>qBc a1 a2 x4 p) (λp=>ND x4 (yJ a1 a2 n) p=some res) ?_ ?_
   ·rintro x10 hm;show H _ (qBc a1 a2 x4 x10) _ _;refine q_vu [] 2 [10] [(10,vi (w64 (x4+1)))] [] [] ?_;exact q_hl (LZ a1 a2 x10 (w64 (x4+1))) (ih x10 (w64 (x4+1)) _ hm)
   ·refine q_bk 1 ?_;obtain⟨g6,hm⟩:=qI hm;refine s_vu [qd 0 (Dir.none) (inb_of g6)] 1 [11] [(7,vp 1 0)] [] [(1,bx 249 [ci (((a1.getD x4.toNat default).z).A),ci (((a1.getD x4.toNat default).z).B),ci ((a1.getD x4.toNat default).lack)])] ?_;refine q_jn (ι:=Bool) (λp=>qBz a1 a2 x3 x4 p) (λp=>NG a1 x3 x4 (yJ a1 a2 n) p=some res) ?_ ?_
    ·rintro x8 hm;show H _ (qBz a1 a2 x3 x4 x8) _ _;refine q_cm hm (λb9 hm=>?_) (λb9 hm=>?_)
     ·refine q_vu [] 2 [5,7,27] [(5,vi (imax x3 ((a1.getD x4.toNat default).lack)))] [1] [] ?_;exact q_J (imax x3 ((a1.getD x4.toNat default).lack)) hm
     ·refine q_sk ?_;exact q_J (x3) hm
    ·rcases bif_c hm with⟨b7,hm⟩|⟨b7,hm⟩
     ·refine q_vu [qf 6 b7] 2 [] [(27,vb (decide (a2.A<(((a1.getD x4.toNat default).z).B))))] [] [] ?_;exact q_J (decide (a2.A<(((a1.getD x4.toNat default).z).B))) hm
     ·refine q_vu [qf 6 b7] 2 [] [(27,vb false)] [] [] ?_;exact q_J (false) hm
  ·refine q_ex 0 ?_;obtain rfl:=oi hm;exact wO (by kernel_rfl) (by kernel_rfl)
theorem qJz (a1:List Worth_zone) (a2:Span) (r:Int) (hm:FQ a1 a2=some r):CtX Tryz.prog globs 178 0 0 [.one (tl qL default a1),.agg (e_Span a2)] [] (qLd r) (qLe r):=by
 unfold FQ at hm;refine q_E Tryz.f178 34 λE=>?_;refine s_vn [] 0 ⟨[(0,vc (tl qL default a1)),(3,vp 0 0)],[(0,bx 31 (e_Span a2))]⟩ ?_;refine s_vu [] 1 [] [(5,vi 0)] [] [] ?_;refine q_sq ?_;refine s_vu [] 1 [0] [(8,vc (tl qL default a1)),(9,vi ((a1.length:Nat):Int)),(10,vi 0)] [] [] ?_;obtain⟨o12,h13,hm⟩:=qB hm;refine zL (nd Tryz.f178 116) 0 (by kernel_rfl) FUEL (λo=>qBR o) o12 (q_hl (LZ a1 a2 0 0) (qGk E a1 a2 FUEL 0 0 o12 h13)) ?_;refine s_vn [] 1 ⟨[(4,vi o12)],[]⟩ ?_;obtain rfl:=oi hm;refine q_rt ?_;exact q_rm
end Saw
end Go.SL
