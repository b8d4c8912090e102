import Derived.Test.YtidlfgiogdjkaaaGreatDoorEBase
import Derived.Test.YtidlfgiogdjkaaaGreatDoorELs
import Derived.Test.YtidlfgiogdjkaaaGreatDoorELlaw24awake
import Derived.Test.YtidlfgiogdjkaaaGreatDoorEFa12
import Derived.Test.YtidlfgiogdjkaaaGreatDoorEFa8
set_option linter.unusedVariables false
set_option linter.unusedSimpArgs false
namespace Go.SL
namespace Saw
open Go.Proofs
set_option maxHeartbeats 4000000
set_option maxRecDepth 100000
def qGE (r:Bool):V:=vb r
def qGa (r:Bool):List (Nat×(Nat×O)):=[]
def SB (a1:Law24_Given) (v7:Pattern×Int×Int) (v12:Yield×Int) (v14:(List Yield_Cut)×Int) (x17:Int) (x21:Int):St:=
 ⟨[(1,vp 0 0),(3,vp 2 0),(4,vi v7.2.1),(6,vp 3 0),(7,vi v12.2),(8,vo 4 0 9 v14.1.length),(9,vi v14.2),(10,vi x21),(11,vi x17)],[(0,bx 42 (zT a1)),(1,ro 0 65 2 v7.1.Nodes.length (rf e_Node v7.1.Nodes)),(2,bx 46 [ci v7.1.Frame.X.A,ci v7.1.Frame.X.B,ci v7.1.Frame.Y.A,ci v7.1.Frame.Y.B,.own 1 0 2 v7.1.Nodes.length]),(3,bx 58 (FG v12.1)),(4,ro 0 131 9 v14.1.length (rf qR v14.1))]⟩
def TX (a1:Law24_Given) (v7:Pattern×Int×Int) (v12:Yield×Int) (v14:(List Yield_Cut)×Int) (x16:Int) (x17:Int):St:=
 ⟨[(1,vp 0 0),(3,vp 2 0),(4,vi v7.2.1),(6,vp 3 0),(7,vi v12.2),(8,vo 4 0 9 v14.1.length),(9,vi v14.2),(10,vi x16),(11,vi x17)],[(0,bx 42 (zT a1)),(1,ro 0 65 2 v7.1.Nodes.length (rf e_Node v7.1.Nodes)),(2,bx 46 [ci v7.1.Frame.X.A,ci v7.1.Frame.X.B,ci v7.1.Frame.Y.A,ci v7.1.Frame.Y.B,.own 1 0 2 v7.1.Nodes.length]),(3,bx 58 (FG v12.1)),(4,ro 0 131 9 v14.1.length (rf qR v14.1))]⟩
def SR (a1:Law24_Given) (v7:Pattern×Int×Int) (v12:Yield×Int) (v14:(List Yield_Cut)×Int) (x22:Int):St:=
 ⟨[(1,vp 0 0),(4,vi v7.2.1),(6,vp 3 0),(7,vi v12.2),(8,vo 4 0 9 v14.1.length),(9,vi v14.2),(10,vi x22)],[(0,bx 42 (zT a1)),(3,bx 58 (FG v12.1)),(4,ro 0 131 9 v14.1.length (rf qR v14.1))]⟩
def SG (x34:Bool):St:=
 ⟨[(2,vb x34)],[]⟩
theorem qD9 (E:Env 0) (a1:Law24_Given) (v7:Pattern×Int×Int) (v12:Yield×Int) (v14:(List Yield_Cut)×Int):∀(n:Nat) (x16:Int) (x17:Int) (res:Int),zZ v7 n x16 x17=some res->HL (kx E 95 0) (nd Tryz.f8 4084) (zR 0 (λo=>SR a1 v7 v12 v14 o) res) n (TX a1 v7 v12 v14 x16 x17):=by
 intro n
 induction n with
 |zero=>
  intro x16 x17 res hm;cases hm
 |succ n ih=>
  intro x16 x17 res hm;refine qO ?_;refine q_sq ?_;refine s_vu [] 5 [] [(51,vb (decide (x17<((v7.1.Nodes.length:Nat):Int))))] [] [] ?_;refine q_cm hm (λb18 hm=>?_) (λb18 hm=>?_)
  ·refine q_sk ?_;refine q_jn (ι:=Int) (λp=>SB a1 v7 v12 v14 x17 p) (λp=>KO x17 (zZ v7 n) p=some res) ?_ ?_
   ·rintro x21 hm;show H _ (SB a1 v7 v12 v14 x17 x21) _ _;refine q_vu [] 5 [11] [(11,vi (w64 (x17+1)))] [] [] ?_;exact q_hl (TX a1 v7 v12 v14 x21 (w64 (x17+1))) (ih x21 (w64 (x17+1)) _ hm)
   ·refine q_bk 1 ?_;obtain⟨g19,hm⟩:=qI hm;refine s_vu [qd 3 (Dir.none) (inb_of g19),qd 5 (Dir.none) (toNat_lt (inb_of g19))] 5 [51] [(60,vb (((v7.1.Nodes.getD x17.toNat default).Kind)==1))] [] [] ?_;refine q_cm hm (λb20 hm=>?_) (λb20 hm=>?_)
    ·refine q_vu [] 5 [10,60] [(10,vi (w64 (x16+1)))] [] [] ?_;exact q_J (w64 (x16+1)) hm
    ·refine q_sk ?_;exact q_J (x16) hm
  ·refine q_ex 0 ?_;obtain rfl:=oi hm;exact wJ (by kernel_rfl) (by kernel_rfl)
theorem qFV (a1:Law24_Given) (r:Bool) (hm:GD a1=some r):CtX Tryz.prog globs 8 0 0 [.agg (zT a1)] [] (qGE r) (qGa r):=by
 unfold GD at hm;refine q_E Tryz.f8 95 λE=>?_;refine s_vn [] 0 ⟨[(1,vp 0 0)],[(0,bx 42 (zT a1))]⟩ ?_;refine q_sq ?_;obtain⟨v2,h3,hm⟩:=qA hm;refine s_vu [qc 1 [12] 1 (qLi a1 v2 h3)] 1 [] [(14,vb (!v2))] [] [] ?_;refine q_cm hm (λb4 hm=>?_) (λb4 hm=>?_)
 ·obtain⟨v5,h6,hm⟩:=qA hm;refine s_vn [qc 0 [] 1 (II v5 h6)] 1 ⟨[(2,vb v5)],[]⟩ ?_;obtain rfl:=oi hm;refine q_rt ?_;exact q_rm
 ·refine q_sk ?_;obtain⟨v7,h8,hm⟩:=qA hm;refine s_vu [qc 1 [17] 1 (law24_best_ok a1 v7 h8)] 1 [14] [(3,vp 2 0),(4,vi v7.2.1),(5,vi v7.2.2)] [] [(1,ro 0 65 2 v7.1.Nodes.length (rf e_Node v7.1.Nodes)),(2,bx 46 [ci v7.1.Frame.X.A,ci v7.1.Frame.X.B,ci v7.1.Frame.Y.A,ci v7.1.Frame.Y.B,.own 1 0 2 v7.1.Nodes.length])] ?_;refine q_sq ?_;refine s_vu [] 3 [5] [(23,vb (v7.2.2 !=0))] [] [] ?_;refine q_cm hm (λb9 hm=>?_) (λb9 hm=>?_)
  ·obtain⟨v10,h11,hm⟩:=qA hm;refine s_vn [qc 0 [] 3 (II v10 h11)] 3 ⟨[(2,vb v10)],[]⟩ ?_;obtain rfl:=oi hm;refine q_rt ?_;exact q_rm
  ·refine q_sk ?_;obtain⟨v12,h13,hm⟩:=qA hm;refine s_vu [qd 2 (dex (cen [] [] 3 0 (qJP v12) (qBB v12) [26,27] [1])) (wM (K:=(kx E 95 0)) (b:=false) ⟨[(26,va (zT a1)),(27,va [ci v7.1.Frame.X.A,ci v7.1.Frame.X.B,ci v7.1.Frame.Y.A,ci v7.1.Frame.Y.B,.own 1 0 2 v7.1.Nodes.length])],[(1,ro 0 65 2 v7.1.Nodes.length (rf e_Node v7.1.Nodes))]⟩ (opAt (rg Tryz.f8 62) 2) [] [] 3 (o1 (Nat.le_refl v7.1.Nodes.length)) rfl (qPz a1 (Pattern.mk v7.1.Frame v7.1.Nodes) v12 h13) (.inr ⟨(by kernel_rfl),qQM v12⟩) (by kernel_rfl))] 3 [23] [(6,vp 3 0),(7,vi v12.2)] [] [(3,bx 58 (FG v12.1))] ?_;obtain⟨v14,h15,hm⟩:=qA hm
   refine s_vu [qd 12 (dex (cen [] [] 4 0 (qEm v14) (zaQ v14) [33,35,37,38,40,43] [1])) (wM (K:=(kx E 95 0)) (b:=false) ⟨[(33,vc (tl qG default a1.Solid)),(35,vc (tl qH default a1.Defects)),(37,vc (tl qC default a1.Products)),(38,va [ci v7.1.Frame.X.A,ci v7.1.Frame.X.B,ci v7.1.Frame.Y.A,ci v7.1.Frame.Y.B,.own 1 0 2 v7.1.Nodes.length]),(40,va (qQ a1.Saw)),(43,vi a1.Rates.Fine)],[(1,ro 0 65 2 v7.1.Nodes.length (rf e_Node v7.1.Nodes))]⟩ (opAt (rg Tryz.f8 126) 12) [] [] 4 (o1 (Nat.le_refl v7.1.Nodes.length)) rfl (qCN a1.Solid a1.Defects a1.Products (Pattern.mk v7.1.Frame v7.1.Nodes) a1.Saw a1.Rates.Fine v14 h15) (.inr ⟨(by kernel_rfl),qLr v14⟩) (by kernel_rfl))] 4 [] [(8,vo 4 0 9 v14.1.length),(9,vi v14.2)] [] [(4,ro 0 131 9 v14.1.length (rf qR v14.1))] ?_
   refine s_vu [] 5 [] [(10,vi 0)] [] [] ?_;refine q_sq ?_;refine s_vu [] 5 [] [(11,vi 0)] [] [] ?_;obtain⟨o23,h24,hm⟩:=qA hm;refine zL (nd Tryz.f8 4084) 0 (by kernel_rfl) FUEL (λo=>SR a1 v7 v12 v14 o) o23 (q_hl (TX a1 v7 v12 v14 0 0) (qD9 E a1 v7 v12 v14 FUEL 0 0 o23 h24)) ?_;refine q_jn (ι:=Bool) (λp=>SG p) (λp=>zE p=some r) ?_ ?_
   ·rintro x34 hm;show H _ (SG x34) _ _;obtain rfl:=oi hm;refine q_rt ?_;exact q_rm
   ·rcases bif_c hm with⟨b25,hm⟩|⟨b25,hm⟩
    ·rcases bif_c hm with⟨b26,hm⟩|⟨b26,hm⟩
     ·rcases bif_c hm with⟨b27,hm⟩|⟨b27,hm⟩
      ·rcases bif_c hm with⟨b28,hm⟩|⟨b28,hm⟩
       ·obtain⟨v29,h30,hm⟩:=qA hm;rcases bif_c hm with⟨b31,hm⟩|⟨b31,hm⟩
        ·obtain⟨v32,h33,hm⟩:=qA hm;refine q_dn [qf 2 b25,qf 6 b26,qf 12 b27,qf 18 b28,qk 25 [81,87] 5 ⟨[(81,vb true),(87,vc (tl qG default a1.Solid))],[]⟩ (DS a1.Solid v29 h30),qf 29 b31,qk 30 [92] 5 ⟨[(92,vb true)],[]⟩ (II v32 h33)] [0,1,3,7,15,31,63,127,255,127,1023,2047,4095,8191,16383,8191,65535,131071,262143,524287,524287,1572863,3670015,524287,8912895,25690111,66584575,134217727,268435455,536870911,1073741823,2147483647,4294967295] 5 ⟨[(2,vb v32)],[]⟩ ?_;exact q_J (v32) hm
        ·refine q_dn [qf 2 b25,qf 6 b26,qf 12 b27,qf 18 b28,qk 25 [81,87] 5 ⟨[(81,vb true),(87,vc (tl qG default a1.Solid))],[]⟩ (DS a1.Solid v29 h30),qf 29 b31] [0,1,3,7,15,31,63,127,255,127,1023,2047,4095,8191,16383,8191,65535,131071,262143,524287,524287,1572863,3670015,524287,8912895,25690111,66584575,134217727,268435455,536870911,1073741823,2147483647,4294967295] 5 ⟨[(2,vb false)],[]⟩ ?_;exact q_J (false) hm
       ·refine q_dn [qf 2 b25,qf 6 b26,qf 12 b27,qf 18 b28] [0,1,3,7,15,31,63,127,255,127,1023,2047,4095,8191,16383,8191,65535,131071,262143,524287,524287,1572863,3670015,524287,8912895,25690111,66584575,134217727,268435455,536870911,1073741823,2147483647,4294967295] 5 ⟨[(2,vb false)],[]⟩ ?_;exact q_J (false) hm
      ·refine q_dn [qf 2 b25,qf 6 b26,qf 12 b27] [0,1,3,7,15,31,63,127,255,127,1023,2047,4095,8191,16383,8191,65535,131071,262143,524287,524287,1572863,3670015,524287,8912895,25690111,66584575,134217727,268435455,536870911,1073741823,2147483647,4294967295] 5 ⟨[(2,vb false)],[]⟩ ?_;exact q_J (false) hm
     ·refine q_dn [qf 2 b25,qf 6 b26] [0,1,3,7,15,31,63,127,255,127,1023,2047,4095,8191,16383,8191,65535,131071,262143,524287,524287,1572863,3670015,524287,8912895,25690111,66584575,134217727,268435455,536870911,1073741823,2147483647,4294967295] 5 ⟨[(2,vb false)],[]⟩ ?_;exact q_J (false) hm
    ·refine q_dn [qf 2 b25] [0,1,3,7,15,31,63,127,255,127,1023,2047,4095,8191,16383,8191,65535,131071,262143,524287,524287,1572863,3670015,524287,8912895,25690111,66584575,134217727,268435455,536870911,1073741823,2147483647,4294967295] 5 ⟨[(2,vb false)],[]⟩ ?_;exact q_J (false) hm
end Saw
end Go.SL
