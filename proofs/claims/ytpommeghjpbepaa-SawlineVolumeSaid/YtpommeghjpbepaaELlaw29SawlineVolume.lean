import Derived.Test.YtpommeghjpbepaaEBase
import Derived.Test.YtpommeghjpbepaaEFa1
import Derived.Test.YtpommeghjpbepaaEFa2
import Derived.Test.YtpommeghjpbepaaEFa6
import Derived.Test.YtpommeghjpbepaaELlaw29light
import Derived.Test.YtpommeghjpbepaaELlaw29awake
import Derived.Test.YtpommeghjpbepaaELs
set_option linter.unusedVariables false
set_option linter.unusedSimpArgs false
namespace Go.SL
namespace Saw
open Go.Proofs Go.Proofs.Try
set_option maxHeartbeats 4000000
set_option maxRecDepth 100000
def RW (r:Bool):V:=vb r
def TF (r:Bool):List (Nat×(Nat×O)):=[]
def YL (a1:qN) (a2:List zH) (v11:qS×Int) (x24:Int) (l37:List qA) (l38:List Int) (l39:List Rect) (v40:yA×Int):St:=
 ⟨[(1,vc (tl XN du a2)),(2,vp 0 0),(5,vp 1 0),(7,vi x24),(8,vp 4 0)],[(0,bx 37 (qW a1)),(1,bx 78 [tl qG du v11.1.solid,tl qE du v11.1.defects,tl qD du v11.1.catalog,ci v11.1.saw.Kerf,ci v11.1.saw.Trim,ci v11.1.saw.Pitch,ci v11.1.saw.Step,ci v11.1.rates.Chip,ci v11.1.rates.Dust,ci v11.1.rates.Fine,ci v11.1.length,.own 2 0 24 l37.length,tl qJ du l38,.own 3 0 4 l39.length]),(2,ro 0 80 24 l37.length (rf qC l37)),(3,ro 0 28 4 l39.length (rf qK l39)),(4,bx 50 (VA v40.1))]⟩
def jZ (a1:qN) (a2:List zH):St:=
 ⟨[(1,vc (tl XN du a2)),(2,vp 0 0),(5,vp 1 0)],[(0,bx 37 (qW a1))]⟩
def EV (x16:Bool):St:=
 ⟨[(4,vb x16)],[]⟩
def GA (a1:qN) (a2:List zH) (v10:Int):St:=
 (jZ a1 a2).up [5] [(5,vc (.val (.pointer none))),(6,vi v10),(27,vb true)] [] []
def ES (x23:Bool):St:=
 ⟨[(4,vb x23)],[]⟩
def KB (a1:qN) (a2:List zH) (v11:qS×Int) (x24:Int) (l37:List qA) (l38:List Int) (l39:List Rect) (v40:yA×Int) (v51:(List qM)) (x53:Int) (x54:Int):St:=
 (YL a1 a2 v11 x24 l37 l38 l39 v40).up [] [(10,vi x53),(11,vo 5 0 9 v51.length),(12,vi x54)] [] [(5,ro 0 60 9 v51.length (rf wK v51))]
def GY (a1:qN) (a2:List zH) (v11:qS×Int) (x24:Int) (l37:List qA) (l38:List Int) (l39:List Rect) (v40:yA×Int) (x59:Int):St:=
 (YL a1 a2 v11 x24 l37 l38 l39 v40).up [] [(10,vi x59)] [] []
def EZ (a1:qN) (a2:List zH) (v11:qS×Int) (x24:Int) (l37:List qA) (l38:List Int) (l39:List Rect) (v40:yA×Int) (x49:Bool):St:=
 (YL a1 a2 v11 x24 l37 l38 l39 v40).up [] [(104,vb x49)] [] []
def GW (a1:qN) (a2:List zH) (v11:qS×Int) (x24:Int) (l37:List qA) (l37n:Nat) (l38:List Int) (l39:List Rect) (l39n:Nat):St:=
 (jZ a1 a2).up [] [(7,vi x24)] [] [(1,bx 78 [tl qG du v11.1.solid,tl qE du v11.1.defects,tl qD du v11.1.catalog,ci v11.1.saw.Kerf,ci v11.1.saw.Trim,ci v11.1.saw.Pitch,ci v11.1.saw.Step,ci v11.1.rates.Chip,ci v11.1.rates.Dust,ci v11.1.rates.Fine,ci v11.1.length,.own 2 0 24 l37n,tl qJ du l38,.own 3 0 4 l39n]),(2,ro 0 80 24 l37n (rf qC l37)),(3,ro 0 28 4 l39n (rf qK l39))]
def AK (a1:qN) (a2:List zH) (v11:qS×Int) (x24:Int) (l25:List qA) (l26:List Int) (l27:List Rect) (x29:Bool):St:=
 (jZ a1 a2).up [] [(7,vi x24),(43,vb x29)] [] [(1,bx 78 [tl qG du v11.1.solid,tl qE du v11.1.defects,tl qD du v11.1.catalog,ci v11.1.saw.Kerf,ci v11.1.saw.Trim,ci v11.1.saw.Pitch,ci v11.1.saw.Step,ci v11.1.rates.Chip,ci v11.1.rates.Dust,ci v11.1.rates.Fine,ci v11.1.length,.own 2 0 24 l25.length,tl qJ du l26,.own 3 0 4 l27.length]),(2,ro 0 80 24 l25.length (rf qC l25)),(3,ro 0 28 4 l27.length (rf qK l27))]
def XO (a1:qN) (a2:List zH) (v11:qS×Int) (x24:Int) (l25:List qA) (l25n:Nat) (l26:List Int) (l27:List Rect) (l27n:Nat):St:=
 (jZ a1 a2).up [] [(7,vi x24)] [] [(1,bx 78 [tl qG du v11.1.solid,tl qE du v11.1.defects,tl qD du v11.1.catalog,ci v11.1.saw.Kerf,ci v11.1.saw.Trim,ci v11.1.saw.Pitch,ci v11.1.saw.Step,ci v11.1.rates.Chip,ci v11.1.rates.Dust,ci v11.1.rates.Fine,ci v11.1.length,.own 2 0 24 l25n,tl qJ du l26,.own 3 0 4 l27n]),(2,ro 0 80 24 l25n (rf qC l25)),(3,ro 0 28 4 l27n (rf qK l27))]
def GH :St:=
 ⟨[],[]⟩
def AG (a1:qN) (a2:List zH) (v11:qS×Int) (x18:Bool):St:=
 (jZ a1 a2).up [] [(6,vi v11.2),(27,vb x18)] [] [(1,bx 78 [tl qG du v11.1.solid,tl qE du v11.1.defects,tl qD du v11.1.catalog,ci v11.1.saw.Kerf,ci v11.1.saw.Trim,ci v11.1.saw.Pitch,ci v11.1.saw.Step,ci v11.1.rates.Chip,ci v11.1.rates.Dust,ci v11.1.rates.Fine,ci v11.1.length,.own 2 0 24 v11.1.nodes.length,tl qJ du v11.1.rips,.own 3 0 4 v11.1.sawn.length]),(2,ro 0 80 24 v11.1.nodes.length (rf qC v11.1.nodes)),(3,ro 0 28 4 v11.1.sawn.length (rf qK v11.1.sawn))]
theorem EI (E:Env 0) (a1:qN) (a2:List zH) (v11:qS×Int) (x24:Int) (l37:List qA) (l38:List Int) (l39:List Rect) (v40:yA×Int) (v51:(List qM)):∀(n:Nat) (x53:Int) (x54:Int) (res:Int),wS a1 v51 n x53 x54=some res->HL (kx E 128 0) (nd f3 2050548) (jL 2 (λo=>GY a1 a2 v11 x24 l37 l38 l39 v40 o) res) n (KB a1 a2 v11 x24 l37 l38 l39 v40 v51 x53 x54):=by
 intro n
 induction n with
 |zero=>
  intro x53 x54 res hm;cases hm
 |succ n ih=>
  intro x53 x54 res hm;refine zE (q_sq ?_);refine s_va 6 [(110,vb (decide (x54<(v51.length:Int))))] (q_cq hm (λhm=>?_) (λhm=>?_))
  ·refine q_sk (q_sq ?_);refine q_bk 3 ?_;obtain⟨g56,hm⟩:=qU hm;obtain⟨v57,h58,hm⟩:=qI hm;refine q_du [qi 5 g56,qd 7 dN (qY (zD g56)),qc 8 [115,120] 6 (OX a1.Solid ((v51.getD x54.toNat du).Box) v57 h58)] [0,0,2,0,0,24,56,120,254,511,1023] 6 [10,110] [(10,vi (w64 (x53+v57)))] [] [] (q_vv [] 6 [12] [(12,vi (w64 (x54+1)))] ?_);exact q_hl (KB a1 a2 v11 x24 l37 l38 l39 v40 v51 (w64 (x53+v57)) (w64 (x54+1))) (ih (w64 (x53+v57)) (w64 (x54+1)) _ hm)
  ·refine q_ex 2 ?_;obtain rfl:=oi hm;exact q_l0
theorem SY (E:Env 0) (a1:qN) (a2:List zH) (v11:qS×Int):∀(n:Nat) (x24:Int) (l25:List qA) (l25n:Nat) (l26:List Int) (l27:List Rect) (l27n:Nat) (res:Bool⊕Unit),l25.length=l25n->l27.length=l27n->zQ a1 a2 v11 n x24 l25 l26 l27=some res->HL (kx E 128 0) (nd f3 500) (JW 0 (λo=>GH) (λv st=>RetQ Try.prog f3 (RW v) (TF v) .ret st) res) n (XO a1 a2 v11 x24 l25 l25n l26 l27 l27n):=by
 intro n
 induction n with
 |zero=>
  intro x24 l25 l25n l26 l27 l27n res hl0 hl1 hm;cases hm
 |succ n ih=>
  intro x24 l25 l25n l26 l27 l27n res hl0 hl1 hm;subst hl0;subst hl1;refine zE (q_sq ?_);refine q_jn (AK a1 a2 v11 x24 l25 l26 l27) (λp=>QT a1 a2 v11 x24 l25 l26 l27 (zQ a1 a2 v11 n) p=some res) ?_ ?_
  ·rintro x29 hm;refine q_cq hm (λhm=>?_) (λhm=>?_)
   ·refine q_sk (q_sq ?_);refine q_bk 1 (q_jn (ι:=(List qA)×Nat×(List Int)×(List Rect)×Nat) (λp=>GW a1 a2 v11 x24 p.1 p.2.1 p.2.2.1 p.2.2.2.1 p.2.2.2.2) (λp=>p.1.length=p.2.1/\p.2.2.2.1.length=p.2.2.2.2/\QS a1 v11 x24 (zQ a1 a2 v11 n) p.1 p.2.2.1 p.2.2.2.1=some res) ?_ ?_)
    ·rintro⟨l37,l37n,l38,l39,l39n⟩ ⟨el37,el39,hm⟩;replace el37:l37.length=l37n:=el37;subst el37;replace el39:l39.length=l39n:=el39;subst el39;show H _ (GW a1 a2 v11 x24 l37 l37.length l38 l39 l39.length) _ _;obtain⟨v40,h41,hm⟩:=qI hm
     refine s_vu [qd 1 (dex (cen [(1,0),(2,0),(3,0)] [0,0,0] 1 3 (ZK v11.1.solid v11.1.defects v11.1.catalog v11.1.saw.Kerf v11.1.saw.Trim v11.1.saw.Pitch v11.1.saw.Step v11.1.rates.Chip v11.1.rates.Dust v11.1.rates.Fine v11.1.length l38 l37 l39 v40) (ZQ v11.1.solid v11.1.defects v11.1.catalog v11.1.saw.Kerf v11.1.saw.Trim v11.1.saw.Pitch v11.1.saw.Step v11.1.rates.Chip v11.1.rates.Dust v11.1.rates.Fine v11.1.length l38 l37 l39 v40) [61] [1,2,3])) (zJ (K:=(kx E 128 0)) ⟨[(61,vp 1 0)],[(1,bx 78 [tl qG du v11.1.solid,tl qE du v11.1.defects,tl qD du v11.1.catalog,ci v11.1.saw.Kerf,ci v11.1.saw.Trim,ci v11.1.saw.Pitch,ci v11.1.saw.Step,ci v11.1.rates.Chip,ci v11.1.rates.Dust,ci v11.1.rates.Fine,ci v11.1.length,.own 2 0 24 l37.length,tl qJ du l38,.own 3 0 4 l39.length]),(2,ro 0 80 24 l37.length (rf qC l37)),(3,ro 0 28 4 l39.length (rf qK l39))]⟩ (opAt (rg f3 16018) 1) [(1,0),(2,0),(3,0)] [0,0,0] 1 o0 rfl (JZ v11.1.solid v11.1.defects v11.1.catalog v11.1.saw.Kerf v11.1.saw.Trim v11.1.saw.Pitch v11.1.saw.Step v11.1.rates.Chip v11.1.rates.Dust v11.1.rates.Fine v11.1.length l38 l37 l39 v40 h41) (.inl rfl) (by kernel_rfl))] 4 [] [(8,vp 4 0),(9,vi v40.2)] [] [(4,bx 50 (VA v40.1))] ?_
     refine q_sq (q_jn (EZ a1 a2 v11 x24 l37 l38 l39 v40) (λp=>wC a1 v11 x24 (zQ a1 a2 v11 n) l37 l38 l39 v40 p=some res) ?_ ?_)
     ·rintro x49 hm;refine q_cq hm (λhm=>?_) (λhm=>?_)
      ·refine s_vn [] 5 ⟨[(4,vb false)],[]⟩ ?_;obtain rfl:=oi hm;refine q_rt (wO false ?_);exact q_rm
      ·refine q_sk (s_vv [] 5 [104] [(10,vi 0)] ?_);obtain⟨v51,h52,hm⟩:=qI hm
       refine s_vu [qd 1 (dex (cen [(1,0),(2,0),(3,0)] [0,0,0] 2 3 (jC v11.1.solid v11.1.defects v11.1.catalog v11.1.saw.Kerf v11.1.saw.Trim v11.1.saw.Pitch v11.1.saw.Step v11.1.rates.Chip v11.1.rates.Dust v11.1.rates.Fine v11.1.length l38 l37 l39 v51) (jE v11.1.solid v11.1.defects v11.1.catalog v11.1.saw.Kerf v11.1.saw.Trim v11.1.saw.Pitch v11.1.saw.Step v11.1.rates.Chip v11.1.rates.Dust v11.1.rates.Fine v11.1.length l38 l37 l39 v51) [105] [1,2,3])) (zJ (K:=(kx E 128 0)) ⟨[(105,vp 1 0)],[(1,bx 78 [tl qG du v11.1.solid,tl qE du v11.1.defects,tl qD du v11.1.catalog,ci v11.1.saw.Kerf,ci v11.1.saw.Trim,ci v11.1.saw.Pitch,ci v11.1.saw.Step,ci v11.1.rates.Chip,ci v11.1.rates.Dust,ci v11.1.rates.Fine,ci v11.1.length,.own 2 0 24 l37.length,tl qJ du l38,.own 3 0 4 l39.length]),(2,ro 0 80 24 l37.length (rf qC l37)),(3,ro 0 28 4 l39.length (rf qK l39))]⟩ (opAt (rg f3 128158) 1) [(1,0),(2,0),(3,0)] [0,0,0] 2 o0 rfl (yE v11.1.solid v11.1.defects v11.1.catalog v11.1.saw.Kerf v11.1.saw.Trim v11.1.saw.Pitch v11.1.saw.Step v11.1.rates.Chip v11.1.rates.Dust v11.1.rates.Fine v11.1.length l38 l37 l39 v51 h52) (.inl rfl) (by kernel_rfl))] 5 [] [(11,vo 5 0 9 v51.length)] [] [(5,ro 0 60 9 v51.length (rf wK v51))] ?_
       refine q_sq (s_va 6 [(12,vi 0)] ?_);obtain⟨o60,h61,hm⟩:=qI hm;refine jG (nd f3 2050548) 2 (by kernel_rfl) FUEL (λo=>GY a1 a2 v11 x24 l37 l38 l39 v40 o) o60 (q_hl (KB a1 a2 v11 x24 l37 l38 l39 v40 v51 0 0) (EI E a1 a2 v11 x24 l37 l38 l39 v40 v51 FUEL 0 0 o60 h61)) (s_vu [] 6 [8,10] [(126,vb (o60 !=v40.1.Boards))] [4] [] ?_);refine q_cq hm (λhm=>?_) (λhm=>?_)
       ·refine s_vn [] 6 ⟨[(4,vb false)],[]⟩ ?_;obtain rfl:=oi hm;refine q_rt (wO false ?_);exact q_rm
       ·refine q_sk (q_vv [] 6 [7,126] [(7,vi (w64 (x24+1)))] ?_);exact q_hl (XO a1 a2 v11 (w64 (x24+1)) l37 l37.length l38 l39 l39.length) (ih (w64 (x24+1)) l37 l37.length l38 l39 l39.length _ rfl rfl hm)
     ·obtain⟨v42,h43,hm⟩:=qI hm;rcases bif_c hm with⟨b44,hm⟩|⟨b44,hm⟩
      ·exact q_du [qc 4 [68] 5 (ZP a1.Solid v42 h43),qf 6 b44] [0,1,0,4,12,31,63,127,255,511,1023,2047,4095,8191,16383,32767,65535,131071,262143,524287,1048575,2097151,4194303,8388607,16777215,33554431,67108863,134217727,67108863,335544319,1073741823,67108863,2214592511,8589934591,67108863,17246978047,68719476735,67108863,274877906943,549755813887] 5 [9] [(104,vb true)] [] [] (q_J (true) hm)
      ·rcases bif_c hm with⟨b45,hm⟩|⟨b45,hm⟩
       ·exact q_du [qc 4 [68] 5 (ZP a1.Solid v42 h43),qf 6 b44,qf 11 b45] [0,1,0,4,12,31,63,127,255,511,1023,2047,4095,8191,16383,32767,65535,131071,262143,524287,1048575,2097151,4194303,8388607,16777215,33554431,67108863,134217727,67108863,335544319,1073741823,67108863,2214592511,8589934591,67108863,17246978047,68719476735,67108863,274877906943,549755813887] 5 [9] [(104,vb true)] [] [] (q_J (true) hm)
       ·rcases bif_c hm with⟨b46,hm⟩|⟨b46,hm⟩
        ·exact q_du [qc 4 [68] 5 (ZP a1.Solid v42 h43),qf 6 b44,qf 11 b45,qf 16 b46] [0,1,0,4,12,31,63,127,255,511,1023,2047,4095,8191,16383,32767,65535,131071,262143,524287,1048575,2097151,4194303,8388607,16777215,33554431,67108863,134217727,67108863,335544319,1073741823,67108863,2214592511,8589934591,67108863,17246978047,68719476735,67108863,274877906943,549755813887] 5 [9] [(104,vb true)] [] [] (q_J (true) hm)
        ·rcases bif_c hm with⟨b47,hm⟩|⟨b47,hm⟩
         ·exact q_du [qc 4 [68] 5 (ZP a1.Solid v42 h43),qf 6 b44,qf 11 b45,qf 16 b46,qf 21 b47] [0,1,0,4,12,31,63,127,255,511,1023,2047,4095,8191,16383,32767,65535,131071,262143,524287,1048575,2097151,4194303,8388607,16777215,33554431,67108863,134217727,67108863,335544319,1073741823,67108863,2214592511,8589934591,67108863,17246978047,68719476735,67108863,274877906943,549755813887] 5 [9] [(104,vb true)] [] [] (q_J (true) hm)
         ·rcases bif_c hm with⟨b48,hm⟩|⟨b48,hm⟩
          ·exact q_du [qc 4 [68] 5 (ZP a1.Solid v42 h43),qf 6 b44,qf 11 b45,qf 16 b46,qf 21 b47,qf 25 b48] [0,1,0,4,12,31,63,127,255,511,1023,2047,4095,8191,16383,32767,65535,131071,262143,524287,1048575,2097151,4194303,8388607,16777215,33554431,67108863,134217727,67108863,335544319,1073741823,67108863,2214592511,8589934591,67108863,17246978047,68719476735,67108863,274877906943,549755813887] 5 [9] [(104,vb true)] [] [] (q_J (true) hm)
          ·exact q_du [qc 4 [68] 5 (ZP a1.Solid v42 h43),qf 6 b44,qf 11 b45,qf 16 b46,qf 21 b47,qf 25 b48] [0,1,0,4,12,31,63,127,255,511,1023,2047,4095,8191,16383,32767,65535,131071,262143,524287,1048575,2097151,4194303,8388607,16777215,33554431,67108863,134217727,67108863,335544319,1073741823,67108863,2214592511,8589934591,67108863,17246978047,68719476735,67108863,274877906943,549755813887] 5 [9] [(104,vb ((w64 ((w64 ((w64 (v40.1.Log-v40.1.Boards))-v40.1.Chips))-v40.1.Dust)) !=v40.2))] [] [] (q_J ((w64 ((w64 ((w64 (v40.1.Log-v40.1.Boards))-v40.1.Chips))-v40.1.Dust)) !=v40.2) hm)
    ·obtain⟨g31,hm⟩:=qU hm;refine s_vv [qi 2 g31] 4 [43] [(50,vb ((a2.getD x24.toNat du).Stop))] (q_cq hm (λhm=>?_) (λhm=>?_))
     ·obtain⟨v33,h34,hm⟩:=qI hm
      refine q_vu [qd 1 (dex (cen [(1,0),(2,0),(3,0)] [0,1,1] 1 1 (PZ v11.1.solid v11.1.defects v11.1.catalog v11.1.saw.Kerf v11.1.saw.Trim v11.1.saw.Pitch v11.1.saw.Step v11.1.rates.Chip v11.1.rates.Dust v11.1.rates.Fine v11.1.length l26 l25 l27 v33) (PY v11.1.solid v11.1.defects v11.1.catalog v11.1.saw.Kerf v11.1.saw.Trim v11.1.saw.Pitch v11.1.saw.Step v11.1.rates.Chip v11.1.rates.Dust v11.1.rates.Fine v11.1.length l26 l25 l27 v33) [51] [1,2,3])) (zJ (K:=(kx E 128 0)) ⟨[(51,vp 1 0)],[(1,bx 78 [tl qG du v11.1.solid,tl qE du v11.1.defects,tl qD du v11.1.catalog,ci v11.1.saw.Kerf,ci v11.1.saw.Trim,ci v11.1.saw.Pitch,ci v11.1.saw.Step,ci v11.1.rates.Chip,ci v11.1.rates.Dust,ci v11.1.rates.Fine,ci v11.1.length,.own 2 0 24 l25.length,tl qJ du l26,.own 3 0 4 l27.length]),(2,ro 0 80 24 l25.length (rf qC l25)),(3,ro 0 28 4 l27.length (rf qK l27))]⟩ (opAt (rg f3 32034) 1) [(1,0),(2,0),(3,0)] [0,1,1] 1 o0 rfl (BJ v11.1.solid v11.1.defects v11.1.catalog v11.1.saw.Kerf v11.1.saw.Trim v11.1.saw.Pitch v11.1.saw.Step v11.1.rates.Chip v11.1.rates.Dust v11.1.rates.Fine v11.1.length l26 l25 l27 v33 h34) (.inl rfl) (by kernel_rfl))] 4 [50] [] [1,2,3] [(1,bx 78 [tl qG du v11.1.solid,tl qE du v11.1.defects,tl qD du v11.1.catalog,ci v11.1.saw.Kerf,ci v11.1.saw.Trim,ci v11.1.saw.Pitch,ci v11.1.saw.Step,ci v11.1.rates.Chip,ci v11.1.rates.Dust,ci v11.1.rates.Fine,ci v11.1.length,.own 2 1 24 l25.length,tl qJ du v33.2,.own 3 1 4 l27.length]),(2,ro 1 80 24 l25.length (rf qC l25)),(3,ro 1 28 4 l27.length (rf qK l27))] ?_
      exact q_J (l25,l25.length,v33.2,l27,l27.length) ⟨rfl,rfl,hm⟩
     ·obtain⟨v35,h36,hm⟩:=qI hm
      refine q_vu [qi 3 g31,qd 6 (dex (cen [(1,0),(2,0),(3,0)] [0,1,1] 1 1 (wN ((a2.getD x24.toNat du).Shift) v11.1.solid v11.1.defects v11.1.catalog v11.1.saw.Kerf v11.1.saw.Trim v11.1.saw.Pitch v11.1.saw.Step v11.1.rates.Chip v11.1.rates.Dust v11.1.rates.Fine v11.1.length l26 l25 l27 v35) (wP ((a2.getD x24.toNat du).Shift) v11.1.solid v11.1.defects v11.1.catalog v11.1.saw.Kerf v11.1.saw.Trim v11.1.saw.Pitch v11.1.saw.Step v11.1.rates.Chip v11.1.rates.Dust v11.1.rates.Fine v11.1.length l26 l25 l27 v35) [53,58] [1,2,3])) (zJ (K:=(kx E 128 0)) ⟨[(53,vp 1 0),(58,vi ((a2.getD x24.toNat du).Shift))],[(1,bx 78 [tl qG du v11.1.solid,tl qE du v11.1.defects,tl qD du v11.1.catalog,ci v11.1.saw.Kerf,ci v11.1.saw.Trim,ci v11.1.saw.Pitch,ci v11.1.saw.Step,ci v11.1.rates.Chip,ci v11.1.rates.Dust,ci v11.1.rates.Fine,ci v11.1.length,.own 2 0 24 l25.length,tl qJ du l26,.own 3 0 4 l27.length]),(2,ro 0 80 24 l25.length (rf qC l25)),(3,ro 0 28 4 l27.length (rf qK l27))]⟩ (opAt (rg f3 32035) 6) [(1,0),(2,0),(3,0)] [0,1,1] 1 o0 rfl (wZ ((a2.getD x24.toNat du).Shift) v11.1.solid v11.1.defects v11.1.catalog v11.1.saw.Kerf v11.1.saw.Trim v11.1.saw.Pitch v11.1.saw.Step v11.1.rates.Chip v11.1.rates.Dust v11.1.rates.Fine v11.1.length l26 l25 l27 v35 h36) (.inl rfl) (by kernel_rfl))] 4 [50] [] [1,2,3] [(1,bx 78 [tl qG du v11.1.solid,tl qE du v11.1.defects,tl qD du v11.1.catalog,ci v11.1.saw.Kerf,ci v11.1.saw.Trim,ci v11.1.saw.Pitch,ci v11.1.saw.Step,ci v11.1.rates.Chip,ci v11.1.rates.Dust,ci v11.1.rates.Fine,ci v11.1.length,.own 2 1 24 v35.2.2.1.length,tl qJ du v35.2.1,.own 3 1 4 v35.2.2.2.length]),(2,ro 1 80 24 v35.2.2.1.length (rf qC v35.2.2.1)),(3,ro 1 28 4 v35.2.2.2.length (rf qK v35.2.2.2))] ?_
      exact q_J (v35.2.2.1,v35.2.2.1.length,v35.2.1,v35.2.2.2,v35.2.2.2.length) ⟨rfl,rfl,hm⟩
   ·refine q_ex 0 ?_;obtain rfl:=oi hm;exact q_l1 ()
  ·rcases bif_c hm with⟨b28,hm⟩|⟨b28,hm⟩
   ·exact q_vv [qf 4 b28] 4 [] [(43,vb (decide (x24<24)))] (q_J (decide (x24<24)) hm)
   ·exact q_vv [qf 4 b28] 4 [] [(43,vb false)] (q_J (false) hm)
theorem CU (a1:qN) (a2:List zH) (r:Bool) (hm:KK a1 a2=some r):CtX Try.prog globs 3 0 0 [.agg (qW a1),.one (tl XN du a2)] [] (RW r) (TF r):=by
 unfold KK at hm;refine q_E f3 128 λE=>?_;refine s_vn [] 0 ⟨[(1,vc (tl XN du a2)),(2,vp 0 0)],[(0,bx 37 (qW a1))]⟩ (q_sq ?_);obtain⟨v3,h4,hm⟩:=qI hm;refine s_vv [qc 1 [13] 1 (qGE a1 v3 h4)] 1 [] [(15,vb (!v3))] (q_cq hm (λhm=>?_) (λhm=>?_))
 ·obtain⟨v6,h7,hm⟩:=qI hm;refine s_vn [qc 0 [] 1 (BA v6 h7)] 1 ⟨[(4,vb v6)],[]⟩ ?_;obtain rfl:=oi hm;exact q_rt q_rm
 ·refine q_sk (q_sq ?_);obtain⟨v8,h9,hm⟩:=qI hm;rcases sum_c hm with⟨v10,rfl,hm⟩|⟨v11,rfl,hm⟩
  ·refine q_vv [qc 1 [18] 1 (WD a1 (.inl v10) h9)] 1 [15] [(5,vc (.val (.pointer none))),(6,vi v10)] (q_sq ?_);refine q_jn (ι:=Unit) (λp=>GA a1 a2 v10) (λp=>JM v10=some r) ?_ ?_
   ·rintro _ hm;show H _ (GA a1 a2 v10) _ _;refine EH f3 (.tmp 27) 122 123 (by kernel_rfl) (by kernel_rfl) (q_jn (EV) (λp=>JK p=some r) ?_ ?_)
    ·rintro x16 hm;obtain rfl:=oi hm;exact q_rt q_rm
    ·rcases bif_c hm with⟨b13,hm⟩|⟨b13,hm⟩
     ·obtain⟨v14,h15,hm⟩:=qI hm;exact q_vn [qf 5 b13,qk 6 [33] 1 ⟨[(33,vb true)],[]⟩ (BA v14 h15)] 1 ⟨[(4,vb v14)],[]⟩ (q_J (v14) hm)
     ·exact q_vn [qf 5 b13] 1 ⟨[(4,vb false)],[]⟩ (q_J (false) hm)
   ·rcases bif_c hm with⟨b12,hm⟩|⟨b12,hm⟩
    ·exact q_vv [qf 2 b12] 1 [] [(27,vb true)] (q_J () hm)
    ·exact q_vv [qf 2 b12] 1 [] [(27,vb true)] (q_J () hm)
  ·refine q_vu [qc 1 [18] 1 (WD a1 (.inr v11) h9)] 1 [15] [(5,vp 1 0),(6,vi v11.2)] [] [(1,bx 78 [tl qG du v11.1.solid,tl qE du v11.1.defects,tl qD du v11.1.catalog,ci v11.1.saw.Kerf,ci v11.1.saw.Trim,ci v11.1.saw.Pitch,ci v11.1.saw.Step,ci v11.1.rates.Chip,ci v11.1.rates.Dust,ci v11.1.rates.Fine,ci v11.1.length,.own 2 0 24 v11.1.nodes.length,tl qJ du v11.1.rips,.own 3 0 4 v11.1.sawn.length]),(2,ro 0 80 24 v11.1.nodes.length (rf qC v11.1.nodes)),(3,ro 0 28 4 v11.1.sawn.length (rf qK v11.1.sawn))] (q_sq ?_);refine q_jn (AG a1 a2 v11) (λp=>JG a1 a2 v11 p=some r) ?_ ?_
   ·rintro x18 hm;refine q_cq hm (λhm=>?_) (λhm=>?_)
    ·refine q_jn (ES) (λp=>RC p=some r) ?_ ?_
     ·rintro x23 hm;obtain rfl:=oi hm;exact q_rt q_rm
     ·rcases bif_c hm with⟨b20,hm⟩|⟨b20,hm⟩
      ·obtain⟨v21,h22,hm⟩:=qI hm;exact q_vn [qf 5 b20,qk 6 [33] 4 ⟨[(33,vb true)],[]⟩ (BA v21 h22)] 4 ⟨[(4,vb v21)],[]⟩ (q_J (v21) hm)
      ·exact q_vn [qf 5 b20] 4 ⟨[(4,vb false)],[]⟩ (q_J (false) hm)
    ·refine q_sk (q_sq ?_);refine s_vv [] 4 [6,27] [(7,vi 0)] ?_;obtain⟨u65,h64,hm⟩:=qI hm;refine yX (nd f3 500) 0 (by kernel_rfl) FUEL (λo=>GH) (λv st=>RetQ Try.prog f3 (RW v) (TF v) .ret st) u65 (q_hl (XO a1 a2 v11 0 v11.1.nodes v11.1.nodes.length v11.1.rips v11.1.sawn v11.1.sawn.length) (SY E a1 a2 v11 FUEL 0 v11.1.nodes v11.1.nodes.length v11.1.rips v11.1.sawn v11.1.sawn.length u65 rfl rfl h64)) ?_ ?_
     ·rintro v66 rfl st hr;obtain rfl:=oi hm;exact hr
     ·rintro o63 rfl;replace hm:_=some r:=hm;obtain⟨v67,h68,hm⟩:=qI hm;refine s_vn [qc 0 [] 4 (BA v67 h68)] 4 ⟨[(4,vb v67)],[]⟩ ?_;obtain rfl:=oi hm;exact q_rt q_rm
   ·rcases bif_c hm with⟨b17,hm⟩|⟨b17,hm⟩
    ·exact q_vv [qf 2 b17] 4 [] [(27,vb true)] (q_J (true) hm)
    ·exact q_vv [qf 2 b17] 4 [] [(27,vb false)] (q_J (false) hm)
end Saw
end Go.SL
