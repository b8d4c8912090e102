import Derived.Test.YtidlfgiogdjkaaaGreatDoorEBase
import Derived.Test.YtidlfgiogdjkaaaGreatDoorEFa10
import Derived.Test.YtidlfgiogdjkaaaGreatDoorEFa9
set_option linter.unusedVariables false
set_option linter.unusedSimpArgs false
namespace Go.SL
namespace Saw
open Go.Proofs Go.Proofs.Tryz
set_option maxHeartbeats 4000000
set_option maxRecDepth 100000
def qWQ (r:Span×Int×Bool):V:= .tup [.agg (qG r.1),.one (ci r.2.1),.one (cb r.2.2)]
def qV0 (r:Span×Int×Bool):List (Nat×(Nat×O)):=[]
def JQ (a1:List qC) (a2:List qF) (a3:Product) (a4:Rect) (a5:Int) (a6:Int):St:=
 ⟨[(0,vc (tl qL du a1)),(1,vc (tl qP du a2)),(4,vi a5),(5,vi a6),(8,vp 0 0),(9,vp 1 0),(12,vp 2 0)],[(0,bx 54 (qH a3)),(1,bx 33 (qO a4)),(2,bx 31 [ci 0,ci 0])]⟩
def qGa (a1:List qC) (a2:List qF) (a3:Product) (a4:Rect) (a5:Int) (a6:Int) (x19:Int) (x26:Int) (x38:Int) (x39:Bool) (x40:Span):St:=
 (JQ a1 a2 a3 a4 a5 a6).up [] [(15,vp 3 0),(16,vi x38),(17,vb x39),(18,vi x19),(19,vi x26)] [] [(3,bx 31 (qG x40))]
def qOL (a1:List qC) (a2:List qF) (a3:Product) (a4:Rect) (a5:Int) (a6:Int) (x19:Int) (x24:Int) (x25:Bool) (x26:Int) (x27:Span) (v33:Int) (x36:Bool):St:=
 (JQ a1 a2 a3 a4 a5 a6).up [] [(15,vp 3 0),(16,vi x24),(17,vb x25),(18,vi x19),(19,vi x26),(20,vp 4 0),(21,vi v33),(84,vb x36)] [] [(3,bx 31 (qG x27)),(4,bx 128 [ci a4.X.A,ci a4.X.B,ci a4.Y.A,ci a4.Y.B,ci x19,ci (w64 (x19+(a3.Lengths.getD x26.toNat du)))])]
def qA7 (a1:List qC) (a2:List qF) (a3:Product) (a4:Rect) (a5:Int) (a6:Int) (x19:Int) (x24:Int) (x25:Bool) (x26:Int) (x27:Span):St:=
 (JQ a1 a2 a3 a4 a5 a6).up [] [(15,vp 3 0),(16,vi x24),(17,vb x25),(18,vi x19),(19,vi x26)] [] [(3,bx 31 (qG x27))]
def qGK (a1:List qC) (a2:List qF) (a3:Product) (a4:Rect) (a5:Int) (a6:Int) (x19:Int) (x41:Int) (x42:Bool) (x43:Span):St:=
 (JQ a1 a2 a3 a4 a5 a6).up [] [(15,vp 3 0),(16,vi x41),(17,vb x42),(18,vi x19)] [] [(3,bx 31 (qG x43))]
def qBy (a1:List qC) (a2:List qF) (a3:Product) (a4:Rect) (a5:Int) (a6:Int) (x17:Int) (x18:Bool) (x19:Int) (x20:Span):St:=
 (JQ a1 a2 a3 a4 a5 a6).up [] [(15,vp 3 0),(16,vi x17),(17,vb x18),(18,vi x19)] [] [(3,bx 31 (qG x20))]
def qGP (x46:Int) (x47:Bool) (x48:Span):St:=
 ⟨[(12,vp 2 0),(15,vp 3 0),(16,vi x46),(17,vb x47)],[(2,bx 31 [ci 0,ci 0]),(3,bx 31 (qG x48))]⟩
def qOV (a1:List qC) (a2:List qF) (a3:Product) (a4:Rect) (a5:Int) (a6:Int) (x15:Bool):St:=
 (JQ a1 a2 a3 a4 a5 a6).up [] [(36,vb x15)] [] []
theorem qM9 (E:Env 0) (a1:List qC) (a2:List qF) (a3:Product) (a4:Rect) (a5:Int) (a6:Int) (x19:Int):∀(n:Nat) (x24:Int) (x25:Bool) (x26:Int) (x27:Span) (res:Int×Bool×Span),yJ a1 a2 a3 a4 a6 x19 n x24 x25 x26 x27=some res->HL (kx E 91 0) (nd f198 15652) (zL 2 (λo=>qGK a1 a2 a3 a4 a5 a6 x19 o.1 o.2.1 o.2.2) res) n (qA7 a1 a2 a3 a4 a5 a6 x19 x24 x25 x26 x27):=by
 intro n
 induction n with
 |zero=>
  intro x24 x25 x26 x27 res hm;cases hm
 |succ n ih=>
  intro x24 x25 x26 x27 res hm;refine qT (q_sq ?_);refine s_va 4 [(50,vb (decide (x26<(a3.Lengths.length:Int))))] (q_cq hm (λhm=>?_) (λhm=>?_))
  ·refine q_sk (q_jn (ι:=Int×Bool×Span) (λp=>qGa a1 a2 a3 a4 a5 a6 x19 x26 p.1 p.2.1 p.2.2) (λp=>KY x26 (yJ a1 a2 a3 a4 a6 x19 n) p.1 p.2.1 p.2.2=some res) ?_ ?_)
   ·rintro⟨x38,x39,x40⟩ hm;show H _ (qGa a1 a2 a3 a4 a5 a6 x19 x26 x38 x39 x40) _ _;exact q_vv [] 5 [19] [(19,vi (w64 (x26+1)))] (q_hl (qA7 a1 a2 a3 a4 a5 a6 x19 x38 x39 (w64 (x26+1)) x40) (ih x38 x39 (w64 (x26+1)) x40 _ hm))
   ·refine q_bk 3 ?_;obtain⟨g29,hm⟩:=qI hm;refine s_du [qi 9 g29] [0,1,0,4,0,0,0,64,0,448,960,2016,4080,8191,0,32767] 4 [50] [(20,vp 4 0)] [] [(4,bx 128 [ci a4.X.A,ci a4.X.B,ci a4.Y.A,ci a4.Y.B,ci x19,ci (w64 (x19+(a3.Lengths.getD x26.toNat du)))])] (q_sq ?_);obtain⟨v30,h31,hm⟩:=qB hm;refine s_vv [qc 4 [67,68,69,70] 5 (qPs a1 a2 a3 (Box.mk a4.X a4.Y (Span.mk x19 (w64 (x19+(a3.Lengths.getD x26.toNat du))))) v30 h31)] 5 [] [(72,vb (!v30))] (q_cq hm (λhm=>?_) (λhm=>?_))
    ·exact q_ex 3 (q_J (x24,x25,x27) hm)
    ·refine q_sk ?_;obtain⟨v33,h34,hm⟩:=qB hm;refine s_vv [qc 4 [73,74,75,76] 5 (qRM a2 a3 (Box.mk a4.X a4.Y (Span.mk x19 (w64 (x19+(a3.Lengths.getD x26.toNat du))))) a6 v33 h34)] 5 [72] [(21,vi v33)] (q_jn (qOL a1 a2 a3 a4 a5 a6 x19 x24 x25 x26 x27 v33) (λp=>CN a3 x19 x24 x25 x26 x27 (yJ a1 a2 a3 a4 a6 x19 n) v33 p=some res) ?_ ?_)
     ·rintro x36 hm;refine q_cq hm (λhm=>?_) (λhm=>?_)
      ·exact q_vu [] 5 [16,17,20,21,84] [(16,vi v33),(17,vb true)] [3,4] [(3,bx 31 [ci x19,ci (w64 (x19+(a3.Lengths.getD x26.toNat du)))])] (q_J (v33,true,(Span.mk x19 (w64 (x19+(a3.Lengths.getD x26.toNat du))))) hm)
      ·exact q_sk (q_J (x24,x25,x27) hm)
     ·rcases bif_c hm with⟨b35,hm⟩|⟨b35,hm⟩
      ·exact q_vv [qf 2 b35] 5 [] [(84,vb true)] (q_J (true) hm)
      ·exact q_vv [qf 2 b35] 5 [] [(84,vb (decide (v33>x24)))] (q_J (decide (v33>x24)) hm)
  ·refine q_ex 2 ?_;obtain rfl:=oi hm;exact q_l0
theorem qNs (E:Env 0) (a1:List qC) (a2:List qF) (a3:Product) (a4:Rect) (a5:Int) (a6:Int):∀(n:Nat) (x17:Int) (x18:Bool) (x19:Int) (x20:Span) (res:Int×Bool×Span),TQ a1 a2 a3 a4 a5 a6 n x17 x18 x19 x20=some res->HL (kx E 91 0) (nd f198 244) (zL 0 (λo=>qGP o.1 o.2.1 o.2.2) res) n (qBy a1 a2 a3 a4 a5 a6 x17 x18 x19 x20):=by
 intro n
 induction n with
 |zero=>
  intro x17 x18 x19 x20 res hm;cases hm
 |succ n ih=>
  intro x17 x18 x19 x20 res hm;refine qT (q_sq ?_);obtain⟨v21,h22,hm⟩:=qB hm;refine s_vv [qc 2 [40] 4 (UQ a1 v21 h22)] 4 [] [(42,vb (decide (x19<v21)))] (q_cq hm (λhm=>?_) (λhm=>?_))
  ·refine q_sk (q_sq ?_);refine q_bk 1 (s_vv [] 4 [42] [(19,vi 0)] ?_);obtain⟨o44,h45,hm⟩:=qB hm;refine zF (nd f198 15652) 2 (by kernel_rfl) FUEL (λo=>qGK a1 a2 a3 a4 a5 a6 x19 o.1 o.2.1 o.2.2) o44 (q_hl (qA7 a1 a2 a3 a4 a5 a6 x19 x17 x18 0 x20) (qM9 E a1 a2 a3 a4 a5 a6 x19 FUEL x17 x18 0 x20 o44 h45)) (q_vv [] 4 [18] [(18,vi (w64 (x19+a5)))] ?_);exact q_hl (qBy a1 a2 a3 a4 a5 a6 o44.1 o44.2.1 (w64 (x19+a5)) o44.2.2) (ih o44.1 o44.2.1 (w64 (x19+a5)) o44.2.2 _ hm)
  ·refine q_ex 0 ?_;obtain rfl:=oi hm;exact q_l0
theorem qT7 (a1:List qC) (a2:List qF) (a3:Product) (a4:Rect) (a5:Int) (a6:Int) (r:Span×Int×Bool) (hm:qAU a1 a2 a3 a4 a5 a6=some r):CtX Tryz.prog globs 198 0 0 [.one (tl qL du a1),.one (tl qP du a2),.agg (qH a3),.agg (qO a4),.one (ci a5),.one (ci a6)] [] (qWQ r) (qV0 r):=by
 unfold qAU at hm;refine q_E f198 91 λE=>?_;refine s_vn [] 0 ⟨[(0,vc (tl qL du a1)),(1,vc (tl qP du a2)),(4,vi a5),(5,vi a6),(8,vp 0 0),(9,vp 1 0),(12,vp 2 0)],[(0,bx 54 (qH a3)),(1,bx 33 (qO a4)),(2,bx 31 [ci 0,ci 0])]⟩ (q_sq ?_);refine q_jn (qOV a1 a2 a3 a4 a5 a6) (λp=>FH a1 a2 a3 a4 a5 a6 p=some r) ?_ ?_
 ·rintro x15 hm;refine q_cq hm (λhm=>?_) (λhm=>?_)
  ·refine s_vu [] 3 [0,1,4,5,8,9,36] [(13,vi 0),(14,vb false)] [0,1] [] ?_;obtain rfl:=oi hm;exact q_rt q_rm
  ·refine q_sk (s_vu [] 3 [36] [(15,vp 3 0),(16,vi 0),(17,vb false)] [] [(3,bx 31 [ci 0,ci 0])] ?_);refine q_sq (s_va 4 [(18,vi 0)] ?_);obtain⟨o49,h50,hm⟩:=qB hm;refine zF (nd f198 244) 0 (by kernel_rfl) FUEL (λo=>qGP o.1 o.2.1 o.2.2) o49 (q_hl (qBy a1 a2 a3 a4 a5 a6 0 false 0 (Span.mk 0 0)) (qNs E a1 a2 a3 a4 a5 a6 FUEL 0 false 0 (Span.mk 0 0) o49 h50)) (s_vn [] 4 ⟨[(12,vp 2 0),(13,vi o49.1),(14,vb o49.2.1)],[(2,bx 31 (qG o49.2.2))]⟩ ?_);obtain rfl:=oi hm;exact q_rt q_rm
 ·obtain⟨v7,h8,hm⟩:=qB hm;rcases bif_c hm with⟨b9,hm⟩|⟨b9,hm⟩
  ·exact q_vv [qk 1 [22] 3 ⟨[(22,vi a5)],[]⟩ (zZ a5 1 20000 v7 h8),qf 3 b9] 3 [] [(36,vb true)] (q_J (true) hm)
  ·obtain⟨v10,h11,hm⟩:=qB hm;rcases bif_c hm with⟨b12,hm⟩|⟨b12,hm⟩
   ·exact q_vv [qk 1 [22] 3 ⟨[(22,vi a5)],[]⟩ (zZ a5 1 20000 v7 h8),qf 3 b9,qk 5 [25,26] 3 ⟨[(25,vb false),(26,vi a6)],[]⟩ (zZ a6 0 1000000 v10 h11),qf 8 b12] 3 [] [(36,vb true)] (q_J (true) hm)
   ·obtain⟨v13,h14,hm⟩:=qB hm;exact q_vv [qk 1 [22] 3 ⟨[(22,vi a5)],[]⟩ (zZ a5 1 20000 v7 h8),qf 3 b9,qk 5 [25,26] 3 ⟨[(25,vb false),(26,vi a6)],[]⟩ (zZ a6 0 1000000 v10 h11),qf 8 b12,qk 12 [30,31,32,33] 3 ⟨[(30,vb false),(31,vc (tl qL du a1)),(32,vc (tl qP du a2)),(33,va (qH a3))],[]⟩ (qRi a1 a2 a3 v13 h14)] 3 [] [(36,vb (!v13))] (q_J (!v13) hm)
def qRD (r:Int):V:=vi r
def qR4 (r:Int):List (Nat×(Nat×O)):=[]
def qLE (a1:List qC) (a2:Box) (x11:Int) (x12:Int) (x20:Int):St:=
 ⟨[(0,vc (tl qL du a1)),(3,vp 0 0),(5,vi x20),(6,vi x11),(7,vi x12)],[(0,bx 128 (wG a2))]⟩
def IC (a1:List qC) (a2:Box) (x10:Int) (x11:Int) (x12:Int):St:=
 ⟨[(0,vc (tl qL du a1)),(3,vp 0 0),(5,vi x10),(6,vi x11),(7,vi x12)],[(0,bx 128 (wG a2))]⟩
def qDV (x21:Int):St:=
 ⟨[(5,vi x21)],[]⟩
def qMi (a1:List qC) (a2:Box) (x8:Bool):St:=
 ⟨[(0,vc (tl qL du a1)),(3,vp 0 0),(39,vb x8)],[(0,bx 128 (wG a2))]⟩
theorem qKV (E:Env 0) (a1:List qC) (a2:Box):∀(n:Nat) (x10:Int) (x11:Int) (x12:Int) (res:Int),QZ a1 a2 n x10 x11 x12=some res->HL (kx E 88 0) (nd f102 244) (zL 0 qDV res) n (IC a1 a2 x10 x11 x12):=by
 intro n
 induction n with
 |zero=>
  intro x10 x11 x12 res hm;cases hm
 |succ n ih=>
  intro x10 x11 x12 res hm;refine qT (q_sq ?_);refine s_va 1 [(43,vb (decide (x12<(a1.length:Int))))] (q_cq hm (λhm=>?_) (λhm=>?_))
  ·refine q_sk (q_sq ?_);refine q_bk 1 (s_vu [] 1 [43] [(8,vp 1 0)] [] [(1,bx 31 [ci (imax a2.Z.A 0),ci (imin a2.Z.B 20000)])] ?_);obtain⟨g14,hm⟩:=qI hm;obtain⟨v15,h16,hm⟩:=qB hm;refine s_du [qi 4 g14,qc 7 [55,56,61] 2 (qJj (Span.mk (imax a2.Z.A 0) (imin a2.Z.B 20000)) x11 ((a1.getD x12.toNat du).Len) v15 h16)] [0,0,0,0,12,28,60,127,255] 2 [8] [(9,vi v15)] [1] [] (q_jn (qLE a1 a2 x11 x12) (λp=>LX a1 x11 x12 (QZ a1 a2 n) p=some res) ?_ ?_)
   ·rintro x20 hm;refine q_vv [qi 3 g14] 2 [6] [(6,vi (w64 (x11+((a1.getD x12.toNat du).Len))))] (q_vv [] 2 [7] [(7,vi (w64 (x12+1)))] ?_);exact q_hl (IC a1 a2 x20 (w64 (x11+((a1.getD x12.toNat du).Len))) (w64 (x12+1))) (ih x20 (w64 (x11+((a1.getD x12.toNat du).Len))) (w64 (x12+1)) _ hm)
   ·refine s_va 2 [(64,vb (decide (v15>0)))] (q_cq hm (λhm=>?_) (λhm=>?_))
    ·obtain⟨v18,h19,hm⟩:=qB hm;exact q_du [qi 4 g14,qc 12 [71,76] 2 (qGd ((a1.getD x12.toNat du).Sec) (Rect.mk a2.X a2.Y) v18 h19)] [0,0,0,0,12,28,60,0,128,0,512,1920,4092,8190,16383,32767] 2 [5,9,64] [(5,vi (w64 (x10+(w64 (v15*v18)))))] [] [] (q_J (w64 (x10+(w64 (v15*v18)))) hm)
    ·exact q_sk (q_J (x10) hm)
  ·refine q_ex 0 ?_;obtain rfl:=oi hm;exact q_l0
theorem qGR (a1:List qC) (a2:Box) (r:Int) (hm:DU a1 a2=some r):CtX Tryz.prog globs 102 0 0 [.one (tl qL du a1),.agg (wG a2)] [] (qRD r) (qR4 r):=by
 unfold DU at hm;refine q_E f102 88 λE=>?_;refine s_vn [] 0 ⟨[(0,vc (tl qL du a1)),(3,vp 0 0)],[(0,bx 128 (wG a2))]⟩ (q_sq ?_);refine q_jn (qMi a1 a2) (λp=>WP a1 a2 p=some r) ?_ ?_
 ·rintro x8 hm;refine q_cq hm (λhm=>?_) (λhm=>?_)
  ·refine s_vn [] 1 ⟨[(4,vi 0)],[]⟩ ?_;obtain rfl:=oi hm;exact q_rt q_rm
  ·refine q_sk (s_vv [] 1 [39] [(5,vi 0),(6,vi 0)] ?_);refine q_sq (s_va 1 [(7,vi 0)] ?_);obtain⟨o22,h23,hm⟩:=qB hm;refine zF (nd f102 244) 0 (by kernel_rfl) FUEL qDV o22 (q_hl (IC a1 a2 0 0 0) (qKV E a1 a2 FUEL 0 0 0 o22 h23)) (s_vn [] 1 ⟨[(4,vi o22)],[]⟩ ?_);obtain rfl:=oi hm;exact q_rt q_rm
 ·obtain⟨v3,h4,hm⟩:=qB hm;rcases bif_c hm with⟨b5,hm⟩|⟨b5,hm⟩
  ·exact q_vv [qc 1 [10] 1 (jG a1 v3 h4),qf 3 b5] 1 [] [(39,vb true)] (q_J (true) hm)
  ·rcases bif_c hm with⟨b6,hm⟩|⟨b6,hm⟩
   ·exact q_vv [qc 1 [10] 1 (jG a1 v3 h4),qf 3 b5,qf 12 b6] 1 [] [(39,vb true)] (q_J (true) hm)
   ·rcases bif_c hm with⟨b7,hm⟩|⟨b7,hm⟩
    ·exact q_vv [qc 1 [10] 1 (jG a1 v3 h4),qf 3 b5,qf 12 b6,qf 21 b7] 1 [] [(39,vb true)] (q_J (true) hm)
    ·exact q_vv [qc 1 [10] 1 (jG a1 v3 h4),qf 3 b5,qf 12 b6,qf 21 b7] 1 [] [(39,vb (decide (a2.Z.A≥a2.Z.B)))] (q_J (decide (a2.Z.A≥a2.Z.B)) hm)
def qTw (r:Int):V:=vi r
def qT2 (r:Int):List (Nat×(Nat×O)):=[]
theorem AG (a1:List qC) (a2:Rect) (a3:Span) (r:Int) (hm:PV a1 a2 a3=some r):CtX Tryz.prog globs 199 0 0 [.one (tl qL du a1),.agg (qO a2),.agg (qG a3)] [] (qTw r) (qT2 r):=by
 unfold PV at hm;refine q_E f199 15 λE=>?_;refine s_vn [] 0 ⟨[(0,vc (tl qL du a1)),(4,vp 0 0),(5,vp 1 0)],[(0,bx 33 (qO a2)),(1,bx 31 (qG a3))]⟩ ?_;obtain⟨v4,h5,hm⟩:=qB hm;refine s_vn [qc 7 [7,13] 2 (qGR a1 (Box.mk a2.X a2.Y a3) v4 h5)] 2 ⟨[(6,vi v4)],[]⟩ ?_;obtain rfl:=oi hm;exact q_rt q_rm
open Go.Proofs Go.Proofs.Tryz
def qRt (r:Int):V:=vi r
def qRS (r:Int):List (Nat×(Nat×O)):=[]
theorem qGU (a1:List qC) (a2:Rect) (r:Int) (hm:BA a1 a2=some r):CtX Tryz.prog globs 162 0 0 [.one (tl qL du a1),.agg (qO a2)] [] (qRt r) (qRS r):=by
 unfold BA at hm;refine q_E f162 11 λE=>?_;refine s_vn [] 0 ⟨[(0,vc (tl qL du a1)),(3,vp 0 0)],[(0,bx 33 (qO a2))]⟩ ?_;obtain⟨v3,h4,hm⟩:=qB hm;obtain⟨v5,h6,hm⟩:=qB hm;refine s_dn [qc 3 [7] 1 (UQ a1 v3 h4),qc 5 [5,6,9] 1 (AG a1 a2 (Span.mk 0 v3) v5 h6)] [0,0,0,4,12,31,63] 1 ⟨[(4,vi v5)],[]⟩ ?_;obtain rfl:=oi hm;exact q_rt q_rm
def qW6 (r:Int):V:=vi r
def qU5 (r:Int):List (Nat×(Nat×O)):=[]
theorem qUA (a1:List qC) (a2:List qF) (a3:Product) (a4:Rect) (a5:Saw) (a6:Rates) (r:Int) (hm:qBp a1 a2 a3 a4 a5 a6=some r):CtX Tryz.prog globs 161 0 0 [.one (tl qL du a1),.one (tl qP du a2),.agg (qH a3),.agg (qO a4),.agg (zW a5),.agg (zN a6)] [] (qW6 r) (qU5 r):=by
 unfold qBp at hm;refine q_E f161 80 λE=>?_;refine s_vn [] 0 ⟨[(0,vc (tl qL du a1)),(1,vc (tl qP du a2)),(8,vp 0 0),(9,vp 1 0),(10,vp 2 0),(11,vp 3 0)],[(0,bx 54 (qH a3)),(1,bx 33 (qO a4)),(2,bx 38 (zW a5)),(3,bx 40 (zN a6))]⟩ ?_;obtain⟨v7,h8,hm⟩:=qB hm;refine s_vu [qc 8 [18,19,20,21,23,25] 4 (qT7 a1 a2 a3 a4 a5.Step a6.Fine v7 h8)] 4 [1,8] [(13,vp 4 0),(14,vi v7.2.1),(15,vb v7.2.2)] [0] [(4,bx 31 (qG v7.1))] (q_sq ?_);refine s_vv [] 5 [15] [(31,vb (!v7.2.2))] (q_cq hm (λhm=>?_) (λhm=>?_))
 ·refine s_vn [] 5 ⟨[(12,vi (-1))],[]⟩ ?_;obtain rfl:=oi hm;exact q_rt q_rm
 ·refine q_sk ?_;obtain⟨v10,h11,hm⟩:=qB hm;obtain⟨v12,h13,hm⟩:=qB hm;obtain⟨v14,h15,hm⟩:=qB hm;refine s_du [qc 11 [32,33,42] 5 (AG a1 a4 (Span.mk (imax 0 (w64 (v7.1.A-a5.Trim))) v7.1.A) v10 h11),qc 22 [53] 5 (UQ a1 v12 h13),qc 25 [44,45,56] 5 (AG a1 a4 (Span.mk v7.1.B (imin (w64 (v7.1.B+a5.Trim)) v12)) v14 h15)] [0,0,0,4,0,16,60,124,0,256,1020,2047,0,0,0,16384,0,65536,0,262144,983040,0,2101247,8327167,16764927,33554431,67108863,134217727] 5 [10,31] [(16,vi (w64 (v10+v14)))] [2] [] ?_;obtain⟨v16,h17,hm⟩:=qB hm;obtain⟨v18,h19,hm⟩:=qB hm
  refine s_dn [qc 11 [68,69] 5 (qGU a1 a4 v16 h17),qc 15 [71,72,73] 5 (AG a1 a4 v7.1 v18 h19)] [0,1,0,4,0,28,63,0,128,0,0,1536,0,0,0,32256,65024,0,261632,524160,1048575,2097151] 5 ⟨[(12,vi (w64 ((w64 ((w64 (1000000*v7.2.1))+(w64 (a6.Dust*(w64 (v10+v14))))))+(w64 (a6.Chip*(w64 ((w64 (v16-v18))-(w64 (v10+v14)))))))))],[]⟩ ?_;obtain rfl:=oi hm;exact q_rt q_rm
def qUB (r:Int):V:=vi r
def qTA (r:Int):List (Nat×(Nat×O)):=[]
def qMO (x24:Bool):St:=
 ⟨[(42,vb x24)],[]⟩
def qMP (a2:Rates) (x14:Bool):St:=
 ⟨[(3,vp 1 0),(26,vb x14)],[(1,bx 40 (zN a2))]⟩
theorem qHA (a1:Saw) (a2:Rates) (r:Int) (hm:LE a1 a2=some r):CtX Tryz.prog globs 55 0 0 [.agg (zW a1),.agg (zN a2)] [] (qUB r) (qTA r):=by
 unfold LE at hm;refine q_E f55 43 λE=>?_;refine s_vn [] 0 ⟨[(2,vp 0 0),(3,vp 1 0)],[(0,bx 38 (zW a1)),(1,bx 40 (zN a2))]⟩ (q_sq ?_);refine q_jn (qMP a2) (λp=>RB a2 p=some r) ?_ ?_
 ·rintro x14 hm;refine q_cq hm (λhm=>?_) (λhm=>?_)
  ·refine s_vn [] 2 ⟨[(4,vi 9)],[]⟩ ?_;obtain rfl:=oi hm;exact q_rt q_rm
  ·refine q_sk (q_sq ?_);refine q_jn (qMO) (λp=>GX p=some r) ?_ ?_
   ·rintro x24 hm;refine q_cq hm (λhm=>?_) (λhm=>?_)
    ·refine s_vn [] 2 ⟨[(4,vi 9)],[]⟩ ?_;obtain rfl:=oi hm;exact q_rt q_rm
    ·refine q_sk (s_vn [] 2 ⟨[(4,vi 0)],[]⟩ ?_);obtain rfl:=oi hm;exact q_rt q_rm
   ·obtain⟨v16,h17,hm⟩:=qB hm;rcases bif_c hm with⟨b18,hm⟩|⟨b18,hm⟩
    ·exact q_vn [qk 2 [28] 2 ⟨[(28,vi a2.Chip)],[]⟩ (zZ a2.Chip 0 1000 v16 h17),qf 4 b18] 2 ⟨[(42,vb true)],[]⟩ (q_J (true) hm)
    ·obtain⟨v19,h20,hm⟩:=qB hm;rcases bif_c hm with⟨b21,hm⟩|⟨b21,hm⟩
     ·exact q_vn [qk 2 [28] 2 ⟨[(28,vi a2.Chip)],[]⟩ (zZ a2.Chip 0 1000 v16 h17),qf 4 b18,qk 7 [31,33] 2 ⟨[(31,vb false),(33,vi a2.Dust)],[]⟩ (zZ a2.Dust 0 1000 v19 h20),qf 10 b21] 2 ⟨[(42,vb true)],[]⟩ (q_J (true) hm)
     ·obtain⟨v22,h23,hm⟩:=qB hm;exact q_vn [qk 2 [28] 2 ⟨[(28,vi a2.Chip)],[]⟩ (zZ a2.Chip 0 1000 v16 h17),qf 4 b18,qk 7 [31,33] 2 ⟨[(31,vb false),(33,vi a2.Dust)],[]⟩ (zZ a2.Dust 0 1000 v19 h20),qf 10 b21,qk 13 [37,39] 2 ⟨[(37,vb false),(39,vi a2.Fine)],[]⟩ (zZ a2.Fine 0 1000000 v22 h23)] 2 ⟨[(42,vb (!v22))],[]⟩ (q_J (!v22) hm)
 ·obtain⟨v3,h4,hm⟩:=qB hm;rcases bif_c hm with⟨b5,hm⟩|⟨b5,hm⟩
  ·exact q_vu [qk 2 [6] 2 ⟨[(6,vi a1.Kerf)],[]⟩ (zZ a1.Kerf 0 20 v3 h4),qf 4 b5] 2 [2] [(26,vb true)] [0] [] (q_J (true) hm)
  ·obtain⟨v6,h7,hm⟩:=qB hm;rcases bif_c hm with⟨b8,hm⟩|⟨b8,hm⟩
   ·exact q_vu [qk 2 [6] 2 ⟨[(6,vi a1.Kerf)],[]⟩ (zZ a1.Kerf 0 20 v3 h4),qf 4 b5,qk 7 [9,11] 2 ⟨[(9,vb false),(11,vi a1.Trim)],[]⟩ (zZ a1.Trim 0 20 v6 h7),qf 10 b8] 2 [2] [(26,vb true)] [0] [] (q_J (true) hm)
   ·obtain⟨v9,h10,hm⟩:=qB hm;rcases bif_c hm with⟨b11,hm⟩|⟨b11,hm⟩
    ·exact q_vu [qk 2 [6] 2 ⟨[(6,vi a1.Kerf)],[]⟩ (zZ a1.Kerf 0 20 v3 h4),qf 4 b5,qk 7 [9,11] 2 ⟨[(9,vb false),(11,vi a1.Trim)],[]⟩ (zZ a1.Trim 0 20 v6 h7),qf 10 b8,qk 13 [15,17] 2 ⟨[(15,vb false),(17,vi a1.Pitch)],[]⟩ (zZ a1.Pitch 1 2000 v9 h10),qf 16 b11] 2 [2] [(26,vb true)] [0] [] (q_J (true) hm)
    ·obtain⟨v12,h13,hm⟩:=qB hm;exact q_vu [qk 2 [6] 2 ⟨[(6,vi a1.Kerf)],[]⟩ (zZ a1.Kerf 0 20 v3 h4),qf 4 b5,qk 7 [9,11] 2 ⟨[(9,vb false),(11,vi a1.Trim)],[]⟩ (zZ a1.Trim 0 20 v6 h7),qf 10 b8,qk 13 [15,17] 2 ⟨[(15,vb false),(17,vi a1.Pitch)],[]⟩ (zZ a1.Pitch 1 2000 v9 h10),qf 16 b11,qk 19 [21,23] 2 ⟨[(21,vb false),(23,vi a1.Step)],[]⟩ (zZ a1.Step 1 20000 v12 h13)] 2 [2] [(26,vb (!v12))] [0] [] (q_J (!v12) hm)
open Go.Proofs Go.Proofs.Tryz
def qR1 (r:Bool):V:=vb r
def qR5 (r:Bool):List (Nat×(Nat×O)):=[]
def qLZ (x5:Bool):St:=
 ⟨[(2,vb x5)],[]⟩
theorem qBm (a1:Span) (r:Bool) (hm:DT a1=some r):CtX Tryz.prog globs 197 0 0 [.agg (qG a1)] [] (qR1 r) (qR5 r):=by
 unfold DT at hm;refine q_E f197 21 λE=>?_;refine s_vn [] 0 ⟨[(1,vp 0 0)],[(0,bx 31 (qG a1))]⟩ (q_jn (qLZ) (λp=>KD p=some r) ?_ ?_)
 ·rintro x5 hm;obtain rfl:=oi hm;exact q_rt q_rm
 ·rcases bif_c hm with⟨b2,hm⟩|⟨b2,hm⟩
  ·exact q_vn [qf 3 b2] 1 ⟨[(2,vb true)],[]⟩ (q_J (true) hm)
  ·rcases bif_c hm with⟨b3,hm⟩|⟨b3,hm⟩
   ·exact q_vn [qf 3 b2,qf 8 b3] 1 ⟨[(2,vb true)],[]⟩ (q_J (true) hm)
   ·rcases bif_c hm with⟨b4,hm⟩|⟨b4,hm⟩
    ·exact q_vn [qf 3 b2,qf 8 b3,qf 13 b4] 1 ⟨[(2,vb true)],[]⟩ (q_J (true) hm)
    ·exact q_vn [qf 3 b2,qf 8 b3,qf 13 b4] 1 ⟨[(2,vb (decide (a1.B>600)))],[]⟩ (q_J (decide (a1.B>600)) hm)
def qTE (r:Int):V:=vi r
def qUF (r:Int):List (Nat×(Nat×O)):=[]
def qN0 (x27:Bool):St:=
 ⟨[(61,vb x27)],[]⟩
def qNW (a4:Rect) (x20:Bool):St:=
 ⟨[(9,vp 0 0),(53,vb x20)],[(0,bx 33 (qO a4))]⟩
theorem qRI (a1:List qC) (a2:List qF) (a3:List Product) (a4:Rect) (a5:Saw) (a6:Rates) (r:Int) (hm:OG a1 a2 a3 a4 a5 a6=some r):CtX Tryz.prog globs 160 0 0 [.one (tl qL du a1),.one (tl qP du a2),.one (tl qH du a3),.agg (qO a4),.agg (zW a5),.agg (zN a6)] [] (qTE r) (qUF r):=by
 unfold OG at hm;refine q_E f160 62 λE=>?_;refine s_vn [] 0 ⟨[(0,vc (tl qL du a1)),(1,vc (tl qP du a2)),(2,vc (tl qH du a3)),(9,vp 0 0),(10,vp 1 0),(11,vp 2 0)],[(0,bx 33 (qO a4)),(1,bx 38 (zW a5)),(2,bx 40 (zN a6))]⟩ (q_sq ?_);obtain⟨v7,h8,hm⟩:=qB hm;refine s_vv [qc 1 [17] 3 (jG a1 v7 h8)] 3 [0] [(13,vi v7)] (s_va 3 [(20,vb (v7 !=0))] ?_);refine q_cq hm (λhm=>?_) (λhm=>?_)
 ·refine s_vn [] 3 ⟨[(12,vi v7)],[]⟩ ?_;obtain rfl:=oi hm;exact q_rt q_rm
 ·refine q_sk (q_sq ?_);obtain⟨v10,h11,hm⟩:=qB hm;refine s_vv [qc 1 [22] 3 (SZ a2 v10 h11)] 3 [1,13,20] [(14,vi v10)] (s_va 3 [(25,vb (v10 !=0))] ?_);refine q_cq hm (λhm=>?_) (λhm=>?_)
  ·refine s_vn [] 3 ⟨[(12,vi v10)],[]⟩ ?_;obtain rfl:=oi hm;exact q_rt q_rm
  ·refine q_sk (q_sq ?_);obtain⟨v13,h14,hm⟩:=qB hm;refine s_vv [qc 1 [27] 3 (GZ a3 v13 h14)] 3 [2,14,25] [(15,vi v13)] (s_va 3 [(30,vb (v13 !=0))] ?_);refine q_cq hm (λhm=>?_) (λhm=>?_)
   ·refine s_vn [] 3 ⟨[(12,vi v13)],[]⟩ ?_;obtain rfl:=oi hm;exact q_rt q_rm
   ·refine q_sk (q_sq ?_);obtain⟨v16,h17,hm⟩:=qB hm;refine s_vu [qc 2 [32,33] 3 (qHA a5 a6 v16 h17)] 3 [10,11,15,30] [(16,vi v16)] [1,2] [] (s_va 3 [(36,vb (v16 !=0))] ?_);refine q_cq hm (λhm=>?_) (λhm=>?_)
    ·refine s_vn [] 3 ⟨[(12,vi v16)],[]⟩ ?_;obtain rfl:=oi hm;exact q_rt q_rm
    ·refine q_sk (q_sq ?_);refine q_jn (qNW a4) (λp=>ES a4 p=some r) ?_ ?_
     ·rintro x20 hm;refine q_cq hm (λhm=>?_) (λhm=>?_)
      ·refine s_vn [] 3 ⟨[(12,vi 19)],[]⟩ ?_;obtain rfl:=oi hm;exact q_rt q_rm
      ·refine q_sk (q_sq ?_);refine q_jn (qN0) (λp=>EU p=some r) ?_ ?_
       ·rintro x27 hm;refine q_cq hm (λhm=>?_) (λhm=>?_)
        ·refine s_vn [] 3 ⟨[(12,vi 9)],[]⟩ ?_;obtain rfl:=oi hm;exact q_rt q_rm
        ·refine q_sk (s_vn [] 3 ⟨[(12,vi 0)],[]⟩ ?_);obtain rfl:=oi hm;exact q_rt q_rm
       ·obtain⟨v22,h23,hm⟩:=qB hm;rcases bif_c hm with⟨b24,hm⟩|⟨b24,hm⟩
        ·exact q_vn [qc 2 [55] 3 (qBm a4.X v22 h23),qf 3 b24] 3 ⟨[(61,vb true)],[]⟩ (q_J (true) hm)
        ·obtain⟨v25,h26,hm⟩:=qB hm;exact q_vn [qc 2 [55] 3 (qBm a4.X v22 h23),qf 3 b24,qk 6 [57,59] 3 ⟨[(57,vb false),(59,va (qG a4.Y))],[]⟩ (qBm a4.Y v25 h26)] 3 ⟨[(61,vb v25)],[]⟩ (q_J (v25) hm)
     ·rcases bif_c hm with⟨b19,hm⟩|⟨b19,hm⟩
      ·exact q_vv [qf 7 b19] 3 [16,36] [(53,vb true)] (q_J (true) hm)
      ·exact q_vv [qf 7 b19] 3 [16,36] [(53,vb (decide (a4.Y.A≥a4.Y.B)))] (q_J (decide (a4.Y.A≥a4.Y.B)) hm)
def qT3 (r:(List Int)×(List Int)):V:= .tup [.one (.own 0 0 1 r.1.length),.one (.own 1 0 1 r.2.length)]
def qUn (r:(List Int)×(List Int)):List (Nat×(Nat×O)):=[(0,ro 0 3 1 r.1.length (rf qA r.1)),(1,ro 0 3 1 r.2.length (rf qA r.2))]
def qFw (a1:List Product) (a2:Int) (x8:Int) (l19:List Int) (l19n:Nat) (l20:List Int) (l20n:Nat):St:=
 ⟨[(0,vc (tl qH du a1)),(1,vi a2),(6,vo 0 0 1 l19n),(7,vo 1 0 1 l20n),(8,vi x8)],[(0,ro 0 3 1 l19n (rf qA l19)),(1,ro 0 3 1 l20n (rf qA l20))]⟩
def CV (a1:List Product) (a2:Int) (l6:List Int) (l6n:Nat) (l7:List Int) (l7n:Nat) (x8:Int):St:=
 ⟨[(0,vc (tl qH du a1)),(1,vi a2),(6,vo 0 0 1 l6n),(7,vo 1 0 1 l7n),(8,vi x8)],[(0,ro 0 3 1 l6n (rf qA l6)),(1,ro 0 3 1 l7n (rf qA l7))]⟩
def qFv (l21:List Int) (l22:List Int):St:=
 ⟨[(6,vo 0 0 1 l21.length),(7,vo 1 0 1 l22.length)],[(0,ro 0 3 1 l21.length (rf qA l21)),(1,ro 0 3 1 l22.length (rf qA l22))]⟩
theorem qLB (E:Env 0) (a1:List Product) (a2:Int):∀(n:Nat) (l6:List Int) (l6n:Nat) (l7:List Int) (l7n:Nat) (x8:Int) (res:(List Int)×(List Int)),l6.length=l6n->l7.length=l7n->yL a1 a2 n l6 l7 x8=some res->HL (kx E 52 0) (nd f99 244) (zL 0 (λo=>qFv o.1 o.2) res) n (CV a1 a2 l6 l6n l7 l7n x8):=by
 intro n
 induction n with
 |zero=>
  intro l6 l6n l7 l7n x8 res hl0 hl1 hm;cases hm
 |succ n ih=>
  intro l6 l6n l7 l7n x8 res hl0 hl1 hm;subst hl0;subst hl1;refine qT (q_sq ?_);refine s_va 2 [(17,vb (decide (x8<(a1.length:Int))))] (q_cq hm (λhm=>?_) (λhm=>?_))
  ·refine q_sk (q_jn (ι:=(List Int)×Nat×(List Int)×Nat) (λp=>qFw a1 a2 x8 p.1 p.2.1 p.2.2.1 p.2.2.2) (λp=>p.1.length=p.2.1/\p.2.2.1.length=p.2.2.2/\GY x8 (yL a1 a2 n) p.1 p.2.2.1=some res) ?_ ?_)
   ·rintro⟨l19,l19n,l20,l20n⟩ ⟨el19,el20,hm⟩;replace el19:l19.length=l19n:=el19;subst el19;replace el20:l20.length=l20n:=el20;subst el20;show H _ (qFw a1 a2 x8 l19 l19.length l20 l20.length) _ _;exact q_vv [] 4 [8] [(8,vi (w64 (x8+1)))] (q_hl (CV a1 a2 l19 l19.length l20 l20.length (w64 (x8+1))) (ih l19 l19.length l20 l20.length (w64 (x8+1)) _ rfl rfl hm))
   ·refine q_bk 1 ?_;obtain⟨g10,hm⟩:=qI hm;obtain⟨v11,h12,hm⟩:=qB hm;refine s_vv [qi 2 g10,qc 4 [24] 2 (AH (a1.getD x8.toNat du) v11 h12)] 2 [17] [(9,vi v11.1),(10,vi v11.2)] (s_va 2 [(30,vb (v11.1==a2))] ?_);refine q_cq hm (λhm=>?_) (λhm=>?_)
    ·obtain⟨g14,hm⟩:=qI hm;refine s_vu [qd 2 (drw 2 0 (rf qA [v11.2])) (litP qA du 1 (λ_=>rfl) ([v11.2]:List Int) 1 rfl),qd 3 (drw 0 1 (rf qA (l6++[v11.2]))) (apP qA du l6 ([v11.2]:List Int) l6.length 1 1 8 (1<=1) (ki _) rfl rfl (λ_=>rfl) (zI g14))] 2 [6,9,10,30] [(6,vo 0 1 1 (l6.length+1))] [0] [(0,ro 1 3 1 (l6.length+1) (rf qA (l6++[v11.2])))] ?_;obtain⟨g15,hm⟩:=qI hm
     exact q_vu [qd 2 (drw 3 0 (rf qA [x8])) (litP qA du 1 (λ_=>rfl) ([x8]:List Int) 1 rfl),qd 3 (drw 1 1 (rf qA (l7++[x8]))) (apP qA du l7 ([x8]:List Int) l7.length 1 1 8 (1<=1) (ki _) rfl rfl (λ_=>rfl) (zI g15))] 3 [7] [(7,vo 1 1 1 (l7.length+1))] [1] [(1,ro 1 3 1 (l7.length+1) (rf qA (l7++[x8])))] (q_J ((l6++[v11.2]),(l6.length+1),(l7++[x8]),(l7.length+1)) ⟨(zE rfl rfl),(zE rfl rfl),hm⟩)
    ·refine s_vv [] 2 [10,30] [(41,vb (v11.2==a2))] (q_cq hm (λhm=>?_) (λhm=>?_))
     ·obtain⟨g17,hm⟩:=qI hm;refine s_vu [qd 2 (drw 2 0 (rf qA [v11.1])) (litP qA du 1 (λ_=>rfl) ([v11.1]:List Int) 1 rfl),qd 3 (drw 0 1 (rf qA (l6++[v11.1]))) (apP qA du l6 ([v11.1]:List Int) l6.length 1 1 8 (1<=1) (ki _) rfl rfl (λ_=>rfl) (zI g17))] 2 [6,9,41] [(6,vo 0 1 1 (l6.length+1))] [0] [(0,ro 1 3 1 (l6.length+1) (rf qA (l6++[v11.1])))] ?_;obtain⟨g18,hm⟩:=qI hm
      exact q_vu [qd 2 (drw 3 0 (rf qA [x8])) (litP qA du 1 (λ_=>rfl) ([x8]:List Int) 1 rfl),qd 3 (drw 1 1 (rf qA (l7++[x8]))) (apP qA du l7 ([x8]:List Int) l7.length 1 1 8 (1<=1) (ki _) rfl rfl (λ_=>rfl) (zI g18))] 3 [7] [(7,vo 1 1 1 (l7.length+1))] [1] [(1,ro 1 3 1 (l7.length+1) (rf qA (l7++[x8])))] (q_J ((l6++[v11.1]),(l6.length+1),(l7++[x8]),(l7.length+1)) ⟨(zE rfl rfl),(zE rfl rfl),hm⟩)
     ·exact q_sk (q_J (l6,l6.length,l7,l7.length) ⟨rfl,rfl,hm⟩)
  ·refine q_ex 0 ?_;obtain rfl:=oi hm;exact q_l0
theorem qHO (a1:List Product) (a2:Int) (r:(List Int)×(List Int)) (hm:FT a1 a2=some r):CtX Tryz.prog globs 99 0 0 [.one (tl qH du a1),.one (ci a2)] [] (qT3 r) (qUn r):=by
 unfold FT at hm;refine q_E f99 52 λE=>?_;refine s_vn [] 0 ⟨[(0,vc (tl qH du a1)),(1,vi a2)],[]⟩ (q_sq ?_);obtain⟨v3,h4,hm⟩:=qB hm;refine s_vv [qc 1 [11] 0 (GZ a1 v3 h4)] 0 [] [(13,vb (v3 !=0))] (q_cq hm (λhm=>?_) (λhm=>?_))
 ·refine s_vn [] 0 ⟨[(4,vc (.emp)),(5,vc (.emp))],[]⟩ (q_fo 4 0 3 1 qA ?_);refine q_fo 5 1 3 1 qA (q_fl 4 0 3 1 qA ?_);refine q_fl 5 1 3 1 qA ?_;obtain rfl:=oi hm;exact q_rt q_rm
 ·refine q_sk (s_vv [] 0 [13] [(6,vc (.emp)),(7,vc (.emp))] ?_);refine q_sq (s_va 0 [(8,vi 0)] ?_);refine q_fo 6 0 3 1 qA (q_fo 7 1 3 1 qA ?_);obtain⟨o23,h24,hm⟩:=qB hm;refine zF (nd f99 244) 0 (by kernel_rfl) FUEL (λo=>qFv o.1 o.2) o23 (q_hl (CV a1 a2 ([]:List Int) 0 ([]:List Int) 0 0) (qLB E a1 a2 FUEL ([]:List Int) 0 ([]:List Int) 0 0 o23 rfl rfl h24)) (s_vv [] 2 [6,7] [(4,vo 0 0 1 o23.1.length),(5,vo 1 0 1 o23.2.length)] ?_);obtain rfl:=oi hm;exact q_rt q_rm
end Saw
end Go.SL
