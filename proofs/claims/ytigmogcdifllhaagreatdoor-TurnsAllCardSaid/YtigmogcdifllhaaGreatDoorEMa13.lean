/- The example of the chapter: the best pieces of the SN of the second line. -/
import Derived.Test.YtigmogcdifllhaaGreatDoorEMa12
set_option linter.unusedVariables false
set_option linter.unusedSimpArgs false
namespace Go.SL
namespace Saw
def LE :Line:=⟨60,4,1,[100],[[]],z60,z60⟩
def LF :Line:=⟨60,4,1,[50],[g0r],z60,z60⟩
theorem qFR :yV LE=some ([],0,0):=by kernel_rfl
theorem cut_F :yV LF=some ([⟨0,0⟩],80000000,0):=by kernel_rfl
theorem TP {a1:List qB} {a3:List Product} {a4:Rect} {a5:Saw} {a6:Rates} {L:Line} {pc:List zR} {v:Int} {sz:List Int×List Int} {at_:List Span} {ps:List (List Node)} {nd:List Node} (el:qDp a1 [] a3 a4 a5 a6=some (L,0)) (cb:yV L=some (pc,v,0)) (hs:IQ a3 (w64 (a4.Y.B-a4.Y.A))=some sz) (l1:UR a4 (pc,v,0) sz FUEL [] [] 0=some (at_,ps)) (rw_:WD a4 2 a5.Kerf at_ ps=some (nd,0)):wW a1 [] a3 a4 a5 a6=some (nd,v,0):=by
 unfold wW;rw[el];simp only[kg,kA,kr,cb,hs,l1,rw_]
theorem eb50_0 :wW sl1 [] c25 ⟨⟨-30,30⟩,⟨-60,-10⟩⟩ w25 r25=some ([⟨0,0⟩],0,0):=TP (L:=LE) (sz:=([100],[0])) (at_:=[]) (ps:=[]) (by kernel_rfl) qFR (by kernel_rfl) (by kernel_rfl) (by kernel_rfl)
theorem eb50_1 :wW sl1 [] c25 ⟨⟨-30,30⟩,⟨-50,0⟩⟩ w25 r25=some ([⟨0,0⟩],0,0):=TP (L:=LE) (sz:=([100],[0])) (at_:=[]) (ps:=[]) (by kernel_rfl) qFR (by kernel_rfl) (by kernel_rfl) (by kernel_rfl)
theorem eb50_2 :wW sl1 [] c25 ⟨⟨-30,30⟩,⟨-40,10⟩⟩ w25 r25=some ([⟨0,0⟩],0,0):=TP (L:=LE) (sz:=([100],[0])) (at_:=[]) (ps:=[]) (by kernel_rfl) qFR (by kernel_rfl) (by kernel_rfl) (by kernel_rfl)
theorem eb50_3 :wW sl1 [] c25 ⟨⟨-30,30⟩,⟨-30,20⟩⟩ w25 r25=some ([⟨0,0⟩],0,0):=TP (L:=LE) (sz:=([100],[0])) (at_:=[]) (ps:=[]) (by kernel_rfl) qFR (by kernel_rfl) (by kernel_rfl) (by kernel_rfl)
theorem eb50_4 :wW sl1 [] c25 ⟨⟨-30,30⟩,⟨-20,30⟩⟩ w25 r25=some ([⟨0,0⟩],0,0):=TP (L:=LE) (sz:=([100],[0])) (at_:=[]) (ps:=[]) (by kernel_rfl) qFR (by kernel_rfl) (by kernel_rfl) (by kernel_rfl)
theorem eb50_5 :wW sl1 [] c25 ⟨⟨-30,30⟩,⟨-10,40⟩⟩ w25 r25=some ([⟨0,0⟩],0,0):=TP (L:=LE) (sz:=([100],[0])) (at_:=[]) (ps:=[]) (by kernel_rfl) qFR (by kernel_rfl) (by kernel_rfl) (by kernel_rfl)
theorem eb50_6 :wW sl1 [] c25 ⟨⟨-30,30⟩,⟨0,50⟩⟩ w25 r25=some ([⟨0,0⟩],0,0):=TP (L:=LE) (sz:=([100],[0])) (at_:=[]) (ps:=[]) (by kernel_rfl) qFR (by kernel_rfl) (by kernel_rfl) (by kernel_rfl)
theorem eb50_7 :wW sl1 [] c25 ⟨⟨-30,30⟩,⟨10,60⟩⟩ w25 r25=some ([⟨0,0⟩],0,0):=TP (L:=LE) (sz:=([100],[0])) (at_:=[]) (ps:=[]) (by kernel_rfl) qFR (by kernel_rfl) (by kernel_rfl) (by kernel_rfl)
theorem eb100_0 :wW sl1 [] c25 ⟨⟨-30,30⟩,⟨-60,40⟩⟩ w25 r25=some (nd1,80000000,0):=TP (L:=LF) (sz:=([50],[0])) (at_:=[⟨-30,20⟩]) (ps:=[[⟨1,0⟩]]) (by kernel_rfl) cut_F (by kernel_rfl) (by kernel_rfl) (by kernel_rfl)
theorem eb100_1 :wW sl1 [] c25 ⟨⟨-30,30⟩,⟨-50,50⟩⟩ w25 r25=some (nd1,80000000,0):=TP (L:=LF) (sz:=([50],[0])) (at_:=[⟨-30,20⟩]) (ps:=[[⟨1,0⟩]]) (by kernel_rfl) cut_F (by kernel_rfl) (by kernel_rfl) (by kernel_rfl)
theorem eb100_2 :wW sl1 [] c25 ⟨⟨-30,30⟩,⟨-40,60⟩⟩ w25 r25=some (nd1,80000000,0):=TP (L:=LF) (sz:=([50],[0])) (at_:=[⟨-30,20⟩]) (ps:=[[⟨1,0⟩]]) (by kernel_rfl) cut_F (by kernel_rfl) (by kernel_rfl) (by kernel_rfl)
end Saw
end Go.SL
