/- The example of the chapter: the best pieces of the strips of the second line. -/
import Derived.Test.YtigmogcdifllhaaGreatDoorEMa15
set_option linter.unusedVariables false
set_option linter.unusedSimpArgs false
namespace Go.SL.Saw
def LE :Line:=⟨60,4,1,[100],[[]],z60,z60⟩
def LF :Line:=⟨60,4,1,[50],[g0r],z60,z60⟩
theorem qGF :jV LE=some ([],0,0):=by kernel_rfl
theorem cut_F :jV LF=some ([⟨0,0⟩],80000000,0):=by kernel_rfl
end Go.SL.Saw

namespace Go.SL.Saw
theorem PT {a1:List qN} {a3:List qE} {a4:Rect} {a5:Saw} {a6:Rates} {L:Line} {pc:List zR} {v:Int} {sz:List Int×List Int} {at_:List Span} {ps:List (List Node)} {nd:List Node} (el:CN a1 [] a3 a4 a5 a6=some (L,0)) (cb:jV L=some (pc,v,0)) (hs:VA a3 (w64 (a4.Y.B-a4.Y.A))=some sz) (l1:RC a4 (pc,v,0) sz FUEL [] [] 0=some (at_,ps)) (rw_:WL a4 2 a5.Kerf at_ ps=some (nd,0)):wZ a1 [] a3 a4 a5 a6=some (nd,v,0):=by
 unfold wZ;rw[el];simp only[kd,kQ,ku,cb,hs,l1,rw_]
theorem eb50_0 :wZ sl1 [] c25 ⟨⟨-30,30⟩,⟨-60,-10⟩⟩ w25 r25=some ([⟨0,0⟩],0,0):=PT (L:=LE) (sz:=([100],[0])) (at_:=[]) (ps:=[]) (by kernel_rfl) qGF (by kernel_rfl) (by kernel_rfl) (by kernel_rfl)
theorem eb50_1 :wZ sl1 [] c25 ⟨⟨-30,30⟩,⟨-50,0⟩⟩ w25 r25=some ([⟨0,0⟩],0,0):=PT (L:=LE) (sz:=([100],[0])) (at_:=[]) (ps:=[]) (by kernel_rfl) qGF (by kernel_rfl) (by kernel_rfl) (by kernel_rfl)
theorem eb50_2 :wZ sl1 [] c25 ⟨⟨-30,30⟩,⟨-40,10⟩⟩ w25 r25=some ([⟨0,0⟩],0,0):=PT (L:=LE) (sz:=([100],[0])) (at_:=[]) (ps:=[]) (by kernel_rfl) qGF (by kernel_rfl) (by kernel_rfl) (by kernel_rfl)
theorem eb50_3 :wZ sl1 [] c25 ⟨⟨-30,30⟩,⟨-30,20⟩⟩ w25 r25=some ([⟨0,0⟩],0,0):=PT (L:=LE) (sz:=([100],[0])) (at_:=[]) (ps:=[]) (by kernel_rfl) qGF (by kernel_rfl) (by kernel_rfl) (by kernel_rfl)
theorem eb50_4 :wZ sl1 [] c25 ⟨⟨-30,30⟩,⟨-20,30⟩⟩ w25 r25=some ([⟨0,0⟩],0,0):=PT (L:=LE) (sz:=([100],[0])) (at_:=[]) (ps:=[]) (by kernel_rfl) qGF (by kernel_rfl) (by kernel_rfl) (by kernel_rfl)
theorem eb50_5 :wZ sl1 [] c25 ⟨⟨-30,30⟩,⟨-10,40⟩⟩ w25 r25=some ([⟨0,0⟩],0,0):=PT (L:=LE) (sz:=([100],[0])) (at_:=[]) (ps:=[]) (by kernel_rfl) qGF (by kernel_rfl) (by kernel_rfl) (by kernel_rfl)
theorem eb50_6 :wZ sl1 [] c25 ⟨⟨-30,30⟩,⟨0,50⟩⟩ w25 r25=some ([⟨0,0⟩],0,0):=PT (L:=LE) (sz:=([100],[0])) (at_:=[]) (ps:=[]) (by kernel_rfl) qGF (by kernel_rfl) (by kernel_rfl) (by kernel_rfl)
theorem eb50_7 :wZ sl1 [] c25 ⟨⟨-30,30⟩,⟨10,60⟩⟩ w25 r25=some ([⟨0,0⟩],0,0):=PT (L:=LE) (sz:=([100],[0])) (at_:=[]) (ps:=[]) (by kernel_rfl) qGF (by kernel_rfl) (by kernel_rfl) (by kernel_rfl)
theorem eb100_0 :wZ sl1 [] c25 ⟨⟨-30,30⟩,⟨-60,40⟩⟩ w25 r25=some (nd1,80000000,0):=PT (L:=LF) (sz:=([50],[0])) (at_:=[⟨-30,20⟩]) (ps:=[[⟨1,0⟩]]) (by kernel_rfl) cut_F (by kernel_rfl) (by kernel_rfl) (by kernel_rfl)
theorem eb100_1 :wZ sl1 [] c25 ⟨⟨-30,30⟩,⟨-50,50⟩⟩ w25 r25=some (nd1,80000000,0):=PT (L:=LF) (sz:=([50],[0])) (at_:=[⟨-30,20⟩]) (ps:=[[⟨1,0⟩]]) (by kernel_rfl) cut_F (by kernel_rfl) (by kernel_rfl) (by kernel_rfl)
theorem eb100_2 :wZ sl1 [] c25 ⟨⟨-30,30⟩,⟨-40,60⟩⟩ w25 r25=some (nd1,80000000,0):=PT (L:=LF) (sz:=([50],[0])) (at_:=[⟨-30,20⟩]) (ps:=[[⟨1,0⟩]]) (by kernel_rfl) cut_F (by kernel_rfl) (by kernel_rfl) (by kernel_rfl)
end Go.SL.Saw
