import Derived.Test.YthbamnkheinbgaaGreatDoorSMod
set_option linter.unusedVariables false
set_option linter.unusedSimpArgs false
namespace Go.SL
namespace Saw
def awL :List qC:=[⟨⟨-50,-20⟩,true⟩,⟨⟨0,-20⟩,true⟩,⟨⟨50,-20⟩,true⟩,⟨⟨50,0⟩,true⟩,⟨⟨50,20⟩,true⟩,⟨⟨0,20⟩,true⟩,⟨⟨-50,20⟩,true⟩,⟨⟨-50,0⟩,true⟩]
def awG :List qC:=[⟨⟨-50,-20⟩,true⟩,⟨⟨0,0⟩,false⟩,⟨⟨50,-20⟩,true⟩,⟨⟨50,0⟩,true⟩,⟨⟨50,20⟩,true⟩,⟨⟨0,20⟩,true⟩,⟨⟨-50,20⟩,true⟩,⟨⟨-50,0⟩,true⟩]
def awS (l:List qC):Scan:=⟨[⟨0,l⟩,⟨1000,awL⟩],[]⟩
theorem aw1 :(JN (awS awL) (-1) 0).map (λr=>(r.2,r.1.map λs=>(s.Len,s.Sec.Low,s.Sec.Rows.length)))=some (0,[(1000,-2,4)]):=by kernel_rfl
theorem aw2 :(jH (awS awL)).map (·.2)=some 0:=by kernel_rfl
theorem aw2b :((jH (awS awL)).bind λr=>jG r.1)=some (awS awL,0):=by kernel_rfl
theorem aw3 :(jG ⟨#[]⟩).map (·.2)=some 5:=by kernel_rfl
theorem aw4 :JF (awS awL) (awS awL)=some true:=by kernel_rfl
theorem aw4b :JF (awS awL) (awS awG)=some false:=by kernel_rfl
theorem aw5 :(JN (awS awG) (-1) 0).map (·.2)=some 30:=by kernel_rfl
theorem aw6 :((JN (awS awG) (-1) 1).bind λr=>(UO r.1).map λv=>(r.2,v))=some (0,4000000):=by kernel_rfl
theorem aw7 :yJ ⟨[],[]⟩=some 3:=by kernel_rfl
end Saw
end Go.SL
