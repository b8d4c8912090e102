import Derived.Test.YthbamnkheinbgaaGreatDoorSMod
set_option linter.unusedVariables false
set_option linter.unusedSimpArgs false
namespace Go.SL
namespace Saw
def awL :List qD:=[⟨⟨-50,-20⟩,true⟩,⟨⟨0,-20⟩,true⟩,⟨⟨50,-20⟩,true⟩,⟨⟨50,0⟩,true⟩,⟨⟨50,20⟩,true⟩,⟨⟨0,20⟩,true⟩,⟨⟨-50,20⟩,true⟩,⟨⟨-50,0⟩,true⟩]
def awG :List qD:=[⟨⟨-50,-20⟩,true⟩,⟨⟨0,0⟩,false⟩,⟨⟨50,-20⟩,true⟩,⟨⟨50,0⟩,true⟩,⟨⟨50,20⟩,true⟩,⟨⟨0,20⟩,true⟩,⟨⟨-50,20⟩,true⟩,⟨⟨-50,0⟩,true⟩]
def awS (l:List qD):Scan:=⟨[⟨0,l⟩,⟨1000,awL⟩],[]⟩
theorem aw1 :(yW (awS awL) (-1) 0).map (λr=>(r.2,r.1.map λs=>(s.Len,s.Sec.Low,s.Sec.Rows.length)))=some (0,[(1000,-2,4)]):=by kernel_rfl
theorem aw2 :(RW (awS awL)).map (·.2)=some 0:=by kernel_rfl
theorem aw2b :((RW (awS awL)).bind λr=>TB r.1)=some (awS awL,0):=by kernel_rfl
theorem aw3 :(TB ⟨#[]⟩).map (·.2)=some 5:=by kernel_rfl
theorem aw4 :PC (awS awL) (awS awL)=some true:=by kernel_rfl
theorem aw4b :PC (awS awL) (awS awG)=some false:=by kernel_rfl
theorem aw5 :(yW (awS awG) (-1) 0).map (·.2)=some 30:=by kernel_rfl
theorem aw6 :((yW (awS awG) (-1) 1).bind λr=>(LE r.1).map λv=>(r.2,v))=some (0,4000000):=by kernel_rfl
theorem aw7 :jU ⟨[],[]⟩=some 3:=by kernel_rfl
end Saw
end Go.SL
