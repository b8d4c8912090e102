import Derived.Test.YtigmogcdifllhaaGreatDoorEBase
import Derived.WalkKit
import Derived.Defers
set_option linter.unusedVariables false
set_option linter.unusedSimpArgs false
namespace Go.SL
namespace Saw
open Go.Proofs Go.RowKit
theorem qYn (b12 b10 b8 b9:Nat) (e x10:Int) (x8 x9:Value) (u:FrameMode) (w:World) (h12:w.cell? ⟨b12,0,none⟩=some (.int .i64 e)) (h10:w.cell? ⟨b10,0,none⟩=some (.int .i64 x10)) (h8:w.cell? ⟨b8,0,none⟩=some x8) (h9:w.cell? ⟨b9,0,none⟩=some x9)
  (f10:w.frozen? ⟨b10,0,none⟩=false) (f8:w.frozen? ⟨b8,0,none⟩=false) (f9:w.frozen? ⟨b9,0,none⟩=false) (n1:b12≠b10) (n2:b12≠b8) (n3:b12≠b9) (n4:b10≠b8) (n5:b10≠b9) (n6:b8≠b9) (he:e≠0):
  CallsD Tryz.prog 24 #[.pointer (some ⟨b12,0,none⟩),.pointer (some ⟨b10,0,none⟩),.pointer (some ⟨b8,0,none⟩),.pointer (some ⟨b9,0,none⟩)] u w λen u' w'=>u'=u/\(en= .returned (.tuple #[])/\w'=((w.setCell ⟨b10,0,none⟩ (.int .i64 e)).setCell ⟨b8,0,none⟩ (.slice none 0 0)).setCell ⟨b9,0,none⟩ (.slice none 0 0)):=by
 go_enter_d Tryz.func24,Tryz.ntmps24
 go_wp2
 go_end0
 exact⟨rfl,rfl⟩
theorem qWO (b12 b10 b8 b9:Nat) (e x10:Int) (u:FrameMode) (w:World) (h12:w.cell? ⟨b12,0,none⟩=some (.int .i64 e)) (h10:w.cell? ⟨b10,0,none⟩=some (.int .i64 x10))
  (f10:w.frozen? ⟨b10,0,none⟩=false) (n1:b12≠b10) (he:e=0):
  CallsD Tryz.prog 24 #[.pointer (some ⟨b12,0,none⟩),.pointer (some ⟨b10,0,none⟩),.pointer (some ⟨b8,0,none⟩),.pointer (some ⟨b9,0,none⟩)] u w λen u' w'=>u'=u/\(en= .returned (.tuple #[])/\w'=w.setCell ⟨b10,0,none⟩ (.int .i64 0)):=by
 subst he
 go_enter_d Tryz.func24,Tryz.ntmps24
 go_wp2
 go_end0
 exact⟨rfl,rfl⟩
end Saw
end Go.SL
