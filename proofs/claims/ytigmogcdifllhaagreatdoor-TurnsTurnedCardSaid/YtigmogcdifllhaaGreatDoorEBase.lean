import Derived.Test.YtigmogcdifllhaaGreatDoorEMod
import Derived.Test.YtigmogcdifllhaaGreatDoorProg
set_option linter.unusedVariables false
set_option linter.unusedSimpArgs false
namespace Go.SL
namespace Saw
open Go.Proofs
theorem mixed :Tryz.prog.follows .mixedOrders=true:=by kernel_rfl
structure Env (n:Nat) where
 w:World
 A:Nat->Prop
 In:Nat->Option Nat
 hI:∀i b,In i=some b->i<n/\b<w.heap.size/\¬A b
 hg:TX globs w A
noncomputable def kx {n:Nat} (E:Env n) (nt m:Nat):Ctx:={P:=Tryz.prog,w0:=E.w,nt:=nt,A:=E.A,globs:=globs,mixed:=mixed,glob:=E.hg,n:=n,m:=m,In:=E.In,hIn:=E.hI}
theorem qBC {f:FuncId} {fn:Func} {c:Code} {n m nt:Nat} {xs:List V1} {oi:List (Nat×(Nat×O))} {x:V} {ob:List (Nat×(Nat×O))} (hf:Tryz.prog.funcs[f]? =some fn) (hb:fn.body=some c) (hn:Nat.ble xs.length nt=true) (hnt:fn.ntmps=nt)
  (h:∀E:Env n,H (kx E nt m) ⟨AJ 0 xs,oi⟩ c (RetQ Tryz.prog fn x ob)):CtX Tryz.prog globs f n m xs oi x ob:=by
 subst hnt;exact qUW mixed hf hb hn λw A In hI hg=>h ⟨w,A,In,hI,hg⟩
theorem q_E {f:FuncId} (fn:Func) (nt:Nat) {n m:Nat} {xs:List V1} {oi:List (Nat×(Nat×O))} {x:V} {ob:List (Nat×(Nat×O))}
  (h:∀E:Env n,H (kx E nt m) ⟨AJ 0 xs,oi⟩ (nd fn 1) (RetQ Tryz.prog fn x ob)) (hf:Tryz.prog.funcs[f]? =some fn:=by kernel_rfl) (hb:fn.body=some (nd fn 1):=by kernel_rfl) (hn:Nat.ble xs.length nt=true:=by kernel_rfl) (hnt:fn.ntmps=nt:=by kernel_rfl):CtX Tryz.prog globs f n m xs oi x ob:=qBC hf hb hn hnt h
noncomputable def kn {n:Nat} (E:Env n) (nt m:Nat):Ctx:={P:=Tryz.prog,w0:=E.w,nt:=nt,A:=E.A,globs:=markN::globs,mixed:=mixed,glob:=λg c h=>by unfold markN at h;rw[look_cons] at h;split at h;(·rename_i he;cases h;rw[<-he];exact .val _ rfl);exact E.hg g c h,n:=n,m:=m,In:=E.In,hIn:=E.hI}
noncomputable def kt {n:Nat} (E:Env n) (nt m:Nat):Ctx:={P:=Tryz.prog,w0:=E.w,nt:=nt,A:=E.A,globs:=markG::globs,mixed:=mixed,glob:=TX.mark E.hg,n:=n,m:=m,In:=E.In,hIn:=E.hI}
theorem qZn {f:FuncId} {fn:Func} {c:Code} {n m nt:Nat} {xs:List V1} {oi:List (Nat×(Nat×O))} {x:V} {ob:List (Nat×(Nat×O))} (hf:Tryz.prog.funcs[f]? =some fn) (hb:fn.body=some c) (hn:Nat.ble xs.length nt=true) (hnt:fn.ntmps=nt)
  (h:∀E:Env n,H (kt E nt m) ⟨AJ 0 xs,oi⟩ c (RetQ Tryz.prog fn x ob)):CtX Tryz.prog (markG::globs) f n m xs oi x ob:=by
 subst hnt;exact qUW mixed hf hb hn λw A In hI hg=>h ⟨w,A,In,hI,λg c hl=>hg g c (by unfold markG;rw[look_cons];split;(·rename_i he;rw[<-he,show look 1000000 globs=none from rfl] at hl;cases hl);exact hl)⟩
theorem q_T {f:FuncId} (fn:Func) (nt:Nat) {n m:Nat} {xs:List V1} {oi:List (Nat×(Nat×O))} {x:V} {ob:List (Nat×(Nat×O))}
  (h:∀E:Env n,H (kt E nt m) ⟨AJ 0 xs,oi⟩ (nd fn 1) (RetQ Tryz.prog fn x ob)) (hf:Tryz.prog.funcs[f]? =some fn:=by kernel_rfl) (hb:fn.body=some (nd fn 1):=by kernel_rfl) (hn:Nat.ble xs.length nt=true:=by kernel_rfl) (hnt:fn.ntmps=nt:=by kernel_rfl):CtX Tryz.prog (markG::globs) f n m xs oi x ob:=qZn hf hb hn hnt h
end Saw
end Go.SL
