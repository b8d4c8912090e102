import Derived.Test.YtigmogcdifllhaaGreatDoorEMod
import Derived.Test.YtigmogcdifllhaaGreatDoorProg
set_option linter.unusedVariables false
set_option linter.unusedSimpArgs false
namespace Go.SL
namespace Saw
open Go.Proofs
theorem mixed :Tryz.prog.follows .mixedOrders=true:=by kernel_rfl
structure Env (n:Nat) where
 w:World
 A:Nat->Prop
 In:Nat->Option Nat
 hI:∀i b,In i=some b->i<n/\b<w.heap.size/\¬A b
 hg:PM globs w A
noncomputable def kx {n:Nat} (E:Env n) (nt m:Nat):Ctx:={P:=Tryz.prog,w0:=E.w,nt:=nt,A:=E.A,globs:=globs,mixed:=mixed,glob:=E.hg,n:=n,m:=m,In:=E.In,hIn:=E.hI}
theorem qBM {f:FuncId} {fn:Func} {c:Code} {n m nt:Nat} {xs:List V1} {oi:List (Nat×(Nat×O))} {x:V} {ob:List (Nat×(Nat×O))} (hf:Tryz.prog.funcs[f]? =some fn) (hb:fn.body=some c) (hn:Nat.ble xs.length nt=true) (hnt:fn.ntmps=nt)
  (h:∀E:Env n,H (kx E nt m) ⟨AV 0 xs,oi⟩ c (RetQ Tryz.prog fn x ob)):CtX Tryz.prog globs f n m xs oi x ob:=by
 subst hnt;exact qVr mixed hf hb hn λw A In hI hg=>h ⟨w,A,In,hI,hg⟩
theorem q_E {f:FuncId} (fn:Func) (nt:Nat) {n m:Nat} {xs:List V1} {oi:List (Nat×(Nat×O))} {x:V} {ob:List (Nat×(Nat×O))}
  (h:∀E:Env n,H (kx E nt m) ⟨AV 0 xs,oi⟩ (nd fn 1) (RetQ Tryz.prog fn x ob)) (hf:Tryz.prog.funcs[f]? =some fn:=by kernel_rfl) (hb:fn.body=some (nd fn 1):=by kernel_rfl) (hn:Nat.ble xs.length nt=true:=by kernel_rfl) (hnt:fn.ntmps=nt:=by kernel_rfl):CtX Tryz.prog globs f n m xs oi x ob:=qBM hf hb hn hnt h
noncomputable def kn {n:Nat} (E:Env n) (nt m:Nat):Ctx:={P:=Tryz.prog,w0:=E.w,nt:=nt,A:=E.A,globs:=markN::globs,mixed:=mixed,glob:=λg c h=>by unfold markN at h;rw[look_cons] at h;split at h;(·rename_i he;cases h;rw[<-he];exact .val _ rfl);exact E.hg g c h,n:=n,m:=m,In:=E.In,hIn:=E.hI}
noncomputable def kt {n:Nat} (E:Env n) (nt m:Nat):Ctx:={P:=Tryz.prog,w0:=E.w,nt:=nt,A:=E.A,globs:=markG::globs,mixed:=mixed,glob:=PM.mark E.hg,n:=n,m:=m,In:=E.In,hIn:=E.hI}
theorem qZT {f:FuncId} {fn:Func} {c:Code} {n m nt:Nat} {xs:List V1} {oi:List (Nat×(Nat×O))} {x:V} {ob:List (Nat×(Nat×O))} (hf:Tryz.prog.funcs[f]? =some fn) (hb:fn.body=some c) (hn:Nat.ble xs.length nt=true) (hnt:fn.ntmps=nt)
  (h:∀E:Env n,H (kt E nt m) ⟨AV 0 xs,oi⟩ c (RetQ Tryz.prog fn x ob)):CtX Tryz.prog (markG::globs) f n m xs oi x ob:=by
 subst hnt;exact qVr mixed hf hb hn λw A In hI hg=>h ⟨w,A,In,hI,λg c hl=>hg g c (by unfold markG;rw[look_cons];split;(·rename_i he;rw[<-he,show look 1000000 globs=none from rfl] at hl;cases hl);exact hl)⟩
theorem q_T {f:FuncId} (fn:Func) (nt:Nat) {n m:Nat} {xs:List V1} {oi:List (Nat×(Nat×O))} {x:V} {ob:List (Nat×(Nat×O))}
  (h:∀E:Env n,H (kt E nt m) ⟨AV 0 xs,oi⟩ (nd fn 1) (RetQ Tryz.prog fn x ob)) (hf:Tryz.prog.funcs[f]? =some fn:=by kernel_rfl) (hb:fn.body=some (nd fn 1):=by kernel_rfl) (hn:Nat.ble xs.length nt=true:=by kernel_rfl) (hnt:fn.ntmps=nt:=by kernel_rfl):CtX Tryz.prog (markG::globs) f n m xs oi x ob:=qZT hf hb hn hnt h
noncomputable def kr {n:Nat} (E:Env n) (nt m b:Nat):Ctx:={P:=Tryz.prog,w0:=E.w,nt:=nt,A:=E.A,globs:=globs,mixed:=mixed,glob:=E.hg,n:=n,m:=m,In:=E.In,hIn:=E.hI,rnd:=some b}
theorem q_R (fn:Func) (nn nt:Nat) {n m:Nat} {xs:List V1} {oi ob2:List (Nat×(Nat×O))} {ts:List Nat} {js:List Code} {c:Nat} (ri:RI nt)
  (h:∀E:Env n,H (kr E nt m ri.b) ⟨qKZ ((psOf (nd fn nn)).toList++ts) xs,oi⟩ (nd fn (2*nn)) (qEn (λ_ _=>False) (RdH (kr E nt m ri.b) (rc fn nn ri) ri.b js c ob2)))
  (hps:(qLe ((psOf (nd fn nn)).toList++ts)&&((psOf (nd fn nn)).toList.all (λt=>Nat.blt t nt)&&Nat.beq xs.length ((psOf (nd fn nn)).toList++ts).length))=true:=by kernel_rfl):
  CtR Tryz.prog globs (rc fn nn ri) ri.b ts n m xs oi (.v (.one (.val (.bool (Nat.beq c 0))))) ((0,(0,.lp (rc fn nn ri) ri.b (lpS c) (lpJ js c)))::ob2):=qZJ mixed ri.hT hps λw A In hI hg=>h ⟨w,A,In,hI,hg⟩
end Saw
end Go.SL
