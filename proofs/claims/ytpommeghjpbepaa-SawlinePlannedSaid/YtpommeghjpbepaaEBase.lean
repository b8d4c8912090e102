import Derived.Test.YtpommeghjpbepaaEMod
import Derived.Test.YtpommeghjpbepaaProg
set_option linter.unusedVariables false
set_option linter.unusedSimpArgs false
namespace Go.SL
namespace Saw
open Go.Proofs
theorem mixed :Try.prog.follows .mixedOrders=true:=by kernel_rfl
structure Env (n:Nat) where
 w:World
 A:Nat->Prop
 In:Nat->Option Nat
 hI:∀i b,In i=some b->i<n/\b<w.heap.size/\¬A b
 hg:NF globs w A
noncomputable def kx {n:Nat} (E:Env n) (nt m:Nat):Ctx:={P:=Try.prog,w0:=E.w,nt:=nt,A:=E.A,globs:=globs,mixed:=mixed,glob:=E.hg,n:=n,m:=m,In:=E.In,hIn:=E.hI}
theorem SO {f:FuncId} {fn:Func} {c:Code} {n m nt:Nat} {xs:List V1} {oi:List (Nat×(Nat×O))} {x:V} {ob:List (Nat×(Nat×O))} (hf:Try.prog.funcs[f]? =some fn) (hb:fn.body=some c) (hn:Nat.ble xs.length nt=true) (hnt:fn.ntmps=nt)
  (h:∀E:Env n,H (kx E nt m) ⟨qBK 0 xs,oi⟩ c (RetQ Try.prog fn x ob)):CtX Try.prog globs f n m xs oi x ob:=by
 subst hnt;exact qOn mixed hf hb hn λw A In hI hg=>h ⟨w,A,In,hI,hg⟩
theorem q_E {f:FuncId} (fn:Func) (nt:Nat) {n m:Nat} {xs:List V1} {oi:List (Nat×(Nat×O))} {x:V} {ob:List (Nat×(Nat×O))}
  (h:∀E:Env n,H (kx E nt m) ⟨qBK 0 xs,oi⟩ (nd fn 1) (RetQ Try.prog fn x ob)) (hf:Try.prog.funcs[f]? =some fn:=by kernel_rfl) (hb:fn.body=some (nd fn 1):=by kernel_rfl) (hn:Nat.ble xs.length nt=true:=by kernel_rfl) (hnt:fn.ntmps=nt:=by kernel_rfl):CtX Try.prog globs f n m xs oi x ob:=SO hf hb hn hnt h
noncomputable def kt {n:Nat} (E:Env n) (nt m:Nat):Ctx:={P:=Try.prog,w0:=E.w,nt:=nt,A:=E.A,globs:=markG::globs,mixed:=mixed,glob:=NF.mark E.hg,n:=n,m:=m,In:=E.In,hIn:=E.hI}
noncomputable def kr {n:Nat} (E:Env n) (nt m b:Nat):Ctx:={P:=Try.prog,w0:=E.w,nt:=nt,A:=E.A,globs:=globs,mixed:=mixed,glob:=E.hg,n:=n,m:=m,In:=E.In,hIn:=E.hI,rnd:=some b}
theorem q_R (fn:Func) (nn nt:Nat) {n m:Nat} {xs:List V1} {oi ob2:List (Nat×(Nat×O))} {ts:List Nat} {js:List Code} {c:Nat} (ri:RI nt)
  (h:∀E:Env n,H (kr E nt m ri.b) ⟨qC2 ((psOf (nd fn nn)).toList++ts) xs,oi⟩ (nd fn (2*nn)) (IH (λ_ _=>False) (RdH (kr E nt m ri.b) (rc fn nn ri) ri.b js c ob2)))
  (hps:(qDk ((psOf (nd fn nn)).toList++ts)&&((psOf (nd fn nn)).toList.all (λt=>Nat.blt t nt)&&Nat.beq xs.length ((psOf (nd fn nn)).toList++ts).length))=true:=by kernel_rfl):
  CtR Try.prog globs (rc fn nn ri) ri.b ts n m xs oi (.v (.one (.val (.bool (Nat.beq c 0))))) ((0,(0,.lp (rc fn nn ri) ri.b (lpS c) (lpJ js c)))::ob2):=qNR mixed ri.hT hps λw A In hI hg=>h ⟨w,A,In,hI,hg⟩
end Saw
end Go.SL
