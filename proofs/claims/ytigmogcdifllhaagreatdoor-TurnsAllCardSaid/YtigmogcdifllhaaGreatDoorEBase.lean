import Derived.Test.YtigmogcdifllhaaGreatDoorEMod
import Derived.Test.YtigmogcdifllhaaGreatDoorProg
set_option linter.unusedVariables false
set_option linter.unusedSimpArgs false
namespace Go.SL
namespace Saw
open Go.Proofs
theorem mixed :Tryz.prog.follows .mixedOrders=true:=by kernel_rfl
structure Env (n:Nat) where
 w:World
 A:Nat->Prop
 In:Nat->Option Nat
 hI:∀i b,In i=some b->i<n/\b<w.heap.size/\¬A b
 hg:GR globs w A
noncomputable def kx {n:Nat} (E:Env n) (nt m:Nat):Ctx:={P:=Tryz.prog,w0:=E.w,nt:=nt,A:=E.A,globs:=globs,mixed:=mixed,glob:=E.hg,n:=n,m:=m,In:=E.In,hIn:=E.hI}
theorem qCx {f:FuncId} {fn:Func} {c:Code} {n m nt:Nat} {xs:List V1} {oi:List (Nat×(Nat×O))} {x:V} {ob:List (Nat×(Nat×O))} (hf:Tryz.prog.funcs[f]? =some fn) (hb:fn.body=some c) (hn:Nat.ble xs.length nt=true) (hnt:fn.ntmps=nt)
  (h:∀E:Env n,H (kx E nt m) ⟨OY 0 xs,oi⟩ c (RetQ Tryz.prog fn x ob)):CtX Tryz.prog globs f n m xs oi x ob:=by
 subst hnt;exact qRE mixed hf hb hn λw A In hI hg=>h ⟨w,A,In,hI,hg⟩
noncomputable def kn {n:Nat} (E:Env n) (nt m:Nat):Ctx:={P:=Tryz.prog,w0:=E.w,nt:=nt,A:=E.A,globs:=markN::globs,mixed:=mixed,glob:=λg c h=>by unfold markN at h;rw[look_cons] at h;split at h;(·rename_i he;cases h;rw[<-he];exact .val _ rfl);exact E.hg g c h,n:=n,m:=m,In:=E.In,hIn:=E.hI}
noncomputable def kt {n:Nat} (E:Env n) (nt m:Nat):Ctx:={P:=Tryz.prog,w0:=E.w,nt:=nt,A:=E.A,globs:=markG::globs,mixed:=mixed,glob:=GR.mark E.hg,n:=n,m:=m,In:=E.In,hIn:=E.hI}
theorem qYf {f:FuncId} {fn:Func} {c:Code} {n m nt:Nat} {xs:List V1} {oi:List (Nat×(Nat×O))} {x:V} {ob:List (Nat×(Nat×O))} (hf:Tryz.prog.funcs[f]? =some fn) (hb:fn.body=some c) (hn:Nat.ble xs.length nt=true) (hnt:fn.ntmps=nt)
  (h:∀E:Env n,H (kt E nt m) ⟨OY 0 xs,oi⟩ c (RetQ Tryz.prog fn x ob)):CtX Tryz.prog (markG::globs) f n m xs oi x ob:=by
 subst hnt;exact qRE mixed hf hb hn λw A In hI hg=>h ⟨w,A,In,hI,λg c hl=>hg g c (by unfold markG;rw[look_cons];split;(·rename_i he;rw[<-he,show look 1000000 globs=none from rfl] at hl;cases hl);exact hl)⟩
abbrev Cz {σ:Type} (y:Option σ) (f:Nat) (xs:List V1) (X:σ->V) (O:σ->List (Nat×(Nat×O))):Prop:=Ctr Tryz.prog globs y f 0 0 xs [] X O
abbrev Cx {σ:Type} (y:Option σ) (f n m:Nat) (xs:List V1) (oi:List (Nat×(Nat×O))) (X:σ->V) (O:σ->List (Nat×(Nat×O))):Prop:=Ctr Tryz.prog globs y f n m xs oi X O
abbrev C0 {σ:Type} (y:Option σ) (f:Nat) (xs:List V1) (X:σ->V):Prop:=Ctr Tryz.prog globs y f 0 0 xs [] X (λ_=>[])
abbrev C0T {σ:Type} (y:Option σ) (f:Nat) (xs:List V1) (X:σ->V):Prop:=Ctr Tryz.prog (markG::globs) y f 0 0 xs [] X (λ_=>[])
abbrev CzT {σ:Type} (y:Option σ) (f:Nat) (xs:List V1) (X:σ->V) (O:σ->List (Nat×(Nat×O))):Prop:=Ctr Tryz.prog (markG::globs) y f 0 0 xs [] X O
theorem zE (fn:Func) {f n m:Nat} {ρ:Type} {y:Option ρ} {xs:List V1} {oi:List (Nat×(Nat×O))} {X:ρ->V} {O:ρ->List (Nat×(Nat×O))}
  (h:∀E:Env n,W (kx E fn.ntmps m) (RQ Tryz.prog fn X O) [] [] ⟨qHf fn,[],⟨OY 0 xs,oi⟩,n⟩ y) (hf:Tryz.prog.funcs[f]? =some fn:=by kernel_rfl) (hb:fn.body=some (qHf fn):=by kernel_rfl) (hn:Nat.ble xs.length fn.ntmps=true:=by kernel_rfl):Ctr Tryz.prog globs y f n m xs oi X O:=ctr λv hv=>qCx hf hb hn rfl λE=>G_H (W_G (h E) hv)
theorem zT (fn:Func) {f n m:Nat} {ρ:Type} {y:Option ρ} {xs:List V1} {oi:List (Nat×(Nat×O))} {X:ρ->V} {O:ρ->List (Nat×(Nat×O))}
  (h:∀E:Env n,W (kt E fn.ntmps m) (RQ Tryz.prog fn X O) [] [] ⟨qHf fn,[],⟨OY 0 xs,oi⟩,n⟩ y) (hf:Tryz.prog.funcs[f]? =some fn:=by kernel_rfl) (hb:fn.body=some (qHf fn):=by kernel_rfl) (hn:Nat.ble xs.length fn.ntmps=true:=by kernel_rfl):Ctr Tryz.prog (markG::globs) y f n m xs oi X O:=ctr λv hv=>qYf hf hb hn rfl λE=>G_H (W_G (h E) hv)
end Saw
end Go.SL
