/- Rules with the code's nodes named; typed rows. -/
import Derived.Test.YtfpgdgmcmkileaaDoorSl10
set_option linter.unusedVariables false
set_option linter.unusedSimpArgs false
namespace Go.SL
open Go.RowKit

def sub (c : Code) (i : Nat) : Code :=
  match c with
  | .seq a b => bif Nat.beq i 0 then a else b
  | .cond _ a b => bif Nat.beq i 0 then a else b
  | .block _ b => b
  | .loop b => b
  | .scope b => b
  | _ => .skip
def opsOf : Code → Array Oper
  | .region _ ops _ => ops
  | _ => #[]
def bodyOf (fn : Func) : Code := match fn.body with | some c => c | none => .skip
/-- The node of a function's code at a path. -/
def nd (fn : Func) (p : List Nat) : Code := p.foldl sub (bodyOf fn)
def rg (fn : Func) (p : List Nat) : Array Oper := opsOf (nd fn p)

section
variable {K : Ctx} {st : St} {Q : Exit → St → Prop}

theorem R_seq {c : Code} (x y : Code) (hc : c = .seq x y) (h : H K st x (thenQ Q fun st' => H K st' y Q)) : H K st c Q := hc ▸ H_seq h
theorem R_cond {c : Code} (o : Operand) (x y : Code) (hc : c = .cond o x y) (b : Bool) (ho : opB st o = some b) (ht : b = true → H K st x Q) (hf : b = false → H K st y Q) : H K st c Q := hc ▸ H_cond b ho ht hf
theorem R_condT {c : Code} (o : Operand) (x y : Code) (hc : c = .cond o x y) (ho : opB st o = some true) (ht : H K st x Q) : H K st c Q := hc ▸ H_cond true ho (fun _ => ht) (fun h => by cases h)
theorem R_condF {c : Code} (o : Operand) (x y : Code) (hc : c = .cond o x y) (ho : opB st o = some false) (hf : H K st y Q) : H K st c Q := hc ▸ H_cond false ho (fun h => by cases h) (fun _ => hf)
theorem R_block {c : Code} (id : Nat) (x : Code) (hc : c = .block id x) (h : H K st x (blockQ id Q)) : H K st c Q := hc ▸ H_block h
theorem R_loop {c : Code} (x : Code) (hc : c = .loop x) (n : Nat) (h : HL K x Q n st) : H K st c Q := hc ▸ H_loop n h
theorem R_skip {c : Code} (hc : c = .skip) (h : Q .normal st) : H K st c Q := hc ▸ H_skip h
theorem R_ret {c : Code} (hc : c = .ret) (h : Q .ret st) : H K st c Q := hc ▸ H_ret h
theorem R_exit {c : Code} (id : Nat) (hc : c = .exit id) (h : Q (.exit id) st) : H K st c Q := hc ▸ H_exit h
theorem R_region {c : Code} (id : Nat) (ops : Array Oper) (hc : c = .region id ops false) (h : HOps K ops 0 st Q) : H K st c Q := hc ▸ H_region h
theorem R_draw {c : Code} (id : Nat) (ops : Array Oper) (hc : c = .region id ops true) (es : List Ent) (bm : List Nat) (hok : opsOk K.nt ops = true) (hlen : Nat.beq es.length ops.size = true) (hm : maskOk ops bm = true)
    (hp : pairsOk ops bm 0 es = true) (hnv : es.all (fun e => nvOk e.nv e.ob) = true) (hfree : es.all (fun e => st.freeB e.nv) = true) (hs : AllSteps K ops 0 st es) (hq : Q .normal (seqAll ops 0 st es)) : H K st c Q := hc ▸ H_draw es bm hok hlen hm hp hnv hfree hs hq

/-- One operation that only computes. -/
theorem P_op {ops : Array Oper} {i : Nat} (hok : opsOk K.nt ops = true) (y : V) (hg : (gd ops st (opAt ops i), Nat.blt i ops.size, pev K.P K.globs st (opAt ops i).op) = (some true, true, some (y, True)))
    (h : HOps K ops (i + 1) (st.app (opAt ops i).dst y []) Q) : HOps K ops i st Q := by
  simp only [Prod.mk.injEq] at hg
  exact HOps_step hok hg.2.1 hg.1 (Step_pure hg.2.2 trivial) rfl (freeNil st) h
theorem P_opc {ops : Array Oper} {i : Nat} (hok : opsOk K.nt ops = true) (y : V) (ob : Prop) (hg : (gd ops st (opAt ops i), Nat.blt i ops.size, pev K.P K.globs st (opAt ops i).op) = (some true, true, some (y, ob))) (hob : ob)
    (h : HOps K ops (i + 1) (st.app (opAt ops i).dst y []) Q) : HOps K ops i st Q := by
  simp only [Prod.mk.injEq] at hg
  exact HOps_step hok hg.2.1 hg.1 (Step_pure hg.2.2 hob) rfl (freeNil st) h
theorem P_skip {ops : Array Oper} {i : Nat} (hok : opsOk K.nt ops = true) (hg : (gd ops st (opAt ops i), Nat.blt i ops.size) = (some false, true))
    (h : HOps K ops (i + 1) (st.app (opAt ops i).dst .undef []) Q) : HOps K ops i st Q := by
  simp only [Prod.mk.injEq] at hg
  exact HOps_skip hok hg.2 hg.1 h
/-- Any other operation, by its step. -/
theorem P_step {ops : Array Oper} {i : Nat} (hok : opsOk K.nt ops = true) (nv : List (Nat × Nat)) (ob : List (Nat × (Nat × O))) (x : V) (hg : (gd ops st (opAt ops i), Nat.blt i ops.size, nvOk nv ob, st.freeB nv) = (some true, true, true, true)) (hs : Step K st (opAt ops i) nv ob x)
    (h : HOps K ops (i + 1) (st.app (opAt ops i).dst x ob) Q) : HOps K ops i st Q := by
  simp only [Prod.mk.injEq] at hg
  exact HOps_step hok hg.2.1 hg.1 hs hg.2.2.1 (St.free_of hg.2.2.2) h
theorem P_write {ops : Array Oper} {i : Nat} (hok : opsOk K.nt ops = true) (ob : List (Nat × (Nat × O))) (x : V) (hg : (gd ops st (opAt ops i), Nat.blt i ops.size) = (some true, true)) (hs : Step K st (opAt ops i) [] ob x)
    (h : HOps K ops (i + 1) (st.app (opAt ops i).dst x ob) Q) : HOps K ops i st Q := by
  simp only [Prod.mk.injEq] at hg
  exact HOps_step hok hg.2 hg.1 hs rfl (freeNil st) h
end

section
variable {K : Ctx} {ops : Array Oper} {k : Nat} {st : St} {r : List Ent}

/-- The operations of a region that draws, one by one. -/
theorem A_end : AllSteps K ops k st [] := trivial
theorem A_run (e : Ent) (hg : (e.run, gd ops (st.only e.rs e.ro) (opAt ops k), nvRo st e) = (true, some true, true)) (hs : Step K (st.only e.rs e.ro) (opAt ops k) e.nv e.ob e.x) (h : AllSteps K ops (k + 1) (appE ops k e st) r) : AllSteps K ops k st (e :: r) := by
  simp only [Prod.mk.injEq] at hg
  refine ⟨?_, h⟩
  unfold StepE
  rw [hg.1]
  exact ⟨hg.2.1, hg.2.2, hs⟩
theorem A_pure (x : V) (rs ro : List Nat) (ob : Prop) (hg : (gd ops (st.only rs ro) (opAt ops k), pev K.P K.globs (st.only rs ro) (opAt ops k).op) = (some true, some (x, ob))) (hob : ob) (h : AllSteps K ops (k + 1) (appE ops k ⟨true, x, [], [], rs, ro⟩ st) r) : AllSteps K ops k st (⟨true, x, [], [], rs, ro⟩ :: r) := by
  simp only [Prod.mk.injEq] at hg
  exact ⟨⟨hg.1, rfl, Step_pure hg.2 hob⟩, h⟩
theorem A_pureE (x x' : V) (hx : x' = x) (rs ro : List Nat) (ob : Prop) (hg : (gd ops (st.only rs ro) (opAt ops k), pev K.P K.globs (st.only rs ro) (opAt ops k).op) = (some true, some (x', ob))) (hob : ob) (h : AllSteps K ops (k + 1) (appE ops k ⟨true, x, [], [], rs, ro⟩ st) r) : AllSteps K ops k st (⟨true, x, [], [], rs, ro⟩ :: r) := by
  subst hx; exact A_pure x' rs ro ob hg hob h
theorem A_skip (rs : List Nat) (hg : gd ops (st.only rs []) (opAt ops k) = some false) (h : AllSteps K ops (k + 1) (appE ops k ⟨false, .undef, [], [], rs, []⟩ st) r) : AllSteps K ops k st (⟨false, .undef, [], [], rs, []⟩ :: r) := ⟨⟨hg, rfl, rfl, rfl⟩, h⟩
end

theorem bif_t {α : Type} {c : Bool} {A B : Option α} {r : α} (hc : c = true) (h : (bif c then A else B) = some r) : A = some r := by rw [hc] at h; exact h
theorem bif_f {α : Type} {c : Bool} {A B : Option α} {r : α} (hc : c = false) (h : (bif c then A else B) = some r) : B = some r := by rw [hc] at h; exact h

/-- Rows of typed elements. -/
def rowf {α : Type} (enc : α → List C) (d : α) (l : List α) (i : Nat) : List C := enc (l.getD i d)

end Go.SL
