/- Operations that leave memory as it is, all in one function; its law. -/
import Derived.Test.YtfpgdgmcmkileaaDoorSl5
set_option linter.unusedVariables false
set_option linter.unusedSimpArgs false
namespace Go.SL
open Go.RowKit

def optOp (gl : List (Nat × C)) (st : St) : Option Operand → Option (Option V1)
  | none => some none
  | some o => match op1 gl st o with | some x => some (some x) | none => none

def opsV (gl : List (Nat × C)) (st : St) : List Operand → Option (List V1)
  | [] => some []
  | o :: r => match op1 gl st o, opsV gl st r with | some x, some xs => some (x :: xs) | _, _ => none

def partsV (gl : List (Nat × C)) (st : St) : List (Nat × Operand) → Option (List (Nat × V1))
  | [] => some []
  | (i, o) :: r => match op1 gl st o, partsV gl st r with | some x, some xs => some ((i, x) :: xs) | _, _ => none

/-- The integers of an array's value. -/
def intsOf : List C → Option (IntKind × List Int)
  | [.val (.int k a)] => some (k, [a])
  | .val (.int k a) :: r => match intsOf r with | some (k', l) => if k = k' then some (k, a :: l) else none | none => none
  | _ => none

theorem intsOf_rep {w : World} {M : Mem} : ∀ {cs : List C} {k : IntKind} {l : List Int}, intsOf cs = some (k, l) → l.length = cs.length ∧ ∀ j v, j < cs.length → CRep w M (cs.getD j .unk) v → v = .int k (l.getD j 0)
  | [], _, _, h => by cases h
  | c :: [], k, l, h => by
    unfold intsOf at h
    split at h
    · rename_i k' a heq
      cases h
      cases heq
      refine ⟨rfl, fun j v hj hr => ?_⟩
      have hj0 : j = 0 := by simp at hj; omega
      subst hj0
      exact IRep.val_eq hr
    · rename_i k' a r hne heq
      cases heq
      exact absurd rfl hne
    · cases h
  | c :: d :: r, k, l, h => by
    unfold intsOf at h
    split at h
    · rename_i heq; cases heq
    · rename_i k' a r' hne heq
      cases heq
      split at h
      · rename_i k'' l'' h2
        split at h
        · rename_i hk
          subst hk
          cases h
          obtain ⟨i1, i2⟩ := intsOf_rep (w := w) (M := M) h2
          refine ⟨by simpa using i1, fun j v hj hr => ?_⟩
          cases j with
          | zero => exact IRep.val_eq hr
          | succ j => simpa using i2 j v (by simpa using hj) (by simpa using hr)
        · cases h
      · cases h
    · cases h

def pev (P : Program) (gl : List (Nat × C)) (st : St) : Op → Option (V × Prop)
  | .move x | .assign x => match opV gl st x with | some y => some (y, True) | none => none
  | .pick c a b => match opB st c with | some t => (match opV gl st (bif t then a else b) with | some y => some (y, True) | none => none) | none => none
  | .binOp op t x y _ => match op1 gl st x, op1 gl st y with | some a, some b => (match binV P op t a b with | some (z, ob) => some (.v z, ob) | none => none) | _, _ => none
  | .unOp op _ x => match op1 gl st x with | some a => unV op a | none => none
  | .convert s d x => match op1 gl st x with | some a => convV P s d a | none => none
  | .load t x => match op1 gl st x with | some a => loadV P st t a | none => none
  | .fieldAddr s x f => match op1 gl st x with | some a => fieldV P s a f | none => none
  | .indexAddr t x i => match op1 gl st x, op1 gl st i with | some a, some b => indexV P t a b | _, _ => none
  | .field t x f => match op1 gl st x, P.underlying t with
    | some (.agg cs), some (.struct fs) => (match fs[f]? with | some fd => (match partV P fd.type cs fd.offset with | some y => some (.v y, True) | none => none) | none => none)
    | _, _ => none
  | .index t x i => match op1 gl st x, op1 gl st i, P.underlying t with
    | some (.agg cs), some (.one (.val (.int _ z))), some (.array len e) => (match P.info? e, P.underlying e with
      | some ie, some (.int _) => (match intsOf cs with | some (k, l) => bif Nat.beq ie.size 1 && Nat.beq cs.length len then some (.v (.one (.val (.int k (l.getD z.toNat 0)))), 0 ≤ z ∧ z < (len : Int)) else none | none => none)
      | some ie, some _ => (match partV P e cs (z.toNat * ie.size) with | some y => some (.v y, 0 ≤ z ∧ z < (len : Int)) | none => none)
      | _, _ => none)
    | _, _, _ => none
  | .build t parts => match partsV gl st parts.toList with | some ps => buildV P t ps | none => none
  | .slice t x lo hi mx => match op1 gl st x, optOp gl st lo, optOp gl st hi, optOp gl st mx with | some a, some l, some h, some m => sliceV P t a l h m | _, _, _, _ => none
  | .extract x i => match opV gl st x with | some (.tup xs) => (match xs[i]? with | some y => some (.v y, True) | none => none) | _ => none
  | .nilCheck x => match op1 gl st x with
    | some (.one (.bptr id k j)) => some (.v (.one (.bptr id k j)), True)
    | some (.one (.rptr id k sz i j)) => some (.v (.one (.rptr id k sz i j)), True)
    | some (.one (.lptr cs)) => some (.v (.one (.lptr cs)), True)
    | some (.one (.aptr n sz f)) => some (.v (.one (.aptr n sz f)), True)
    | _ => none
  | .call { callee := .builtin b, args, argTypes } => match b, opsV gl st args.toList, argTypes.toList with
    | .len, some [x], [t] => lenV P t x
    | .max, some xs, _ => (match mmV true xs with | some z => some (.v z, True) | none => none)
    | .min, some xs, _ => (match mmV false xs with | some z => some (.v z, True) | none => none)
    | _, _, _ => none
  | _ => none

section
variable {K : Ctx} {M : Mem} {st : St} {a : Act} {w : World}

theorem opsV_rep (h : Sim K M st a w) : ∀ {os : List Operand} {xs : List V1}, opsV K.globs st os = some xs → xs.length = os.length ∧ ∀ j, j < xs.length → V1Rep w M (xs.getD j (.one .unk)) ((os.map a.eval).getD j undef)
  | [], _, ho => by cases ho; exact ⟨rfl, fun j hj => by simp at hj⟩
  | o :: r, xs, ho => by
    simp only [opsV] at ho
    split at ho
    · rename_i x ys hx hys
      cases ho
      obtain ⟨h1, h2⟩ := opsV_rep h hys
      refine ⟨by simp [h1], fun j hj => ?_⟩
      cases j with
      | zero => exact op1_rep h hx
      | succ j => simpa using h2 j (by simpa using hj)
    · cases ho

theorem partsV_rep (h : Sim K M st a w) : ∀ {os : List (Nat × Operand)} {xs : List (Nat × V1)}, partsV K.globs st os = some xs → PartsRep w M xs (os.map fun p => (p.1, a.eval p.2))
  | [], _, ho => by cases ho; exact ⟨rfl, fun j hj => by simp at hj⟩
  | (i, o) :: r, xs, ho => by
    simp only [partsV] at ho
    split at ho
    · rename_i x ys hx hys
      cases ho
      obtain ⟨h1, h2⟩ := partsV_rep h hys
      refine ⟨by simpa using h1, fun j hj => ?_⟩
      cases j with
      | zero => exact ⟨rfl, op1_rep h hx⟩
      | succ j => simpa using h2 j (by simpa using hj)
    · cases ho

theorem optOp_rep (h : Sim K M st a w) {o : Option Operand} {x : Option V1} (ho : optOp K.globs st o = some x) : (∀ y, x = some y → ∃ u, o.map a.eval = some u ∧ V1Rep w M y u) ∧ (x = none → o.map a.eval = none) := by
  cases o with
  | none => cases ho; exact ⟨fun y hy => (by cases hy), fun _ => rfl⟩
  | some o =>
    simp only [optOp] at ho
    split at ho
    · rename_i y hy
      cases ho
      exact ⟨fun z hz => by cases hz; exact ⟨_, rfl, op1_rep h hy⟩, fun hn => by cases hn⟩
    · cases ho

theorem run_v {P : Program} {w : World} {s : Sem Value} {r : Value} (h : s.run P w = .ok r w) : (do pure (Next.value (← s)) : Sem Next).run P w = .ok (.value r) w := by
  simp only [Sem.run_bind, h, Result.andThen_ok, Sem.run_pure]

theorem pev_sound (h : Sim K M st a w) {o : Oper} {y : V} {ob : Prop} (hp : pev K.P K.globs st o.op = some (y, ob)) (hob : ob) : ∃ v, (execOp a.eval o).run K.P w = .ok (.value v) w ∧ VRep w M y v := by
  obtain ⟨dst, op, type, pos, after, guard⟩ := o
  simp only at hp
  cases op with
  | move x =>
    simp only [pev] at hp
    split at hp
    · rename_i z hz; cases hp; exact ⟨_, rfl, opV_rep h hz⟩
    · cases hp
  | assign x =>
    simp only [pev] at hp
    split at hp
    · rename_i z hz; cases hp; exact ⟨_, rfl, opV_rep h hz⟩
    · cases hp
  | pick c x z =>
    simp only [pev] at hp
    split at hp
    · rename_i t ht
      split at hp
      · rename_i y' hy'
        cases hp
        have hc := opB_sound h ht
        refine ⟨_, ?_, opV_rep h hy'⟩
        cases t <;> simp [execOp, hc, asBool]
      · cases hp
    · cases hp
  | binOp op t x z tz =>
    simp only [pev] at hp
    split at hp
    · rename_i x' z' hx hz
      split at hp
      · rename_i r ob' hb
        cases hp
        obtain ⟨v, hv, hr⟩ := binV_rep (op1_rep h hx) (op1_rep h hz) hb hob x z
        exact ⟨v, run_v hv, hr⟩
      · cases hp
    · cases hp
  | unOp op t x =>
    simp only [pev] at hp
    split at hp
    · rename_i x' hx
      obtain ⟨v, hv, hr⟩ := unV_rep (op1_rep h hx) hp
      exact ⟨v, run_v hv, hr⟩
    · cases hp
  | convert s d x =>
    simp only [pev] at hp
    split at hp
    · rename_i x' hx
      obtain ⟨v, hv, hr⟩ := convV_rep (op1_rep h hx) hp
      exact ⟨v, run_v hv, hr⟩
    · cases hp
  | load t x =>
    simp only [pev] at hp
    split at hp
    · rename_i x' hx
      obtain ⟨v, hv, hr⟩ := loadV_rep h (op1_rep h hx) hp hob
      exact ⟨v, run_v hv, hr⟩
    · cases hp
  | fieldAddr s x f =>
    simp only [pev] at hp
    split at hp
    · rename_i x' hx
      obtain ⟨v, hv, hr⟩ := fieldV_rep (op1_rep h hx) hp
      exact ⟨v, run_v hv, hr⟩
    · cases hp
  | indexAddr t x i =>
    simp only [pev] at hp
    split at hp
    · rename_i x' i' hx hi
      obtain ⟨v, hv, hr⟩ := indexV_rep (op1_rep h hx) (op1_rep h hi) hp hob
      exact ⟨v, run_v hv, hr⟩
    · cases hp
  | field t x f =>
    simp only [pev] at hp
    split at hp
    · rename_i cs fs hx ht
      split at hp
      · rename_i fd hfd
        split at hp
        · rename_i z hz
          cases hp
          obtain ⟨vs, hvs, hcs⟩ := op1_rep h hx
          obtain ⟨v, hv, hr⟩ := partV_rep hz hcs
          refine ⟨v, run_v ?_, hr⟩
          simp only [Instr.field, Sem.run_bind, run_underlying ht, Result.andThen_ok, hfd, hvs, asAgg, Sem.run_pure, hv]
        · cases hp
      · cases hp
    · cases hp
  | index t x i =>
    simp only [pev] at hp
    split at hp
    · rename_i cs kk z len e hx hi ht
      split at hp
      · rename_i ie k0 hie hue
        split at hp
        · rename_i k l hints
          cases hb : Nat.beq ie.size 1 && Nat.beq cs.length len with
          | false => rw [hb] at hp; cases hp
          | true =>
            rw [hb] at hp
            cases hp
            simp only [Bool.and_eq_true] at hb
            have hs1 := Nat.eq_of_beq_eq_true hb.1
            have hln := Nat.eq_of_beq_eq_true hb.2
            obtain ⟨vs, hvs, hcs⟩ := op1_rep h hx
            have hi' := v1_val (op1_rep h hi)
            have hzlt : z.toNat < cs.length := by omega
            have hv := (intsOf_rep (w := w) (M := M) hints).2 z.toNat _ hzlt (hcs.2 z.toNat hzlt)
            have hvz : vs[z.toNat]? = some (.int k (l.getD z.toNat 0)) := by
              have : z.toNat < vs.size := by rw [hcs.1]; exact hzlt
              rw [Array.getElem?_eq_getElem this]
              rw [Array.getD_eq_getD_getElem?, Array.getElem?_eq_getElem this, Option.getD_some] at hv
              rw [hv]
            refine ⟨.int k (l.getD z.toNat 0), run_v ?_, v1_mk _ rfl⟩
            have hna : (isAgg e).run K.P w = .ok false w := by rw [run_isAgg hue]; rfl
            simp only [Instr.index, hi', asIntOf, Sem.run_bind, Sem.run_pure, Result.andThen_ok, run_underlying ht, hvs, hob.1, hob.2, and_self, if_true, run_sizeOf hie, hs1, Nat.mul_one, part, hna, Bool.false_eq_true, if_false, hvz]
        · cases hp
      · rename_i ie d _ hie _
        split at hp
        · rename_i r hr
          cases hp
          obtain ⟨vs, hvs, hcs⟩ := op1_rep h hx
          have hi' := v1_val (op1_rep h hi)
          obtain ⟨v, hv, hrr⟩ := partV_rep hr hcs
          refine ⟨v, run_v ?_, hrr⟩
          simp only [Instr.index, hi', asIntOf, Sem.run_bind, Sem.run_pure, Result.andThen_ok, run_underlying ht, hvs, hob.1, hob.2, and_self, if_true, run_sizeOf hie, hv]
        · cases hp
      · cases hp
    · cases hp
  | build t parts =>
    simp only [pev] at hp
    split at hp
    · rename_i ps hps
      have hpr := partsV_rep h hps
      obtain ⟨v, hv, hr⟩ := buildV_rep (qs := parts.map fun (i, x) => (i, a.eval x)) (by simpa using hpr) hp
      exact ⟨v, run_v hv, hr⟩
    · cases hp
  | slice t x lo hi mx =>
    simp only [pev] at hp
    split at hp
    · rename_i x' l' h' m' hx hl hh hm
      obtain ⟨l1, l2⟩ := optOp_rep h hl
      obtain ⟨h1, h2⟩ := optOp_rep h hh
      obtain ⟨m1, m2⟩ := optOp_rep h hm
      obtain ⟨v, hv, hr⟩ := sliceV_rep (op1_rep h hx) l1 l2 h1 h2 m1 m2 hp hob
      exact ⟨v, run_v hv, hr⟩
    · cases hp
  | extract x i =>
    simp only [pev] at hp
    split at hp
    · rename_i xs hx
      split at hp
      · rename_i z hz
        cases hp
        obtain ⟨vs, hvs, hl, hr⟩ := opV_rep h hx
        have hi : i < xs.length := (List.getElem?_eq_some_iff.1 hz).1
        have hri := hr i hi
        rw [List.getD_eq_getElem?_getD, hz, Option.getD_some] at hri
        have hiv : i < vs.size := by omega
        refine ⟨vs.getD i undef, run_v ?_, hri⟩
        simp only [Instr.extract, hvs, Array.getD_eq_getD_getElem?, Array.getElem?_eq_getElem hiv, Option.getD_some, Sem.run_pure]
      · cases hp
    · cases hp
  | nilCheck x =>
    simp only [pev] at hp
    split at hp
    · rename_i id k j hx
      cases hp
      have hr := op1_rep h hx
      obtain ⟨b, hb, hx'⟩ := hr
      exact ⟨.pointer (some ⟨b, j, none⟩), by simp [execOp, hb], b, rfl, hx'⟩
    · rename_i id k sz i j hx
      cases hp
      have hr := op1_rep h hx
      obtain ⟨b, hb, hx'⟩ := hr
      exact ⟨.pointer (some ⟨b, i * sz + j, none⟩), by simp [execOp, hb], b, rfl, hx'⟩
    · rename_i cs hx
      cases hp
      have hr : IRep w M.imm (.lptr cs) (a.eval x) := op1_rep h hx
      refine ⟨a.eval x, ?_, hr⟩
      have hex : ∃ b o, a.eval x = .pointer (some ⟨b, o, none⟩) := by
        generalize a.eval x = u at hr
        cases hr; exact ⟨_, _, rfl⟩
      obtain ⟨b, o, hb⟩ := hex
      simp [execOp, hb]
    · rename_i n sz f hx
      cases hp
      have hr : IRep w M.imm (.aptr n sz f) (a.eval x) := op1_rep h hx
      refine ⟨a.eval x, ?_, hr⟩
      have hex : ∃ b o, a.eval x = .pointer (some ⟨b, o, none⟩) := by
        generalize a.eval x = u at hr
        cases hr; exact ⟨_, _, rfl⟩
      obtain ⟨b, o, hb⟩ := hex
      simp [execOp, hb]
    · cases hp
  | call c =>
    obtain ⟨callee, args, argTypes⟩ := c
    cases callee with
    | builtin b =>
      simp only [pev] at hp
      split at hp
      · rename_i x t ho hat
        obtain ⟨hl, hr⟩ := opsV_rep h ho
        obtain ⟨args⟩ := args
        obtain ⟨ats⟩ := argTypes
        simp only at ho hat hl hr
        subst hat
        match args, hl with
        | [o], _ =>
          have h0 := hr 0 (by simp)
          simp only [List.getD_cons_zero, List.map_cons] at h0
          obtain ⟨v, hv, hrr⟩ := lenV_rep (ty := type) h0 hp
          refine ⟨v, run_v ?_, hrr⟩
          rw [← hv]
          simp
      · rename_i xs ho
        split at hp
        · rename_i z hz
          cases hp
          obtain ⟨hl, hr⟩ := opsV_rep h ho
          obtain ⟨v, hv, hrr⟩ := mmV_rep (P := K.P) (w := w) (M := M) (mx := true) (ats := argTypes) (ty := type) (vs := args.map a.eval) (by simpa using hl) (fun j hj => by simpa [Array.getD_eq_getD_getElem?, List.getD_eq_getElem?_getD] using hr j hj) hz
          exact ⟨v, run_v hv, hrr⟩
        · cases hp
      · rename_i xs ho
        split at hp
        · rename_i z hz
          cases hp
          obtain ⟨hl, hr⟩ := opsV_rep h ho
          obtain ⟨v, hv, hrr⟩ := mmV_rep (P := K.P) (w := w) (M := M) (mx := false) (ats := argTypes) (ty := type) (vs := args.map a.eval) (by simpa using hl) (fun j hj => by simpa [Array.getD_eq_getD_getElem?, List.getD_eq_getElem?_getD] using hr j hj) hz
          exact ⟨v, run_v hv, hrr⟩
        · cases hp
      · cases hp
    | _ => cases hp
  | _ => cases hp

/-- A pure operation is a step. -/
theorem Step_pure {K : Ctx} {st : St} {o : Oper} {y : V} {ob : Prop} (hp : pev K.P K.globs st o.op = some (y, ob)) (hob : ob) : Step K st o [] [] y := by
  intro M a w h _
  obtain ⟨v, hv, hr⟩ := pev_sound h hp hob
  unfold Oper.wp
  rw [hv]
  exact ⟨v, M, rfl, Ext.same h rfl rfl rfl rfl, hr, fun i k o h => (by cases h), fun i hi => .inl hi⟩

end
end Go.SL
