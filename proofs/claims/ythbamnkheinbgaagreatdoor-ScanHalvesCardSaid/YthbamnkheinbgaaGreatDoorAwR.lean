import Derived.Test.YthbamnkheinbgaaGreatDoorAwM
import Derived.WalkKit
set_option linter.unusedVariables false
set_option linter.unusedSimpArgs false
namespace Go.SL
namespace Saw
open Go.Proofs Go.RowKit
set_option maxHeartbeats 4000000
theorem tup2 {w:World} {M:Mem} {x y:V1} {v:Value} (h:VRep w M (.tup [x,y]) v):∃a b,v= .tuple #[a,b]/\qQ w M x a/\qQ w M y b:=by
 obtain⟨vs,rfl,hsz,hc⟩:=h;refine⟨vs.getD 0 undef,vs.getD 1 undef,congrArg Value.tuple (Array.ext (by simpa using hsz) λi h1 h2=>?_),hc 0 (by simp),hc 1 (by simp)⟩;have h2':i<2:=by simpa using h2
 match i,h2' with
 |0,_=>rw[kq];simp[kv h1]
 |1,_=>rw[kq];simp[kv h1]
theorem agg2 {w:World} {M:Mem} {x y:C} {v:Value} (h:qQ w M (.agg [x,y]) v):∃a b,v= .agg #[a,b]/\CRep w M x a/\CRep w M y b:=by
 obtain⟨vs,rfl,hsz,hc⟩:=h;refine⟨vs.getD 0 undef,vs.getD 1 undef,congrArg Value.agg (Array.ext (by simpa using hsz) λi h1 h2=>?_),hc 0 (by simp),hc 1 (by simp)⟩;have h2':i<2:=by simpa using h2
 match i,h2' with
 |0,_=>rw[kq];simp[kv h1]
 |1,_=>rw[kq];simp[kv h1]
theorem qNW {w:World} {M:Mem} {x y:C} {a b:Value} (h1:CRep w M x a) (h2:CRep w M y b):qQ w M (.agg [x,y]) (.agg #[a,b]):=by
 refine⟨_,rfl,rfl,λj hj=>?_⟩
 match j,hj with
 |0,_=>exact h1
 |1,_=>exact h2
def slF (w':World) (A:Nat->Prop) (n0:Nat) (l:List qT) (sl:Value):Prop:=
 IRep w' (λb=>A b\/n0<=b) (tl zB dd l) sl/\(0<l.length->∃b cap arr,sl= .slice (some ⟨b,0,none⟩) l.length cap/\n0<=b/\w'.heap[b]? =some (.cells arr 50 (0,0))/\l.length*3<=arr.size/\l.length<=cap/\∀i j,i<l.length->j<3->IRep w' (λb=>A b\/n0<=b) ((zB (l.getD i dd)).getD j .unk) (arr.getD (i*3+j) undef))
theorem qGJ (s:Scan) (z m:Int) (r:List qT×Int) (hm:yW s z m=some r) (w:World) (A:Nat->Prop) (hg:zR globs w A) (v:Value) (hv:qQ w (Mem.of A) (.agg (qX s)) v):
  Calls Tryz.prog 16 #[v,.int .i64 z,.int .i64 m] w λe w'=>∃sl,e= .returned (.tuple #[sl,.int .i64 r.2])/\Below w.heap.size w w'/\slF w' A w.heap.size r.1 sl:=by
 refine(CtX.top (IM s z m r hm) w A _ hg (qQT hv (wD _ rfl) (wD _ rfl))).mono ?_;rintro e w' ⟨v0,rfl,hb,M',hr⟩;obtain⟨a,b,rfl,ha,hb'⟩:=tup2 hr.val;have h2:=IRep.val_eq (show IRep _ _ (.val _) b from hb');subst h2;have:=qJF hr (i:=0) (e:=50) (sz:=3) (n:=r.1.length) (f:=rf zB r.1) rfl ha;exact⟨a,rfl,hb,this.1,this.2⟩
theorem qQe (s:Scan) (r:ByteArray×Int) (hm:RW s=some r) (w:World) (A:Nat->Prop) (hg:zR globs w A) (v:Value) (hv:qQ w (Mem.of A) (.agg (qX s)) v):
  Calls Tryz.prog 19 #[v] w λe w'=>e= .returned (.tuple #[.string r.1,.int .i64 r.2])/\Below w.heap.size w w':=by
 refine(CtX.top (qI4 s r hm) w A _ hg (CB hv)).mono ?_;rintro e w' ⟨v0,rfl,hb,M',hr⟩;obtain⟨a,b,rfl,ha,hb'⟩:=tup2 hr.val;have h1:=IRep.val_eq (show IRep _ _ (.val _) a from ha);have h2:=IRep.val_eq (show IRep _ _ (.val _) b from hb');subst h1 h2;exact⟨rfl,hb⟩
theorem qJ0 (t:ByteArray) (r:Scan×Int) (hm:TB t=some r) (w:World) (A:Nat->Prop) (hg:zR globs w A):
  Calls Tryz.prog 21 #[.string t] w λe w'=>∃a b,e= .returned (.tuple #[.agg #[a,b],.int .i64 r.2])/\Below w.heap.size w w'/\qQ w' (Mem.of λb=>A b\/w.heap.size<=b) (.agg (qX r.1)) (.agg #[a,b]):=by
 refine(CtX.top (qJj t r hm) w A _ hg (CB (wD _ rfl))).mono ?_;rintro e w' ⟨v0,rfl,hb,M',hr⟩;obtain⟨a,b,rfl,ha,hb'⟩:=tup2 hr.val;have h2:=IRep.val_eq (show IRep _ _ (.val _) b from hb');subst h2;obtain⟨p,q,rfl,hp,hq⟩:=agg2 ha;have h1:=(qJF hr (i:=0) (e:=45) (sz:=2) (n:=r.1.Rings.length) (f:=rf qM r.1.Rings) rfl hp).1;have h2:=(qJF hr (i:=1) (e:=68) (sz:=7) (n:=r.1.Defects.length) (f:=rf qJ r.1.Defects) rfl hq).1;have mv:∀{c:C} {u:Value},IRep w' (λb=>A b\/w.heap.size<=b) c u->IRep w' (Mem.of λb=>A b\/w.heap.size<=b).imm c u:=λh=>h.move (λ_ _ _=>rfl) λ_ hb _=>EX.2 hb
 exact⟨p,q,rfl,hb,qNW (mv h1) (mv h2)⟩
theorem qOj (s t:Scan) (r:Bool) (hm:PC s t=some r) (w:World) (A:Nat->Prop) (hg:zR globs w A) (v u:Value) (hv:qQ w (Mem.of A) (.agg (qX s)) v) (hu:qQ w (Mem.of A) (.agg (qX t)) u):
  Calls Tryz.prog 24 #[v,u] w λe w'=>e= .returned (.bool r)/\Below w.heap.size w w':=by
 refine(CtX.top (qEW s t r hm) w A _ hg (qQU hv hu)).mono ?_;rintro e w' ⟨v0,rfl,hb,M',hr⟩;exact⟨by rw[IRep.val_eq hr.val],hb⟩
theorem qPv (l:List qT) (r:Int) (hm:LE l=some r) (w:World) (A:Nat->Prop) (hg:zR globs w A) (v:Value) (hv:IRep w A (tl zB dd l) v):
  Calls Tryz.prog 43 #[v] w λe w'=>e= .returned (.int .i64 r)/\Below w.heap.size w w':=by
 refine(CtX.top (qHu l r hm) w A _ hg (CB (x0:= .one (tl zB dd l)) (hv.move (λ_ _ _=>rfl) λ_ hb _=>EX.2 hb))).mono ?_;rintro e w' ⟨v0,rfl,hb,M',hr⟩;exact⟨by rw[IRep.val_eq hr.val],hb⟩
theorem qQV (s:Scan) (r:Int) (hm:jU s=some r) (w:World) (A:Nat->Prop) (hg:zR globs w A) (v:Value) (hv:qQ w (Mem.of A) (.agg (qX s)) v):
  Calls Tryz.prog 13 #[v] w λe w'=>e= .returned (.int .i64 r)/\Below w.heap.size w w':=by
 refine(CtX.top (QE s r hm) w A _ hg (CB hv)).mono ?_;rintro e w' ⟨v0,rfl,hb,M',hr⟩;exact⟨by rw[IRep.val_eq hr.val],hb⟩
theorem zR.more {w w':World} {A A':Nat->Prop} (h:zR globs w A) (hb:∀b,b<w.heap.size->w'.heap[b]? =w.heap[b]?) (hA:∀b,A b->b<w.heap.size->A' b):zR globs w' A':=λg c hg=>(h g c hg).move (λb _ hlt=>hb b hlt) λb hb hlt=>hA b hb hlt
theorem zI {p:Prop} (h:p):Hid p:=h
end Saw
end Go.SL
