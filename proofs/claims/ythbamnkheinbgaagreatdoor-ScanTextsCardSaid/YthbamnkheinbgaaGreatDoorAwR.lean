import Derived.Test.YthbamnkheinbgaaGreatDoorAwM
import Derived.WalkKit
set_option linter.unusedVariables false
set_option linter.unusedSimpArgs false
namespace Go.SL
namespace Saw
open Go.Proofs Go.RowKit
set_option maxHeartbeats 4000000
theorem tup2 {w:World} {M:Mem} {x y:V1} {v:Value} (h:VRep w M (.tup [x,y]) v):∃a b,v= .tuple #[a,b]/\qP w M x a/\qP w M y b:=by
 obtain⟨vs,rfl,hsz,hc⟩:=h;refine⟨vs.getD 0 undef,vs.getD 1 undef,congrArg Value.tuple (Array.ext (by simpa using hsz) λi h1 h2=>?_),hc 0 (by simp),hc 1 (by simp)⟩;have h2':i<2:=by simpa using h2
 match i,h2' with
 |0,_=>rw[kg];simp[ku h1]
 |1,_=>rw[kg];simp[ku h1]
theorem agg2 {w:World} {M:Mem} {x y:C} {v:Value} (h:qP w M (.agg [x,y]) v):∃a b,v= .agg #[a,b]/\CRep w M x a/\CRep w M y b:=by
 obtain⟨vs,rfl,hsz,hc⟩:=h;refine⟨vs.getD 0 undef,vs.getD 1 undef,congrArg Value.agg (Array.ext (by simpa using hsz) λi h1 h2=>?_),hc 0 (by simp),hc 1 (by simp)⟩;have h2':i<2:=by simpa using h2
 match i,h2' with
 |0,_=>rw[kg];simp[ku h1]
 |1,_=>rw[kg];simp[ku h1]
theorem qJv {w:World} {M:Mem} {x y:C} {a b:Value} (h1:CRep w M x a) (h2:CRep w M y b):qP w M (.agg [x,y]) (.agg #[a,b]):=by
 refine⟨_,rfl,rfl,λj hj=>?_⟩
 match j,hj with
 |0,_=>exact h1
 |1,_=>exact h2
def slF (w':World) (A:Nat->Prop) (n0:Nat) (l:List qW) (sl:Value):Prop:=
 IRep w' (λb=>A b\/n0<=b) (tl qZ dd l) sl/\(0<l.length->∃b cap arr,sl= .slice (some ⟨b,0,none⟩) l.length cap/\n0<=b/\w'.heap[b]? =some (.cells arr 50 (0,0))/\l.length*3<=arr.size/\l.length<=cap/\∀i j,i<l.length->j<3->IRep w' (λb=>A b\/n0<=b) ((qZ (l.getD i dd)).getD j .unk) (arr.getD (i*3+j) undef))
theorem qDb (s:Scan) (z m:Int) (r:List qW×Int) (hm:YM s z m=some r) (w:World) (A:Nat->Prop) (hg:zH globs w A) (v:Value) (hv:qP w (Mem.of A) (.agg (qV s)) v):
  Calls Tryz.prog 16 #[v,.int .i64 z,.int .i64 m] w λe w'=>∃sl,e= .returned (.tuple #[sl,.int .i64 r.2])/\Below w.heap.size w w'/\slF w' A w.heap.size r.1 sl:=by
 refine(CtX.top (qGd s z m r hm) w A _ hg (qLG hv (zR _ rfl) (zR _ rfl))).mono ?_;rintro e w' ⟨v0,rfl,hb,M',hr⟩;obtain⟨a,b,rfl,ha,hb'⟩:=tup2 hr.val;have h2:=IRep.val_eq (show IRep _ _ (.val _) b from hb');subst h2;have:=qFe hr (i:=0) (e:=50) (sz:=3) (n:=r.1.length) (f:=rf qZ r.1) rfl ha;exact⟨a,rfl,hb,this.1,this.2⟩
theorem qLd (s:Scan) (r:ByteArray×Int) (hm:yL s=some r) (w:World) (A:Nat->Prop) (hg:zH globs w A) (v:Value) (hv:qP w (Mem.of A) (.agg (qV s)) v):
  Calls Tryz.prog 19 #[v] w λe w'=>e= .returned (.tuple #[.string r.1,.int .i64 r.2])/\Below w.heap.size w w':=by
 refine(CtX.top (II s r hm) w A _ hg (OZ hv)).mono ?_;rintro e w' ⟨v0,rfl,hb,M',hr⟩;obtain⟨a,b,rfl,ha,hb'⟩:=tup2 hr.val;have h1:=IRep.val_eq (show IRep _ _ (.val _) a from ha);have h2:=IRep.val_eq (show IRep _ _ (.val _) b from hb');subst h1 h2;exact⟨rfl,hb⟩
theorem qFQ (t:ByteArray) (r:Scan×Int) (hm:yM t=some r) (w:World) (A:Nat->Prop) (hg:zH globs w A):
  Calls Tryz.prog 21 #[.string t] w λe w'=>∃a b,e= .returned (.tuple #[.agg #[a,b],.int .i64 r.2])/\Below w.heap.size w w'/\qP w' (Mem.of λb=>A b\/w.heap.size<=b) (.agg (qV r.1)) (.agg #[a,b]):=by
 refine(CtX.top (zbQ t r hm) w A _ hg (OZ (zR _ rfl))).mono ?_;rintro e w' ⟨v0,rfl,hb,M',hr⟩;obtain⟨a,b,rfl,ha,hb'⟩:=tup2 hr.val;have h2:=IRep.val_eq (show IRep _ _ (.val _) b from hb');subst h2;obtain⟨p,q,rfl,hp,hq⟩:=agg2 ha;have h1:=(qFe hr (i:=0) (e:=45) (sz:=2) (n:=r.1.Rings.length) (f:=rf qM r.1.Rings) rfl hp).1;have h2:=(qFe hr (i:=1) (e:=68) (sz:=7) (n:=r.1.Defects.length) (f:=rf qL r.1.Defects) rfl hq).1;have mv:∀{c:C} {u:Value},IRep w' (λb=>A b\/w.heap.size<=b) c u->IRep w' (Mem.of λb=>A b\/w.heap.size<=b).imm c u:=λh=>h.move (λ_ _ _=>rfl) λ_ hb _=>BU.2 hb
 exact⟨p,q,rfl,hb,qJv (mv h1) (mv h2)⟩
theorem qJy (s t:Scan) (r:Bool) (hm:NF s t=some r) (w:World) (A:Nat->Prop) (hg:zH globs w A) (v u:Value) (hv:qP w (Mem.of A) (.agg (qV s)) v) (hu:qP w (Mem.of A) (.agg (qV t)) u):
  Calls Tryz.prog 24 #[v,u] w λe w'=>e= .returned (.bool r)/\Below w.heap.size w w':=by
 refine(CtX.top (qHH s t r hm) w A _ hg (qHd hv hu)).mono ?_;rintro e w' ⟨v0,rfl,hb,M',hr⟩;exact⟨by rw[IRep.val_eq hr.val],hb⟩
theorem qKN (l:List qW) (r:Int) (hm:GO l=some r) (w:World) (A:Nat->Prop) (hg:zH globs w A) (v:Value) (hv:IRep w A (tl qZ dd l) v):
  Calls Tryz.prog 43 #[v] w λe w'=>e= .returned (.int .i64 r)/\Below w.heap.size w w':=by
 refine(CtX.top (qEH l r hm) w A _ hg (OZ (x0:= .one (tl qZ dd l)) (hv.move (λ_ _ _=>rfl) λ_ hb _=>BU.2 hb))).mono ?_;rintro e w' ⟨v0,rfl,hb,M',hr⟩;exact⟨by rw[IRep.val_eq hr.val],hb⟩
theorem qLj (s:Scan) (r:Int) (hm:QP s=some r) (w:World) (A:Nat->Prop) (hg:zH globs w A) (v:Value) (hv:qP w (Mem.of A) (.agg (qV s)) v):
  Calls Tryz.prog 13 #[v] w λe w'=>e= .returned (.int .i64 r)/\Below w.heap.size w w':=by
 refine(CtX.top (TD s r hm) w A _ hg (OZ hv)).mono ?_;rintro e w' ⟨v0,rfl,hb,M',hr⟩;exact⟨by rw[IRep.val_eq hr.val],hb⟩
theorem zH.more {w w':World} {A A':Nat->Prop} (h:zH globs w A) (hb:∀b,b<w.heap.size->w'.heap[b]? =w.heap[b]?) (hA:∀b,A b->b<w.heap.size->A' b):zH globs w' A':=λg c hg=>(h g c hg).move (λb _ hlt=>hb b hlt) λb hb hlt=>hA b hb hlt
theorem zA {p:Prop} (h:p):Hid p:=h
end Saw
end Go.SL
