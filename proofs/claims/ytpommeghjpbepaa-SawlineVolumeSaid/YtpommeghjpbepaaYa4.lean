/- Calls: what is handed on (values, slices seen as such that do not change, objects that the callee may turn), and what comes back. -/
import Derived.Test.YtpommeghjpbepaaYa3
set_option linter.unusedVariables false
set_option linter.unusedSimpArgs false
namespace Go.SL
open Go.RowKit
def rid (y:Nat):List (Nat×Nat)->Option Nat
 |[]=>none
 |p::r=>bif Nat.beq p.1 y then some 0 else(match rid y r with|some i=>some (i+1)|none=>none)
def ridx (ren:List (Nat×Nat)) (id k:Nat):Option Nat:=
 match rid id ren with|some i=>(match ren[i]? with|some p=>bif Nat.beq p.2 k then some i else none|none=>none)|none=>none
theorem qA9 {y:Nat}:∀{ren:List (Nat×Nat)} {i:Nat},rid y ren=some i->∃k,ren[i]? =some (y,k)
 |[],_,h=>by cases h
 |p::r,i,h=>by
  simp only[rid] at h;cases hb:Nat.beq p.1 y with
  |true=>
   rw[hb] at h;cases h;exact⟨p.2,by rw[<-kf hb];rfl⟩
  |false=>
   rw[hb] at h;simp only[kp] at h;split at h
   ·rename_i j hj;cases h;obtain⟨k,hk⟩:=qA9 hj;exact⟨k,by simpa using hk⟩
   ·cases h
theorem qIx {y:Nat}:∀{ren:List (Nat×Nat)},rid y ren=none->∀(i k:Nat),ren[i]? ≠some (y,k)
 |[],_,i,k=>by simp
 |p::r,h,i,k=>by
  simp only[rid] at h;cases hb:Nat.beq p.1 y with
  |true=>rw[hb] at h;cases h
  |false=>
   rw[hb] at h;simp only[kp] at h;split at h
   ·cases h
   ·rename_i hj;cases i with
    |zero=>intro he;cases he;rw[uL] at hb;cases hb
    |succ i=>simpa using qIx hj i k
theorem SA {ren:List (Nat×Nat)} {id k i:Nat} (h:ridx ren id k=some i):ren[i]? =some (id,k):=by
 unfold ridx at h;split at h
 ·rename_i j hj;obtain⟨k',hk'⟩:=qA9 hj;rw[hk'] at h;simp only at h;cases hb:Nat.beq k' k with
  |false=>rw[hb] at h;cases h
  |true=>rw[hb] at h;cases h;rw[hk',kf hb]
 ·cases h
def RF (top:Nat):List (Nat×Nat)->Bool
 |[]=>true
 |p::r=>Nat.blt p.1 top&&((rid p.1 r).isNone&&RF top r)
theorem qIv {top:Nat}:∀{ren:List (Nat×Nat)},RF top ren=true->∀(i:Nat) (p:Nat×Nat),ren[i]? =some p->p.1<top
 |[],_,i,p,h=>by simp at h
 |q::r,hr,i,p,h=>by
  simp only[RF,kn] at hr;cases i with
  |zero=>cases h;simpa[kH] using hr.1
  |succ i=>exact qIv hr.2.2 i p (by simpa using h)
theorem IY {top:Nat}:∀{ren:List (Nat×Nat)},RF top ren=true->∀(i y k:Nat),ren[i]? =some (y,k)->rid y ren=some i
 |[],_,i,y,k,h=>by simp at h
 |q::r,hr,i,y,k,h=>by
  simp only[RF,kn] at hr;cases i with
  |zero=>cases h;simp[rid]
  |succ i=>
   have h':r[i]? =some (y,k):=by simpa using h
   have ih:=IY hr.2.2 i y k h';have hne:Nat.beq q.1 y=false:=by
    cases hb:Nat.beq q.1 y with
    |false=>rfl
    |true=>
     rw[kf hb,ih] at hr;cases hr.2.1
   simp only[rid,hne,kp,ih]
def C.into (st:St) (ren:List (Nat×Nat)):C->Option (C×Option Prop×Bool)
 | .own id k sz len=>match ridx ren id k with
  |some i=>some (.own i 0 sz len,none,true)
  |none=>(match look id st.objs,rid id ren with|some (k',.row _ sz' n f),none=>bif Nat.beq k k'&&Nat.beq sz sz'&&Nat.blt 0 sz then some (.lst len f,some (len<=n),false) else none|_,_=>none)
 | .sub id k sz off len=>match ridx ren id k with
  |some i=>some (.sub i 0 sz off len,none,true)
  |none=>(match look id st.objs,rid id ren with|some (k',.row _ sz' n f),none=>bif Nat.beq k k'&&Nat.beq sz sz'&&Nat.blt 0 sz then some (.lst len (λi=>f (off+i)),some (off+len<=n),false) else none|_,_=>none)
 | .bptr id k j=>match ridx ren id k with|some i=>some (.bptr i 0 j,none,true)|none=>none
 | .rptr id k sz x j=>match ridx ren id k with|some i=>some (.rptr i 0 sz x j,none,true)|none=>none
 | .fn g caps=>match capsInto ren caps with|some cs=>some (.fn g cs,none,true)|none=>none
 | .yl R b ts caps=>match capsInto ren caps with|some cs=>some (.yl R b ts cs,none,true)|none=>none
 | .unk=>some (.unk,none,true)
 |c=>some (c,none,true)
where
 capInto (ren:List (Nat×Nat)):C->Option C
  | .bptr id k j=>match ridx ren id k with|some i=>some (.bptr i 0 j)|none=>none
  |c=>some c
 capsInto (ren:List (Nat×Nat)):List C->Option (List C)
  |[]=>some []
  |c::r=>match capInto ren c,capsInto ren r with|some d,some ds=>some (d::ds)|_,_=>none
def qBo (st:St) (ren:List (Nat×Nat)):List C->Option (List C×Option Prop×Bool)
 |[]=>some ([],none,true)
 |c::r=>match c.into st ren,qBo st ren r with|some (d,p,b),some (ds,q,b')=>some (d::ds,an p q,b&&b')|_,_=>none
def V1.into (st:St) (ren:List (Nat×Nat)):V1->Option (V1×Option Prop×Bool)
 | .one c=>match c.into st ren with|some (d,p,b)=>some (.one d,p,b)|none=>none
 | .agg cs=>match qBo st ren cs with|some (ds,p,b)=>some (.agg ds,p,b)|none=>none
def TM (st:St) (ren:List (Nat×Nat)):List V1->Option (List V1×Option Prop×Bool)
 |[]=>some ([],none,true)
 |x::r=>match x.into st ren,TM st ren r with|some (y,p,b),some (ys,q,b')=>some (y::ys,an p q,b&&b')|_,_=>none
def O.into (st:St) (ren:List (Nat×Nat)):O->Option O
 | .box e cs=>match qBo st ren cs with|some (ds,_,true)=>some (.box e ds)|_=>none
 | .row e sz n f=>some (.row e sz n f)
 | .lp R b s j=>some (.lp R b s j)
def KU (st:St) (ren:List (Nat×Nat)):Nat->List (Nat×Nat)->Option (List (Nat×(Nat×O)))
 |_,[]=>some []
 |j,(id,k)::r=>match look id st.objs,KU st ren (j+1) r with
  |some (k',o),some os=>bif Nat.beq k k' then(match o.into st ren with|some o'=>some ((j,(0,o'))::os)|none=>none) else none
  |_,_=>none
def Mem.inn (M:Mem) (ren:List (Nat×Nat)) (A:Nat->Prop):Mem:={ver:=λi=>(ren[i]?).map λ_=>0,blk:=λi=>(ren[i]?).bind λp=>M.blk p.1,A:=A}
section
variable {K :Ctx} {M:Mem} {st:St} {a:Act} {w:World} {ren:List (Nat×Nat)} {A:Nat->Prop}
theorem HR {i id k:Nat} (h:ren[i]? =some (id,k)):(M.inn ren A).ver i=some 0/\(M.inn ren A).blk i=M.blk id:=by
 simp[Mem.inn,h]
theorem FT {i k:Nat} (h:(M.inn ren A).ver i=some k):k=0/\∃p,ren[i]? =some p/\(M.inn ren A).blk i=M.blk p.1:=by
 simp only[Mem.inn,kG] at h;obtain⟨p,hp,rfl⟩:=h;exact⟨rfl,p,hp,by simp[Mem.inn,hp]⟩
structure Area (M:Mem) (st:St) (ren:List (Nat×Nat)) (A:Nat->Prop) (views:Bool):Prop where
 imm:∀b,M.imm b->A b
 out:∀(i:Nat) (p:Nat×Nat) (b:Nat),ren[i]? =some p->M.blk p.1=some b->¬A b
 view:views=true->∀id k b,rid id ren=none->M.ver id=some k->M.blk id=some b->A b
theorem qKa {views:Bool} (hA:Area M st ren A views) {b:Nat} (hb:A b):(M.inn ren A).imm b:=
 ⟨hb,fun⟨i,k,hv,hbk⟩=>by
  obtain⟨_,p,hp,he⟩:=FT hv;rw[he] at hbk;exact hA.out i p b hp hbk hb⟩
theorem inn_irep {views:Bool} (hA:Area M st ren A views) {c:C} {v:Value} (h:IRep w M.imm c v):IRep w (M.inn ren A).imm c v:=
 h.move (λ_ _ _=>rfl) λb hb _=>qKa hA (hA.imm b hb)
theorem qJO {views:Bool} (h:Sim K M st a w) (hA:Area M st ren A views) (hren:∀(i id k:Nat),ren[i]? =some (id,k)->M.ver id=some k) {c d:C} {v:Value} (hc:C.into.capInto ren c=some d) (hr:yS w M c v):yS w (M.inn ren A) d v:=by
 cases c with
 |bptr id k j=>
  simp only[C.into.capInto] at hc;split at hc
  ·rename_i i hi;cases hc;obtain⟨b,h1,hx⟩:=hr;have:=SA hi;exact⟨b,h1,λ_=>by rw[(HR this).2];exact hx (hren _ _ _ this)⟩
  ·cases hc
 |_=>cases hc;exact inn_irep hA hr
theorem AR {views:Bool} (h:Sim K M st a w) (hA:Area M st ren A views) (hren:∀(i id k:Nat),ren[i]? =some (id,k)->M.ver id=some k):∀{cs ds:List C},C.into.capsInto ren cs=some ds->ds.length=cs.length/\∀j v,j<cs.length->yS w M (cs.getD j .unk) v->yS w (M.inn ren A) (ds.getD j .unk) v
 |[],_,hr=>by cases hr;exact⟨rfl,λj v hj=>absurd hj (uc j)⟩
 |p::r,caps',hr=>by
  simp only[C.into.capsInto] at hr;split at hr
  ·rename_i q r' h1 h2;cases hr;obtain⟨i1,i2⟩:=AR h hA hren h2;refine⟨by simp[i1],λj v hj hp=>?_⟩;cases j with
   |zero=>exact qJO h hA hren h1 hp
   |succ j=>exact i2 j v (by simpa using hj) hp
  ·cases hr
theorem qJc {views:Bool} (h:Sim K M st a w) (hA:Area M st ren A views) (hviews:views=true) {id k e sz n len off:Nat} {f:Nat->List C} {v:Value} (hl:look id st.objs=some (k,.row e sz n f)) (hid:rid id ren=none) (hpos:0<sz) (hle:off+len<=n)
  (hc:(len=0/\∃a,v= .slice a 0 0)\/∃b cap,v= .slice (some ⟨b,off*sz,none⟩) len cap/\len<=cap/\cap<=maxLen/\(M.ver id=some k->M.blk id=some b/\∃arr e,w.heap[b]? =some (.cells arr e (0,0))/\arr.size=(off+cap)*sz)) (g:Nat->List C) (hg:∀i,i<len->g i=f (off+i)):
  IRep w (M.inn ren A).imm (.lst len g) v:=by
 obtain⟨hver,hrow⟩:=h.objs id k _ hl;rcases hc with⟨h0,b,rfl⟩|⟨b,cap,rfl,h1,h2,hx⟩
 ·subst h0;exact .lst0 _ _
 ·obtain⟨hb,arr,e',hh,hsize⟩:=hx hver;by_cases hz:len=0
  ·subst hz;exact .lst b (off*sz) 0 cap 0 _ (λ_ _=>undef) (ud _) h2 (λi hi=>by omega) (λi j hi=>by omega) (λi j hi=>by omega) (λi j hi=>by omega)
  ·rcases hrow with⟨hnone,_⟩|⟨b',arr',hb',hh',hns,hcr⟩
   ·rw[hb] at hnone;cases hnone
   ·have hbb:b'=b:=kF (hb'.symm.trans hb);subst hbb;rw[hh] at hh';cases hh';refine .lst b' (off*sz) len cap sz g (λi j=>arr.getD ((off+i)*sz+j) undef) h1 h2 (λi hi=>by rw[hg i hi];exact(hcr (off+i) (by omega)).1) (λi j hi hj=>qKa hA (hA.view hviews id k b' hid hver hb)) (λi j hi hj=>?_) (λi j hi hj=>by rw[hg i hi];exact inn_irep hA ((hcr (off+i) (by omega)).2 j hj));have:=PD (n:=n) (show off+i<n by omega) hj;rw[show off*sz+(i*sz+j)=(off+i)*sz+j by rw[kM];omega];exact cell_of_row' hh (by omega)
theorem into_crep {views:Bool} (h:Sim K M st a w) (hA:Area M st ren A views) (hren:∀(i id k:Nat),ren[i]? =some (id,k)->M.ver id=some k) {c d:C} {p:Option Prop} {b:Bool} {v:Value} (hc:c.into st ren=some (d,p,b)) (hp:oP p) (hb:b=true\/views=true) (hr:CRep w M c v):CRep w (M.inn ren A) d v:=by
 cases c with
 |own id k sz len=>
  simp only[C.into] at hc;split at hc
  ·rename_i i hi;cases hc;have hi':=SA hi;rcases hr with h0|⟨b,cap,h1,h2,h3,hx⟩
   ·exact .inl h0
   ·exact .inr ⟨b,cap,h1,h2,h3,λ_=>by rw[(HR hi').2];exact hx (hren _ _ _ hi')⟩
  ·split at hc
   ·rename_i k' e sz' n f hl hid;cases hk:Nat.beq k k'&&Nat.beq sz sz'&&Nat.blt 0 sz with
    |false=>rw[hk] at hc;cases hc
    |true=>
     rw[hk] at hc;cases hc;simp only[kn,kH] at hk;have hkk:=kf hk.1.1;have hss:=kf hk.1.2;subst hkk hss;have hp':len<=n:=hp;refine qJc h hA (hb.resolve_left (by decide)) (off:=0) hl hid hk.2 (by omega) ?_ f (λi _=>by rw[kv]);simp only[Nat.zero_mul,kv];exact hr
   ·cases hc
 |sub id k sz off len=>
  simp only[C.into] at hc;split at hc
  ·rename_i i hi;cases hc;have hi':=SA hi;rcases hr with h0|⟨b,cap,h1,h2,h3,hx⟩
   ·exact .inl h0
   ·exact .inr ⟨b,cap,h1,h2,h3,λ_=>by rw[(HR hi').2];exact hx (hren _ _ _ hi')⟩
  ·split at hc
   ·rename_i k' e sz' n f hl hid;cases hk:Nat.beq k k'&&Nat.beq sz sz'&&Nat.blt 0 sz with
    |false=>rw[hk] at hc;cases hc
    |true=>
     rw[hk] at hc;cases hc;simp only[kn,kH] at hk;have hkk:=kf hk.1.1;have hss:=kf hk.1.2;subst hkk hss;exact qJc h hA (hb.resolve_left (by decide)) hl hid hk.2 hp hr _ (λi _=>rfl)
   ·cases hc
 |bptr id k j=>
  simp only[C.into] at hc;split at hc
  ·rename_i i hi;cases hc;have hi':=SA hi;obtain⟨b,h1,hx⟩:=hr;exact⟨b,h1,λ_=>by rw[(HR hi').2];exact hx (hren _ _ _ hi')⟩
  ·cases hc
 |rptr id k sz x j=>
  simp only[C.into] at hc;split at hc
  ·rename_i i hi;cases hc;have hi':=SA hi;obtain⟨b,h1,hx⟩:=hr;exact⟨b,h1,λ_=>by rw[(HR hi').2];exact hx (hren _ _ _ hi')⟩
  ·cases hc
 |fn g caps=>
  simp only[C.into] at hc;split at hc
  ·rename_i cs hcs;cases hc;obtain⟨i1,i2⟩:=AR h hA hren hcs;obtain⟨vs,hv,hs,hx⟩:=hr;exact⟨vs,hv,by rw[i1];exact hs,λj hj=>i2 j _ (by omega) (hx j (by omega))⟩
  ·cases hc
 |yl R b ts caps=>
  simp only[C.into] at hc;split at hc
  ·rename_i cs hcs;cases hc;obtain⟨i1,i2⟩:=AR h hA hren hcs;exact⟨hr.1,λj hj=>i2 j _ (by omega) (hr.2 j (by omega))⟩
  ·cases hc
 |unk=>cases hc;exact hr
 |val v=>cases hc;exact inn_irep hA hr
 |emp=>cases hc;exact inn_irep hA hr
 |lst n f=>cases hc;exact inn_irep hA hr
 |lptr cs=>cases hc;exact inn_irep hA hr
 |aptr n sz f=>cases hc;exact inn_irep hA hr
theorem qCc {views:Bool} (h:Sim K M st a w) (hA:Area M st ren A views) (hren:∀(i id k:Nat),ren[i]? =some (id,k)->M.ver id=some k):∀{cs ds:List C} {p:Option Prop} {b:Bool},qBo st ren cs=some (ds,p,b)->oP p->(b=true\/views=true)->ds.length=cs.length/\∀j v,j<cs.length->CRep w M (cs.getD j .unk) v->CRep w (M.inn ren A) (ds.getD j .unk) v
 |[],_,_,_,hr,_,_=>by cases hr;exact⟨rfl,λj v hj=>absurd hj (uc j)⟩
 |c::r,_,_,_,hr,hp,hb=>by
  simp only[qBo] at hr;split at hr
  ·rename_i d p1 b1 ds p2 b2 h1 h2;cases hr;have hb1:b1=true\/views=true:=hb.imp (λh=>by rw[kn] at h;exact h.1) id;have hb2:b2=true\/views=true:=hb.imp (λh=>by rw[kn] at h;exact h.2) id;obtain⟨hp1,hp2⟩:=ZW hp;obtain⟨i1,i2⟩:=qCc h hA hren h2 hp2 hb2;refine⟨by simp[i1],λj v hj hq=>?_⟩;cases j with
   |zero=>exact into_crep h hA hren h1 hp1 hb1 hq
   |succ j=>exact i2 j v (by simpa using hj) hq
  ·cases hr
theorem qK4 {views:Bool} (h:Sim K M st a w) (hA:Area M st ren A views) (hren:∀(i id k:Nat),ren[i]? =some (id,k)->M.ver id=some k) {x y:V1} {p:Option Prop} {b:Bool} {v:Value} (hx:x.into st ren=some (y,p,b)) (hp:oP p) (hb:b=true\/views=true) (hr:zA w M x v):zA w (M.inn ren A) y v:=by
 cases x with
 |one c=>
  simp only[V1.into] at hx;split at hx
  ·rename_i d p' b' hd;cases hx;exact into_crep h hA hren hd hp hb hr
  ·cases hx
 |agg cs=>
  simp only[V1.into] at hx;split at hx
  ·rename_i ds p' b' hd;cases hx;obtain⟨vs,hv,hs,hc⟩:=hr;obtain⟨i1,i2⟩:=qCc h hA hren hd hp hb;exact⟨vs,hv,by rw[i1];exact hs,λj hj=>i2 j _ (by omega) (hc j (by omega))⟩
  ·cases hx
theorem qDJ {views:Bool} (h:Sim K M st a w) (hA:Area M st ren A views) (hren:∀(i id k:Nat),ren[i]? =some (id,k)->M.ver id=some k):∀{xs ys:List V1} {p:Option Prop} {b:Bool},TM st ren xs=some (ys,p,b)->oP p->(b=true\/views=true)->ys.length=xs.length/\∀j v,j<xs.length->zA w M (xs.getD j (.one .unk)) v->zA w (M.inn ren A) (ys.getD j (.one .unk)) v
 |[],_,_,_,hr,_,_=>by cases hr;exact⟨rfl,λj v hj=>absurd hj (uc j)⟩
 |c::r,_,_,_,hr,hp,hb=>by
  simp only[TM] at hr;split at hr
  ·rename_i d p1 b1 ds p2 b2 h1 h2;cases hr;have hb1:b1=true\/views=true:=hb.imp (λh=>by rw[kn] at h;exact h.1) id;have hb2:b2=true\/views=true:=hb.imp (λh=>by rw[kn] at h;exact h.2) id;obtain⟨hp1,hp2⟩:=ZW hp;obtain⟨i1,i2⟩:=qDJ h hA hren h2 hp2 hb2;refine⟨by simp[i1],λj v hj hq=>?_⟩;cases j with
   |zero=>exact qK4 h hA hren h1 hp1 hb1 hq
   |succ j=>exact i2 j v (by simpa using hj) hq
  ·cases hr
theorem qLI {c d:C} {p:Option Prop} (h:c.into st ren=some (d,p,true)):p=none:=by
 cases c with
 |own id k sz len=>
  simp only[C.into] at h;split at h
  ·cases h;rfl
  ·split at h
   ·cases hk:Nat.beq k _&&Nat.beq sz _&&Nat.blt 0 sz with
    |false=>rw[hk] at h;cases h
    |true=>rw[hk] at h;cases h
   ·cases h
 |sub id k sz off len=>
  simp only[C.into] at h;split at h
  ·cases h;rfl
  ·split at h
   ·cases hk:Nat.beq k _&&Nat.beq sz _&&Nat.blt 0 sz with
    |false=>rw[hk] at h;cases h
    |true=>rw[hk] at h;cases h
   ·cases h
 |bptr id k j=>simp only[C.into] at h;split at h<;>cases h;rfl
 |rptr id k sz x j=>simp only[C.into] at h;split at h<;>cases h;rfl
 |fn g caps=>simp only[C.into] at h;split at h<;>cases h;rfl
 |yl R b ts caps=>simp only[C.into] at h;split at h<;>cases h;rfl
 |unk=>cases h;rfl
 |val v=>cases h;rfl
 |emp=>cases h;rfl
 |lst n f=>cases h;rfl
 |lptr cs=>cases h;rfl
 |aptr n sz f=>cases h;rfl
theorem qAm :∀{cs ds:List C} {p:Option Prop},qBo st ren cs=some (ds,p,true)->oP p
 |[],_,_,h=>by cases h;trivial
 |c::r,_,_,h=>by
  simp only[qBo] at h;split at h
  ·rename_i d p1 b1 ds p2 b2 h1 h2;simp only[ue,Prod.mk.injEq] at h;obtain⟨_,rfl,hb⟩:=h;rw[kn] at hb;obtain⟨rfl,rfl⟩:=hb;rw[qLI h1];exact qAm h2
  ·cases h
theorem qMj {views:Bool} (h:Sim K M st a w) (hA:Area M st ren A views) (hren:∀(i id k:Nat),ren[i]? =some (id,k)->M.ver id=some k) {o o':O} {i id k:Nat} (ho:o.into st ren=some o') (hi:ren[i]? =some (id,k)) (hr:ORep w M id k o):ORep w (M.inn ren A) i 0 o':=by
 obtain⟨hv,hb⟩:=HR (M:=M) (A:=A) hi;cases o with
 |box e cs=>
  simp only[O.into] at ho;split at ho
  ·rename_i ds p hd;cases ho;obtain⟨_,b,arr,h1,h2,h3,h4⟩:=hr;obtain⟨i1,i2⟩:=qCc h hA hren hd (qAm hd) (.inl rfl);exact⟨hv,b,arr,by rw[hb];exact h1,h2,by rw[i1];exact h3,λj hj=>i2 j _ (by omega) (h4 j (by omega))⟩
  ·cases ho
 |row e sz n f=>
  cases ho;refine⟨hv,?_⟩;rcases hr.2 with⟨h0,h1⟩|⟨b,arr,h1,h2,h3,h4⟩
  ·exact .inl ⟨by rw[hb];exact h0,h1⟩
  ·exact .inr ⟨b,arr,by rw[hb];exact h1,h2,h3,λi hi=>⟨(h4 i hi).1,λj hj=>inn_irep hA ((h4 i hi).2 j hj)⟩⟩
 |lp R b s j=>cases ho;exact⟨hv,by rw[hb];exact hr.2.1,hr.2.2⟩
theorem qCf :∀{l:List (Nat×Nat)} {s:Nat} {oi:List (Nat×(Nat×O))},KU st ren s l=some oi->∀i k o,look i oi=some (k,o)->∃id k' o',s<=i/\l[i-s]? =some (id,k')/\k=0/\look id st.objs=some (k',o')/\o'.into st ren=some o
 |[],_,_,h,i,k,o,hl=>by cases h;cases hl
 |(id,kk)::r,s,oi,h,i,k,o,hl=>by
  simp only[KU] at h;split at h
  ·rename_i k' o' os h1 h2;cases hb:Nat.beq kk k' with
   |false=>rw[hb] at h;cases h
   |true=>
    rw[hb] at h;simp only[ki] at h;split at h
    ·rename_i o2 h3;cases h;have hkk:=kf hb;subst hkk;rw[look_cons] at hl;split at hl
     ·rename_i hs;cases hl;exact⟨id,kk,o',by omega,by rw[<-hs,Nat.sub_self];rfl,rfl,h1,h3⟩
     ·obtain⟨id',k',o',e1,e2,e3⟩:=qCf h2 i k o hl;exact⟨id',k',o',by omega,by rw[show i-s=(i-(s+1))+1 by omega];simpa using e2,e3⟩
    ·cases h
  ·cases h
theorem CK :∀{l:List (Nat×Nat)} {s:Nat} {oi:List (Nat×(Nat×O))},KU st ren s l=some oi->∀(i id k:Nat),l[i]? =some (id,k)->(look (s+i) oi).isSome=true/\∃o,look id st.objs=some (k,o)
 |[],_,_,_,i,id,k,hl=>by simp at hl
 |(id',kk)::r,s,oi,h,i,id,k,hl=>by
  simp only[KU] at h;split at h
  ·rename_i k' o' os h1 h2;cases hb:Nat.beq kk k' with
   |false=>rw[hb] at h;cases h
   |true=>
    rw[hb] at h;simp only[ki] at h;split at h
    ·rename_i o2 h3;cases h;have hkk:=kf hb;subst hkk;cases i with
     |zero=>cases hl;exact⟨by simp[look_cons],_,h1⟩
     |succ i=>
      have:=CK h2 i id k (by simpa using hl);refine⟨?_,this.2⟩;rw[look_cons,if_neg (by omega),show s+(i+1)=s+1+i by omega];exact this.1
    ·cases h
  ·cases h
end
end Go.SL

namespace Go.SL
open Go.RowKit
structure Out where
 ren:List (Nat×Nat)
 outs:List Nat
 c:Nat
def Out.id (o:Out) (j:Nat):Nat:=match o.ren[j]? with|some p=>p.1|none=>j+o.c
def Out.k (o:Out) (j k:Nat):Nat:=match o.ren[j]? with|some _=>o.outs.getD j 0|none=>k
def qIJ (o:Out):C->C
 | .bptr j k l=> .bptr (o.id j) (o.k j k) l
 |c=>c
def C.out (o:Out):C->C
 | .own j k sz len=> .own (o.id j) (o.k j k) sz len
 | .sub j k sz off len=> .sub (o.id j) (o.k j k) sz off len
 | .bptr j k l=> .bptr (o.id j) (o.k j k) l
 | .rptr j k sz i l=> .rptr (o.id j) (o.k j k) sz i l
 | .fn g caps=> .fn g (caps.map (qIJ o))
 | .yl R b ts caps=> .yl R b ts (caps.map (qIJ o))
 |x=>x
def V1.out (o:Out):V1->V1
 | .one x=> .one (x.out o)
 | .agg cs=> .agg (cs.map (C.out o))
def V.out (o:Out):V->V
 | .v x=> .v (x.out o)
 | .tup xs=> .tup (xs.map (V1.out o))
 |x=>x
def O.out (o:Out):O->O
 | .box e cs=> .box e (cs.map (C.out o))
 |x=>x
def QU (o:Out) (ob:List (Nat×(Nat×O))):List (Nat×(Nat×O)):=ob.map λp=>(o.id p.1,(o.k p.1 p.2.1,p.2.2.out o))
def KH (o:Out) (m:Nat) (ob:List (Nat×(Nat×O))):List (Nat×Nat):=(ob.filter λp=>Nat.ble m p.1).map λp=>(o.id p.1,o.k p.1 p.2.1)
def MS (ob:List (Nat×(Nat×O))) (j k:Nat):Bool:=match look j ob with|some (k',_)=>Nat.beq k k'|none=>false
def qCp (ob:List (Nat×(Nat×O))):C->Bool
 | .bptr j k _=>MS ob j k
 |_=>true
def C.closed (ob:List (Nat×(Nat×O))):C->Bool
 | .own j k _ _=>MS ob j k
 | .sub j k _ _ _=>MS ob j k
 | .bptr j k _=>MS ob j k
 | .rptr j k _ _ _=>MS ob j k
 | .fn _ caps=>caps.all (qCp ob)
 | .yl _ _ _ caps=>caps.all (qCp ob)
 |_=>true
def V1.closed (ob:List (Nat×(Nat×O))):V1->Bool
 | .one c=>c.closed ob
 | .agg cs=>cs.all (C.closed ob)
def V.closed (ob:List (Nat×(Nat×O))):V->Bool
 | .v x=>x.closed ob
 | .tup xs=>xs.all (V1.closed ob)
 |_=>true
def O.closed (ob:List (Nat×(Nat×O))):O->Bool
 | .box _ cs=>cs.all (C.closed ob)
 |_=>true
def qD3 :C->Bool
 | .lst _ _| .lptr _| .aptr _ _ _=>false
 |_=>true
def C.noLst :C->Bool
 | .lst _ _| .lptr _| .aptr _ _ _=>false
 | .fn _ caps=>caps.all qD3
 | .yl _ _ _ caps=>caps.all qD3
 |_=>true
def V1.noLst :V1->Bool
 | .one c=>c.noLst
 | .agg cs=>cs.all C.noLst
def V.noLst :V->Bool
 | .v x=>x.noLst
 | .tup xs=>xs.all V1.noLst
 |_=>true
def O.noLst :O->Prop
 | .box _ cs=>cs.all C.noLst=true
 | .row _ _ n f=>∀i,i<n->(f i).all C.noLst=true
 | .lp _ _ _ _=>True
def GT (ob:List (Nat×(Nat×O))):Prop:=∀i k o,look i ob=some (k,o)->o.noLst
def Out.ok (o:Out) (m:Nat) (ob:List (Nat×(Nat×O))):Bool:=
 RF (o.ren.length+o.c) o.ren&&(Nat.beq o.outs.length o.ren.length&&(Nat.ble m o.ren.length&&(((List.range o.ren.length).all λi=>(look i ob).isSome)&&((List.range m).all λi=>Nat.beq (o.outs.getD i 0) ((o.ren.getD i (0,0)).2)))))
section
variable {K :Ctx} {M R:Mem} {st:St} {a:Act} {w w':World} {o:Out} {m:Nat} {ob:List (Nat×(Nat×O))}
def Out.back (o:Out) (R:Mem) (y:Nat):Option Nat:=
 match rid y o.ren with
 |some i=>if R.ver i≠none then some i else none
 |none=>if o.ren.length+o.c<=y/\R.ver (y-o.c)≠none then some (y-o.c) else none
def Mem.after (M R:Mem) (o:Out):Mem:=
 {ver:=λy=>match o.back R y with|some j=>(R.ver j).map (o.k j)|none=>M.ver y,blk:=λy=>match o.back R y with|some j=>R.blk j|none=>M.blk y,A:=M.A}
theorem qJ3 (hr:RF (o.ren.length+o.c) o.ren=true) {j k:Nat} (hj:R.ver j=some k):o.back R (o.id j)=some j:=by
 unfold Out.back Out.id;cases hp:o.ren[j]? with
 |some p=>
  obtain⟨y,kk⟩:=p;simp only[IY hr j y kk hp,hj,ne_eq,reduceCtorEq,not_false_eq_true,if_true]
 |none=>
  have hlen:o.ren.length<=j:=by simpa using hp
  simp only;have hn:rid (j+o.c) o.ren=none:=by
   cases hh:rid (j+o.c) o.ren with
   |none=>rfl
   |some i=>
    obtain⟨k',hk'⟩:=qA9 hh;have:=qIv hr i _ hk';simp only at this;omega
  rw[hn];simp only[Nat.add_sub_cancel,hj,ne_eq,reduceCtorEq,not_false_eq_true,and_true];rw[if_pos (by omega)]
theorem IR {y j:Nat} (hr:RF (o.ren.length+o.c) o.ren=true) (h:o.back R y=some j):o.id j=y/\∃k,R.ver j=some k:=by
 unfold Out.back at h;split at h
 ·rename_i i hi;split at h
  ·rename_i hv;cases h;obtain⟨k,hk⟩:=qA9 hi;exact⟨by simp[Out.id,hk],kQ.1 hv⟩
  ·cases h
 ·rename_i hn;split at h
  ·rename_i hv;cases h;refine⟨?_,kQ.1 hv.2⟩;have:o.ren[y-o.c]? =none:=by rw[List.getElem?_eq_none_iff];omega
   simp only[Out.id,this];omega
  ·cases h
theorem qHB (hr:RF (o.ren.length+o.c) o.ren=true) {j k:Nat} (hj:R.ver j=some k):(M.after R o).ver (o.id j)=some (o.k j k)/\(M.after R o).blk (o.id j)=R.blk j:=by
 simp[Mem.after,qJ3 hr hj,hj]
theorem qFU {y:Nat} {kx:Nat×O}:∀{ob:List (Nat×(Nat×O))},look y (QU o ob)=some kx->∃j k x,look j ob=some (k,x)/\y=o.id j/\kx=(o.k j k,x.out o)
 |[],h=>by cases h
 |(j,(k,x))::r,h=>by
  have h':look y ((o.id j,(o.k j k,x.out o))::QU o r)=some kx:=h;rw[look_cons] at h';split at h'
  ·rename_i hy;cases h';exact⟨j,k,x,by rw[look_cons,if_pos rfl],hy.symm,rfl⟩
  ·rename_i hne;obtain⟨j',k',x',e1,e2,e3⟩:=qFU (ob:=r) h';refine⟨j',k',x',?_,e2,e3⟩;rw[look_cons,if_neg]
   ·exact e1
   ·intro he;subst he;exact hne e2.symm
theorem qBc {j:Nat} (h:hits ob j):hits (QU o ob) (o.id j):=by
 unfold hits at h⊢
 induction ob with
 |nil=>cases h
 |cons p r ih=>
  obtain⟨i,k,x⟩:=p;show(look (o.id j) ((o.id i,(o.k i k,x.out o))::QU o r)).isSome=true;rw[look_cons];split
  ·rfl
  ·rename_i hne;refine ih ?_;rw[look_cons] at h;split at h
   ·rename_i he;exact absurd (by rw[he]) hne
   ·exact h
theorem MG {x:C} (hM:x.noLst=true\/∀b,R.imm b->b<w'.heap.size->(M.after R o).imm b) {v:Value} (h:IRep w' R.imm x v):IRep w' (M.after R o).imm x v:=by
 rcases hM with hM|hM
 ·cases h with
  |val v hv=>exact .val v hv
  |emp a=>exact .emp a
  |_=>cases hM
 ·exact h.move (λ_ _ _=>rfl) hM
theorem AT (hr:RF (o.ren.length+o.c) o.ren=true) (hob:∀i k x,look i ob=some (k,x)->R.ver i=some k) {j k:Nat} (hc:MS ob j k=true):R.ver j=some k/\(M.after R o).blk (o.id j)=R.blk j:=by
 unfold MS at hc;split at hc
 ·rename_i k' x hl;have hk:=kf hc;subst hk;have:=hob j k x hl;exact⟨this,(qHB hr this).2⟩
 ·cases hc
theorem qJZ (hr:RF (o.ren.length+o.c) o.ren=true) (hob:∀i k x,look i ob=some (k,x)->R.ver i=some k) {x:C} (hM:qD3 x=true\/∀b,R.imm b->b<w'.heap.size->(M.after R o).imm b) {v:Value} (hc:qCp ob x=true) (h:yS w' R x v):yS w' (M.after R o) (qIJ o x) v:=by
 have im:IRep w' R.imm x v->IRep w' (M.after R o).imm x v:=λh=>by
  rcases hM with hM|hM
  ·cases h with
   |val v hv=>exact .val v hv
   |emp a=>exact .emp a
   |_=>cases hM
  ·exact h.move (λ_ _ _=>rfl) hM
 cases x with
 |bptr j k l=>
  obtain⟨k1,k2⟩:=AT (M:=M) hr hob hc;obtain⟨b,h1,hx⟩:=h;exact⟨b,h1,λ_=>by rw[k2];exact hx k1⟩
 |_=>exact im h
theorem qJn (hr:RF (o.ren.length+o.c) o.ren=true) (hob:∀i k x,look i ob=some (k,x)->R.ver i=some k) {x:C} (hM:x.noLst=true\/∀b,R.imm b->b<w'.heap.size->(M.after R o).imm b) {v:Value} (hc:x.closed ob=true) (h:CRep w' R x v):CRep w' (M.after R o) (x.out o) v:=by
 cases x with
 |own id k sz len=>
  obtain⟨k1,k2⟩:=AT (M:=M) hr hob hc;rcases h with h0|⟨b,cap,h1,h2,h3,hx⟩
  ·exact .inl h0
  ·exact .inr ⟨b,cap,h1,h2,h3,λ_=>by rw[k2];exact hx k1⟩
 |sub id k sz off len=>
  obtain⟨k1,k2⟩:=AT (M:=M) hr hob hc;rcases h with h0|⟨b,cap,h1,h2,h3,hx⟩
  ·exact .inl h0
  ·exact .inr ⟨b,cap,h1,h2,h3,λ_=>by rw[k2];exact hx k1⟩
 |bptr id k j=>
  obtain⟨k1,k2⟩:=AT (M:=M) hr hob hc;obtain⟨b,h1,hx⟩:=h;exact⟨b,h1,λ_=>by rw[k2];exact hx k1⟩
 |rptr id k sz i j=>
  obtain⟨k1,k2⟩:=AT (M:=M) hr hob hc;obtain⟨b,h1,hx⟩:=h;exact⟨b,h1,λ_=>by rw[k2];exact hx k1⟩
 |fn g caps=>
  obtain⟨vs,hv,hs,hx⟩:=h;refine⟨vs,hv,by simpa using hs,λj hj=>?_⟩;have hj':j<caps.length:=by simpa using hj
  have:=qJZ (M:=M) (o:=o) hr hob (hM.imp (λh=>kw.1 h _ (QK (d:= .unk) hj')) (λh=>h)) (kw.1 hc _ (QK (d:= .unk) hj')) (hx j hj');simpa only[ke,kD,ku hj',kI,kA] using this
 |yl R b ts caps=>
  refine⟨h.1,λj hj=>?_⟩;have hj':j<caps.length:=by simpa using hj
  have:=qJZ (M:=M) (o:=o) hr hob (hM.imp (λh=>kw.1 h _ (QK (d:= .unk) hj')) (λh=>h)) (kw.1 hc _ (QK (d:= .unk) hj')) (h.2 j hj');simpa only[ke,kD,ku hj',kI,kA] using this
 |unk=>exact h
 |val v=>exact MG hM h
 |emp=>exact MG hM h
 |lst n f=>exact MG hM h
 |lptr cs=>exact MG hM h
 |aptr n sz f=>exact MG hM h
theorem qHu (hr:RF (o.ren.length+o.c) o.ren=true) (hob:∀i k x,look i ob=some (k,x)->R.ver i=some k) {cs:List C} (hM:cs.all C.noLst=true\/∀b,R.imm b->b<w'.heap.size->(M.after R o).imm b) {vs:Array Value} (hc:cs.all (C.closed ob)=true) (h:jT w' R cs vs):jT w' (M.after R o) (cs.map (C.out o)) vs:=by
 refine⟨by simpa using h.1,λj hj=>?_⟩;have hj':j<cs.length:=by simpa using hj
 have:=qJn (M:=M) (o:=o) hr hob (x:=cs.getD j .unk) (hM.imp (λhm=>kw.1 hm _ (QK hj')) id) (kw.1 hc _ (QK hj')) (h.2 j hj');simpa only[ke,kD,ku hj',kI,kA] using this
theorem qHq (hr:RF (o.ren.length+o.c) o.ren=true) (hob:∀i k x,look i ob=some (k,x)->R.ver i=some k) {x:V1} (hM:x.noLst=true\/∀b,R.imm b->b<w'.heap.size->(M.after R o).imm b) {v:Value} (hc:x.closed ob=true) (h:zA w' R x v):zA w' (M.after R o) (x.out o) v:=by
 cases x with
 |one x=>exact qJn hr hob hM hc h
 |agg cs=>obtain⟨vs,hv,hh⟩:=h;exact⟨vs,hv,qHu hr hob hM hc hh⟩
theorem qMt (hr:RF (o.ren.length+o.c) o.ren=true) (hob:∀i k x,look i ob=some (k,x)->R.ver i=some k) {x:V} (hM:x.noLst=true\/∀b,R.imm b->b<w'.heap.size->(M.after R o).imm b) {v:Value} (hc:x.closed ob=true) (h:VRep w' R x v):VRep w' (M.after R o) (x.out o) v:=by
 cases x with
 |any=>trivial
 |undef=>exact h
 |v x=>exact qHq hr hob hM hc h
 |tup xs=>
  obtain⟨vs,hv,hl,hh⟩:=h;refine⟨vs,hv,by simpa using hl,λj hj=>?_⟩;have hj':j<xs.length:=by simpa using hj
  have:=qHq (M:=M) (o:=o) hr hob (x:=xs.getD j (.one .unk)) (hM.imp (λhm=>kw.1 hm _ (QK hj')) id) (kw.1 hc _ (QK hj')) (hh j hj');simpa only[ke,kD,ku hj',kI,kA] using this
theorem qMI (hr:RF (o.ren.length+o.c) o.ren=true) (hob:∀i k x,look i ob=some (k,x)->R.ver i=some k) {x:O} (hM:x.noLst\/∀b,R.imm b->b<w'.heap.size->(M.after R o).imm b) {i k:Nat} (hc:x.closed ob=true) (h:ORep w' R i k x):ORep w' (M.after R o) (o.id i) (o.k i k) (x.out o):=by
 have hj:=qHB (M:=M) hr h.ver;cases x with
 |box e cs=>
  obtain⟨_,b,arr,hb,hh,hcr⟩:=h;exact⟨hj.1,b,arr,by rw[hj.2];exact hb,hh,qHu hr hob hM hc hcr⟩
 |row e sz n f=>
  refine⟨hj.1,?_⟩;rcases h.2 with⟨h0,h1⟩|⟨b,arr,hb,hh,hn,hcr⟩
  ·exact .inl ⟨by rw[hj.2];exact h0,h1⟩
  ·refine .inr ⟨b,arr,by rw[hj.2];exact hb,hh,hn,λq hq=>⟨(hcr q hq).1,λt ht=>MG ?_ ((hcr q hq).2 t ht)⟩⟩;exact hM.imp (λhm'=>kw.1 (hm' q hq) _ (QK (by rw[(hcr q hq).1];exact ht))) id
 |lp R b s j=>exact⟨hj.1,by rw[hj.2];exact h.2.1,h.2.2⟩
end
def UR :Op->Option (Operand×List Operand)
 | .call {callee:= .value f,args,.. }=>some (f,args.toList)
 |_=>none
def qJj (gl:List (Nat×C)) (st:St) (f:Operand):Option (FuncId×List V1):=
 match op1 gl st f with
 |some (.one (.fn g caps))=>some (g,caps.map V1.one)
 |_=>none
theorem wp_call {P:Program} {o:Oper} {fo:Operand} {args:List Operand} {a:Act} {w:World} {Kn:Act→World→Prop} {Q:Exit→Act→World→Prop} (ho:UR o.op=some (fo,args)) {f:FuncId} {cap:Array Value} (hv:a.eval fo= .func (.func f) #[] cap) {fn:Func} (hf:P.funcs[f]? =some fn) (hbody:fn.body.isSome=true) (hname:(fn.name== "runtime.NumGoroutine")=false)
  (h:Calls P f ((args.map a.eval).toArray++cap) w λe w'=>∃v,e= .returned v/\Kn (a.put o.dst v) w'):o.wp P a w Kn Q:=by
 unfold UR at ho;split at ho
 ·rename_i f' args' ats heq;cases ho;unfold Oper.wp;have hrun:(execOp a.eval o).run P w= .ok (.enter f (args'.map a.eval++cap)) w:=by
   unfold execOp;rw[heq];obtain⟨c,hc⟩:=kJ.1 hbody;have hn:¬fn.name= "runtime.NumGoroutine" :=by simpa using hname
   simp[resolve,Deferred.ofValue,hv,invoke,callFunc,hf,hn,hc]
  rw[hrun];have hargs:(args'.toList.map a.eval).toArray=args'.map a.eval:=by apply ut.1;simp
  rw[hargs] at h;refine Calls.mono h ?_;rintro e w' ⟨v,rfl,hk⟩;exact hk
 ·cases ho
def qAE (gl:List (Nat×C)) (st:St) (ren:List (Nat×Nat)) (op:Op):Option (FuncId×List V1×Option Prop×Bool×List (Nat×(Nat×O))):=
 match UR op with
 |some (fo,args)=>(match qJj gl st fo,opsV gl st args,KU st ren 0 ren with
  |some (f,caps),some ys,some oi=>(match TM st ren (ys++caps) with|some (xs,p,b)=>some (f,xs,p,b,oi)|none=>none)
  |_,_,_=>none)
 |none=>none
def fnOk (P:Program) (f:FuncId):Bool:=match P.funcs[f]? with|some fn=>fn.body.isSome&&!(fn.name== "runtime.NumGoroutine")|none=>false
theorem qHr {n:Nat} {p:Nat->Bool} (h:(List.range n).all p=true) {i:Nat} (hi:i<n):p i=true:=kw.1 h i (gb.2 hi)
theorem qJU {gl:List (Nat×C)} {st:St} {ren:List (Nat×Nat)} {op:Op} {f:FuncId} {xs:List V1} {p:Option Prop} {b:Bool} {oi:List (Nat×(Nat×O))} (h:qAE gl st ren op=some (f,xs,p,b,oi)):
  ∃fo args caps ys,UR op=some (fo,args)/\op1 gl st fo=some (.one (.fn f caps))/\opsV gl st args=some ys/\KU st ren 0 ren=some oi/\TM st ren (ys++caps.map V1.one)=some (xs,p,b):=by
 unfold qAE at h;split at h
 ·rename_i fo args hco;split at h
  ·rename_i f' caps ys oi' hce hys hoi;split at h
   ·rename_i xs2 p2 b2 hia;cases h;unfold qJj at hce;split at hce
    ·rename_i g caps0 hfo;cases hce;exact⟨fo,args,caps0,ys,hco,hfo,hys,hoi,hia⟩
    ·cases hce
   ·cases h
  ·cases h
 ·cases h
theorem OL {K:Ctx} {M:Mem} {st:St} {a:Act} {w:World} (h:Sim K M st a w) {ren:List (Nat×Nat)} {outs:List Nat} {c m:Nat} {ys xs':List V1} {p:Option Prop} {b:Bool} {oi:List (Nat×(Nat×O))} {x:V} {ob:List (Nat×(Nat×O))} {vals:Array Value}
  (hoi:KU st ren 0 ren=some oi) (hia:TM st ren ys=some (xs',p,b)) (hp:oP p) (hsz:vals.size=ys.length) (hvals:∀j,j<ys.length->zA w M (ys.getD j (.one .unk)) (vals.getD j undef))
  (hok:(Out.ok ⟨ren,outs,c⟩ m ob&&(x.closed ob&&ob.all (λq=>q.2.2.closed ob)))=true) (hb:b=true\/(x.noLst=true/\GT ob)):
  ∃Mi:Mem,DP K.globs w Mi.A/\InOk w Mi ren.length oi/\qCr w Mi xs' vals/\∀(v:Value) (R:Mem) (w':World),UM (drOf K.globs) Mi.owns w w'->VG w w'->qBn w w' Mi R m x ob v->
   ∃M',Ext (drOf K.globs) M w M' w' (hits (QU ⟨ren,outs,c⟩ ob)) (zG (KH ⟨ren,outs,c⟩ m ob))/\VRep w' M' (x.out ⟨ren,outs,c⟩) v/\(∀y k q,look y (QU ⟨ren,outs,c⟩ ob)=some (k,q)->ORep w' M' y k q)/\(∀y,M'.ver y≠none->M.ver y≠none\/hits (QU ⟨ren,outs,c⟩ ob) y):=by
 rw[kn,kn] at hok;obtain⟨hout,hcl,hcl2⟩:=hok;simp only[Out.ok,kn] at hout;obtain⟨hr,hol,hmn,hall,hsame⟩:=hout;have hmn':=kR hmn;have hol':=kf hol;have hren:∀(i id k:Nat),ren[i]? =some (id,k)->M.ver id=some k:=λi id k hi=>by
  obtain⟨_,x,hx⟩:=CK hoi i id k hi;exact(h.objs id k x hx).ver
 -- the callee's area
 have hbelow:∀b,M.imm b->b<w.heap.size\/True:=λb _=> .inr trivial;obtain⟨A,views,hA,hvw,hAimm⟩:∃(A:Nat->Prop) (views:Bool),Area M st ren A views/\(b=true\/views=true)/\(b=true->∀y,A y->M.imm y):=by
  cases b with
  |true=>exact⟨M.imm,false,⟨λb hb=>hb,λi q b hq hbk hb=>hb.2 ⟨q.1,q.2,hren i q.1 q.2 hq,hbk⟩,λhv=>by cases hv⟩,.inl rfl,λ_ y hy=>hy⟩
  |false=>
   refine⟨λb=>¬∃(i:Nat) (q:Nat×Nat),ren[i]? =some q/\M.blk q.1=some b,true,⟨λb hb ⟨i,q,hq,hbk⟩=>hb.2 ⟨q.1,q.2,hren i q.1 q.2 hq,hbk⟩,λi q b hq hbk hn=>hn ⟨i,q,hq,hbk⟩,λ_ id k b hid hv hbk ⟨i,q,hq,hqb⟩=>?_⟩,.inr rfl,λhb=>by cases hb⟩;have:=h.inj id q.1 k q.2 b hv (hren i q.1 q.2 hq) hbk hqb;exact qIx hid i q.2 (by rw[this];exact hq)
 have hxr:=qDJ h hA hren hia hp hvw;have hargs:qCr w (M.inn ren A) xs' vals:=
  ⟨by rw[hxr.1];exact hsz,λj hj=>hxr.2 j _ (by rw[<-hxr.1];exact hj) (hvals j (by rw[<-hxr.1];exact hj))⟩
 have hgl:DP K.globs w (M.inn ren A).A:=λg c hg=>(h.globR hg).move (λ_ _ _=>rfl) λb hb _=>hA.imm b hb;have hinok:InOk w (M.inn ren A) ren.length oi:=by
  refine⟨λi j k l b hi hj hbi hbj=>?_,λi k b hv hbk=>?_,λi hi=>?_,λi k o ho=>?_⟩
  ·obtain⟨_,p1,hp1,e1⟩:=FT hi;obtain⟨_,p2,hp2,e2⟩:=FT hj;rw[e1] at hbi;rw[e2] at hbj;have:=h.inj p1.1 p2.1 p1.2 p2.2 b (hren i _ _ hp1) (hren j _ _ hp2) hbi hbj;have h1:=IY hr i p1.1 p1.2 hp1;have h2:=IY hr j p2.1 p2.2 hp2;rw[this,h2] at h1;exact(kF h1).symm
  ·obtain⟨_,p1,hp1,e1⟩:=FT hv;rw[e1] at hbk;exact⟨(uf.1 hp1).1,(h.rng p1.1 p1.2 b (hren i _ _ hp1) hbk).2,hA.out i p1 b hp1 hbk⟩
  ·obtain⟨k,hk⟩:=kQ.1 hi;obtain⟨_,p1,hp1,_⟩:=FT hk;have:=(CK hoi i p1.1 p1.2 hp1).1;rw[kv] at this;exact this
  ·obtain⟨id,k',o',_,e2,rfl,e4,e5⟩:=qCf hoi i k o ho;rw[uv] at e2;exact qMj h hA hren e5 e2 (h.objs id k' o' e4)
 refine⟨M.inn ren A,hgl,hinok,hargs,λv R w' hbel hshape hret=>?_⟩;have hob:∀i k x,look i ob=some (k,x)->R.ver i=some k:=λi k x hl=>(hret.objs i k x hl).ver;have hin0:∀i,i<ren.length->∃k x,look i ob=some (k,x):=λi hi=>by
  obtain⟨⟨k,x⟩,hx⟩:=kJ.1 (qHr hall hi);exact⟨k,x,hx⟩
 have hout:∀i,i<m->outs.getD i 0=(ren.getD i (0,0)).2:=λi hi=>kf (qHr hsame hi);have hMimm:(∀y,A y->M.imm y)->∀y,R.imm y->y<w'.heap.size->(M.after R ⟨ren,outs,c⟩).imm y:=λhAi y hy _=>by
  have hm:M.A y/\(w.heap.size<=y\/M.imm y):=by
   rcases(hret.area y).1 hy.1 with h1|h1
   ·have:=hAi y h1;exact⟨this.1,.inr this⟩
   ·exact⟨(h.area y).2 (.inr (uC h.below.size h1)),.inl h1⟩
  refine⟨hm.1,fun⟨i,k,hv,hbk⟩=>?_⟩;simp only[Mem.after] at hv hbk;split at hv
  ·rename_i j hj;rw[hj] at hbk;obtain⟨_,k',hk'⟩:=IR hr hj;exact hy.2 ⟨j,k',hk',hbk⟩
  ·rename_i hj;rw[hj] at hbk;rcases hm.2 with h1|h1
   ·have:=(h.rng i k y hv hbk).2;omega
   ·exact h1.2 ⟨i,k,hv,hbk⟩
 have hM:∀{q:Prop},(x.noLst=true/\GT ob->q)->q\/∀y,R.imm y->y<w'.heap.size->(M.after R ⟨ren,outs,c⟩).imm y:=fun{q} hq=>by
  rcases hb with hb|hb
  ·exact .inr (hMimm (hAimm hb))
  ·exact .inl (hq hb)
 -- which is which
 have cases_ver:∀y k,(M.after R ⟨ren,outs,c⟩).ver y=some k->(∃j k',y=Out.id ⟨ren,outs,c⟩ j/\R.ver j=some k'/\k=Out.k ⟨ren,outs,c⟩ j k'/\(M.after R ⟨ren,outs,c⟩).blk y=R.blk j)\/(M.ver y=some k/\(M.after R ⟨ren,outs,c⟩).blk y=M.blk y/\Out.back ⟨ren,outs,c⟩ R y=none):=λy k hv=>by
  cases hj:Out.back ⟨ren,outs,c⟩ R y with
  |some j=>
   left;obtain⟨h1,k',hk'⟩:=IR hr hj;simp only[Mem.after,hj,hk',kI,ue] at hv⊢;exact⟨j,k',h1.symm,hk',hv.symm,rfl⟩
  |none=>
   right;simp only[Mem.after,hj] at hv;exact⟨hv,by simp only[Mem.after,hj],rfl⟩
 have idlt:∀j,j<ren.length->∃kj,ren[j]? =some (Out.id ⟨ren,outs,c⟩ j,kj)/\(j<m->outs.getD j 0=kj):=λj hj=>by
  refine⟨(ren[j]).2,?_,λhjm=>?_⟩
  ·simp[Out.id,ku hj]
  ·rw[hout j hjm,ke,ku hj];rfl
 have klt:∀j k',j<ren.length->Out.k ⟨ren,outs,c⟩ j k'=outs.getD j 0:=λj k' hj=>by simp[Out.k,ku hj]
 have hitR:∀j k',R.ver j=some k'->∃x,look j ob=some (k',x):=λj k' hv=>by
  obtain⟨⟨k2,x⟩,hl⟩:=kJ.1 (hret.only j (by rw[hv];simp));have:=hob j k2 x hl;rw[hv] at this;cases this;exact⟨x,hl⟩
 have nvmem:∀j k',R.ver j=some k'->m<=j->zG (KH ⟨ren,outs,c⟩ m ob) (Out.id ⟨ren,outs,c⟩ j) (Out.k ⟨ren,outs,c⟩ j k'):=λj k' hv hm=>by
  obtain⟨x,hl⟩:=hitR j k' hv;exact uX.2 ⟨(j,(k',x)),List.mem_filter.2 ⟨look_mem hl,Nat.ble_eq_true_of_le hm⟩,rfl⟩
 have old:∀j k',R.ver j=some k'->j<m->M.ver (Out.id ⟨ren,outs,c⟩ j)=some (Out.k ⟨ren,outs,c⟩ j k')/\R.blk j=M.blk (Out.id ⟨ren,outs,c⟩ j):=λj k' hv hjm=>by
  obtain⟨kj,h1,h2⟩:=idlt j (by omega);have hv0:=hren j _ _ h1;refine⟨by rw[hv0,klt j k' (by omega),h2 hjm],?_⟩;have:=hret.fix j 0 k' hjm (HR h1).1 hv;rw[this,(HR h1).2]
 have hext:Ext (drOf K.globs) M w (M.after R ⟨ren,outs,c⟩) w' (hits (QU ⟨ren,outs,c⟩ ob)) (zG (KH ⟨ren,outs,c⟩ m ob)):=by
  refine⟨λy k hv=>?_,λy k hv hw=>?_,λy k hv hn=>?_,λy k bb hn hv hbk=>?_,λi j k l bb hi hj hbi hbj=>?_,λy k bb hv hbk=>?_,λbb hlt hnw=>?_,hshape,hbel.size,rfl,hbel.os,hbel.tape,hbel.output,hbel.drawn⟩
  ·rcases cases_ver y k hv with⟨j,k',rfl,hj,rfl,_⟩|⟨hm,_⟩
   ·by_cases hjm:m<=j
    ·exact .inl (nvmem j k' hj hjm)
    ·exact .inr (old j k' hj (by omega)).1
   ·exact .inr hm
  ·cases hj:Out.back ⟨ren,outs,c⟩ R y with
   |some j=>
    exfalso;obtain⟨h1,k',hk'⟩:=IR hr hj;refine hw ?_;have:=qBc (o:=⟨ren,outs,c⟩) (hret.only j (by rw[hk'];simp));rw[h1] at this;exact this
   |none=>simp only[Mem.after,hj];exact hv
  ·rcases cases_ver y k hv with⟨j,k',rfl,hj,rfl,hbj⟩|⟨_,hm,_⟩
   ·by_cases hjm:m<=j
    ·exact absurd (nvmem j k' hj hjm) hn
    ·rw[hbj];exact(old j k' hj (by omega)).2
   ·exact hm
  ·rcases cases_ver y k hv with⟨j,k',rfl,hj,rfl,hbj⟩|⟨hm,hbm,_⟩
   ·rw[hbj] at hbk;rcases(hret.rng j k' bb hj hbk).1 with h1|⟨⟨k2,hk2⟩,h2⟩
    ·exact .inl h1
    ·obtain⟨_,p1,hp1,e1⟩:=FT hk2;rw[e1] at h2;have:Out.id ⟨ren,outs,c⟩ j=p1.1:=by simp[Out.id,hp1]
     rw[this];exact .inr ⟨p1.2,hren j _ _ hp1,h2⟩
   ·exact .inr ⟨k,hm,by rw[<-hbm];exact hbk⟩
  ·have mix:∀j k' bb,R.ver j=some k'->R.blk j=some bb->∀y l,M.ver y=some l->M.blk y=some bb->Out.back ⟨ren,outs,c⟩ R y=none->False:=λj k' bb hj hbj y l hv hbk hn=>by
    rcases(hret.rng j k' bb hj hbj).1 with h1|⟨⟨k2,hk2⟩,h2⟩
    ·have:=(h.rng y l bb hv hbk).2;omega
    ·obtain⟨_,p1,hp1,e1⟩:=FT hk2;rw[e1] at h2;have:=h.inj y p1.1 l p1.2 bb hv (hren j _ _ hp1) hbk h2;have hb2:=qJ3 (o:=⟨ren,outs,c⟩) hr hj;rw[show Out.id ⟨ren,outs,c⟩ j=y by simp[Out.id,hp1,this],hn] at hb2;cases hb2
   rcases cases_ver i k hi with⟨i',k1,rfl,hi',_,hbi'⟩|⟨hmi,hbmi,hni⟩<;>rcases cases_ver j l hj with⟨j',k2,rfl,hj',_,hbj'⟩|⟨hmj,hbmj,hnj⟩
   ·rw[hbi'] at hbi;rw[hbj'] at hbj;rw[hret.inj i' j' k1 k2 bb hi' hj' hbi hbj]
   ·rw[hbi'] at hbi;rw[hbmj] at hbj;exact(mix i' k1 bb hi' hbi j l hmj hbj hnj).elim
   ·rw[hbmi] at hbi;rw[hbj'] at hbj;exact(mix j' k2 bb hj' hbj i k hmi hbi hni).elim
   ·rw[hbmi] at hbi;rw[hbmj] at hbj;exact h.inj i j k l bb hmi hmj hbi hbj
  ·rcases cases_ver y k hv with⟨j,k',rfl,hj,_,hbj⟩|⟨hm,hbm,_⟩
   ·rw[hbj] at hbk;exact(hret.rng j k' bb hj hbk).2
   ·rw[hbm] at hbk;exact Nat.lt_of_lt_of_le (h.rng y k bb hm hbk).2 hbel.size
  ·refine hbel.block bb hlt fun⟨i,k,hv,hbk⟩=>?_;obtain⟨_,p1,hp1,e1⟩:=FT hv;rw[e1] at hbk;have hi:i<ren.length:=(uf.1 hp1).1;obtain⟨k2,x2,hx2⟩:=hin0 i hi;have hh:=qBc (o:=⟨ren,outs,c⟩) (show hits ob i by unfold hits;rw[hx2];rfl);rw[show Out.id ⟨ren,outs,c⟩ i=p1.1 by simp[Out.id,hp1]] at hh;exact hnw p1.1 p1.2 hh (hren i _ _ hp1) hbk
 refine⟨M.after R ⟨ren,outs,c⟩,hext,qMt hr hob (hM λhh=>hh.1) hcl hret.val,λy k q hl=>?_,λy hy=>?_⟩
 ·obtain⟨j,k',x',e1,rfl,e3⟩:=qFU hl;cases e3;exact qMI hr hob (hM λhh=>hh.2 _ _ _ e1) (kw.1 hcl2 _ (look_mem e1)) (hret.objs j k' x' e1)
 ·cases hj:Out.back ⟨ren,outs,c⟩ R y with
  |some j=>
   right;obtain⟨h1,k',hk'⟩:=IR hr hj;have:=qBc (o:=⟨ren,outs,c⟩) (hret.only j (by rw[hk'];simp));rw[h1] at this;exact this
  |none=>
   left;simpa only[Mem.after,hj] using hy
theorem qEc {w:World} {M:Mem} {ys:List V1} {caps0:List C} {l:List Value} {cap:Array Value} (hyl:l.length=ys.length) (hyr:∀j,j<ys.length->zA w M (ys.getD j (.one .unk)) (l.getD j undef)) (hcr:∀j,j<caps0.length->yS w M (caps0.getD j .unk) (cap.getD j undef)):
  ∀j,j<(ys++caps0.map V1.one).length->zA w M ((ys++caps0.map V1.one).getD j (.one .unk)) ((l.toArray++cap).getD j undef):=λj hj=>by
 by_cases hj1:j<ys.length
 ·have h1:=hyr j hj1;have e1:(ys++caps0.map V1.one).getD j (.one .unk)=ys.getD j (.one .unk):=by simp[ke,kz hj1]
  have e2:(l.toArray++cap).getD j undef=l.getD j undef:=by
   simp only[kq,ke];rw[uw (by simp;omega)];simp
  rw[e1,e2];exact h1
 ·have hj2:j-ys.length<caps0.length:=by simp at hj;omega
  have h1:=hcr (j-ys.length) hj2;have e1:(ys++caps0.map V1.one).getD j (.one .unk)= .one (caps0.getD (j-ys.length) .unk):=by
   simp only[ke];rw[ky (by omega),kD,ku hj2];rfl
  have e2:(l.toArray++cap).getD j undef=cap.getD (j-ys.length) undef:=by
   simp only[kq];rw[uP (by simp;omega)];simp[hyl]
  rw[e1,e2];show CRep w M _ _;generalize caps0.getD (j-ys.length) .unk=cc at h1;generalize cap.getD (j-ys.length) undef=vv at h1;cases cc with
  |bptr id k l=>exact h1
  |own id k sz len=>cases h1
  |sub id k sz off len=>cases h1
  |rptr id k sz i j=>cases h1
  |fn g caps=>cases h1
  |yl R b ts caps=>cases h1
  |unk=>cases h1
  |val v=>exact h1
  |emp=>exact h1
  |lst n f=>exact h1
  |lptr cs=>exact h1
  |aptr n sz f=>exact h1
theorem SG {o:Op} {q:Operand×List Operand} (h:UR o=some q):MB o=true:=by
 unfold UR at h;split at h
 ·rfl
 ·cases h
theorem qKW {K:Ctx} {st:St} {op:Oper} {f:FuncId} {ren:List (Nat×Nat)} {outs:List Nat} {c m:Nat} {xs' xs:List V1} {p:Option Prop} {b:Bool} {oi:List (Nat×(Nat×O))} {x:V} {ob:List (Nat×(Nat×O))}
  (hin:qAE K.globs st ren op.op=some (f,xs',p,b,oi)) (hp:oP p) (hxs:xs'=xs) (hct:CtX K.P K.globs f ren.length m xs oi x ob) (hfn:fnOk K.P f=true)
  (hok:(Out.ok ⟨ren,outs,c⟩ m ob&&(x.closed ob&&ob.all (λq=>q.2.2.closed ob)))=true) (hb:b=true\/(x.noLst=true/\GT ob)):
  Step K st op (KH ⟨ren,outs,c⟩ m ob) (QU ⟨ren,outs,c⟩ ob) (x.out ⟨ren,outs,c⟩):=by
 subst hxs;obtain⟨fo,args,caps0,ys,hco,hfo,hys,hoi,hia⟩:=qJU hin;refine ZC (SG hco) ?_;intro M a w h _;obtain⟨cap,hcv,hcs,hcr⟩:=op1_rep h hfo;obtain⟨hyl,hyr⟩:=RB h hys;obtain⟨Mi,hgl,hinok,hargs,hfin⟩:=OL (c:=c) h hoi hia hp (vals:=(args.map a.eval).toArray++cap) (by simp[hyl,hcs]) (qEc (by simp[hyl]) hyr hcr) hok hb;obtain⟨fn,hff,hfn⟩:∃fn,K.P.funcs[f]? =some fn∧(fn.body.isSome&&!(fn.name== "runtime.NumGoroutine"))=true:=by
  unfold fnOk at hfn;split at hfn
  ·rename_i fn hff;exact⟨fn,hff,hfn⟩
  ·cases hfn
 rw[kn] at hfn;refine wp_call hco hcv hff hfn.1 (by simpa using hfn.2) (Calls.mono (hct w Mi _ hgl hinok hargs) ?_);rintro e w' ⟨v,R,rfl,hbel,hshape,hret⟩;obtain⟨M',h1,h2,h3,h4⟩:=hfin v R w' hbel hshape hret;exact⟨v,rfl,v,M',rfl,h1,h2,h3,h4⟩
end Go.SL

namespace Go.SL
open Go.RowKit
def sub (c:Code) (i:Nat):Code:=
 match c with
 | .seq a b=>bif Nat.beq i 0 then a else b
 | .cond _ a b=>bif Nat.beq i 0 then a else b
 | .block _ b=>b
 | .loop b=>b
 | .scope b=>b
 | .rangeFunc _ _ a b=>bif Nat.beq i 0 then a else b
 |_=> .skip
def opsOf :Code->Array Oper
 | .region _ ops _=>ops
 |_=> #[]
def qLL (fn:Func):Code:=match fn.body with|some c=>c|none=> .skip
def ndF (fn:Func):Nat->Nat->Code
 |0,_=>qLL fn
 |k+1,n=>bif Nat.ble n 1 then qLL fn else sub (ndF fn k (n/2)) (n % 2)
def nd (fn:Func) (n:Nat):Code:=ndF fn 400 n
def rg (fn:Func) (n:Nat):Array Oper:=opsOf (nd fn n)
section
variable {K :Ctx} {st:St} {Q:Exit->St->Prop}
theorem R_seq {c:Code} (x y:Code) (hc:c= .seq x y) (h:H K st x (EG Q λst'=>H K st' y Q)):H K st c Q:=hc▸H_seq h
theorem R_cond {c:Code} (o:Operand) (x y:Code) (hc:c= .cond o x y) (b:Bool) (ho:opB st o=some b) (ht:b=true->H K st x Q) (hf:b=false->H K st y Q):H K st c Q:=hc▸qI3 b ho ht hf
theorem R_condT {c:Code} (o:Operand) (x y:Code) (hc:c= .cond o x y) (ho:opB st o=some true) (ht:H K st x Q):H K st c Q:=hc▸qI3 true ho (λ_=>ht) (λh=>by cases h)
theorem R_condF {c:Code} (o:Operand) (x y:Code) (hc:c= .cond o x y) (ho:opB st o=some false) (hf:H K st y Q):H K st c Q:=hc▸qI3 false ho (λh=>by cases h) (λ_=>hf)
theorem R_block {c:Code} (id:Nat) (x:Code) (hc:c= .block id x) (h:H K st x (HJ id Q)):H K st c Q:=hc▸qC6 h
theorem qAg {c:Code} (hc:c= .skip) (h:Q .normal st):H K st c Q:=hc▸H_skip h
theorem LH {c:Code} (hc:c= .ret) (h:Q .ret st):H K st c Q:=hc▸H_ret h
theorem R_exit {c:Code} (id:Nat) (hc:c= .exit id) (h:Q (.exit id) st):H K st c Q:=hc▸H_exit h
theorem R_sq {c:Code} (fn:Func) (a b:Nat) (hc:c= .seq (nd fn a) (nd fn b)) (h:H K st (nd fn a) (EG Q λst'=>H K st' (nd fn b) Q)):H K st c Q:=R_seq _ _ hc h
theorem R_cn {c:Code} (fn:Func) (o:Operand) (a b:Nat) (hc:c= .cond o (nd fn a) (nd fn b)) (x:Bool) (ho:opB st o=some x) (ht:x=true->H K st (nd fn a) Q) (hf:x=false->H K st (nd fn b) Q):H K st c Q:=R_cond o _ _ hc x ho ht hf
theorem EH {c:Code} (fn:Func) (o:Operand) (a b:Nat) (hc:c= .cond o (nd fn a) (nd fn b)) (ho:opB st o=some true) (ht:H K st (nd fn a) Q):H K st c Q:=R_condT o _ _ hc ho ht
theorem qAV {c:Code} (fn:Func) (o:Operand) (a b:Nat) (hc:c= .cond o (nd fn a) (nd fn b)) (ho:opB st o=some false) (hf:H K st (nd fn b) Q):H K st c Q:=R_condF o _ _ hc ho hf
theorem R_bk {c:Code} (fn:Func) (id a:Nat) (hc:c= .block id (nd fn a)) (h:H K st (nd fn a) (HJ id Q)):H K st c Q:=R_block id _ hc h
end
theorem bif_t {α:Type} {c:Bool} {A B:Option α} {r:α} (hc:c=true) (h:(bif c then A else B)=some r):A=some r:=by rw[hc] at h;exact h
theorem bif_f {α:Type} {c:Bool} {A B:Option α} {r:α} (hc:c=false) (h:(bif c then A else B)=some r):B=some r:=by rw[hc] at h;exact h
def rowf {α:Type} (enc:α->List C) (d:α) (l:List α) (i:Nat):List C:=enc (l.getD i d)
end Go.SL

namespace Go.SL
open Go.RowKit
section
variable {K :Ctx} {st:St} {Q:Exit->St->Prop}
theorem R_join {c:Code} (x y:Code) (hc:c= .seq x y) {ι:Type} (S:ι->St) (J:ι->Prop) (hk:∀i,J i->H K (S i) y Q) (h:H K st x (EG Q λst'=>∃i,J i/\Sub (S i) st'.rev)):H K st c Q:=by
 refine R_seq x y hc (H_mono h ?_);intro e st' hq;cases e with
 |normal=>obtain⟨i,hj,hs⟩:=hq;exact H_sub (S i) hs (hk i hj)
 |_=>exact hq
def JW {ω ρ:Type} (b:Nat) (S:ω->St) (R:ρ->St->Prop) (res:ρ⊕ω):Exit->St->Prop
 | .exit id,st=>Nat.beq id b=true/\∃o,res= .inr o/\Sub (S o) st.rev
 | .ret,st=>∃v,res= .inl v/\R v st
 |_,_=>False
def jL {ω:Type} (b:Nat) (S:ω->St) (res:ω):Exit->St->Prop
 | .exit id,st=>Nat.beq id b=true/\Sub (S res) st.rev
 |_,_=>False
theorem qJ7 {c:Code} {Q':Exit->St->Prop} {n:Nat} (h:HL K c Q n st) (hq:∀e st,Q e st->Q' e st):HL K c Q' n st:=by
 induction n generalizing st with
 |zero=>exact λM a w hs=>h M a w hs
 |succ n ih=>
  intro M a w hs;have:=h M a w hs;rw[roundsIn_succ] at this⊢;refine wpIn_mono this ?_;intro e a' w' hq';cases e with
  |normal=>
   have mono:∀n a w,Code.roundsIn K.F 0 K.P c (Post K Q) n a w->Code.roundsIn K.F 0 K.P c (Post K Q') n a w:=by
    intro n
    induction n with
    |zero=>intro a w h;exact h
    |succ n ihn=>
     intro a w h;rw[roundsIn_succ] at h⊢;refine wpIn_mono h ?_;intro e a' w' hx;cases e with
     |normal=>exact ihn _ _ hx
     |_=>exact Post.mono hq hx
   exact mono n _ _ hq'
  |_=>exact Post.mono hq hq'
theorem qLx {c:Code} {Q':Exit->St->Prop} (h:H K st c Q) (hq:∀e st,Q e st->Q' e st\/∃st',Q' e st'/\Sub st' st.rev):H K st c Q':=by
 intro M a w hs;refine wpIn_mono (h M a w hs) ?_;rintro e a' w' ⟨M',st',hq',hs'⟩;rcases hq e st' hq' with h1|⟨st2,h1,h2⟩
 ·exact⟨M',st',h1,hs'⟩
 ·exact⟨_,st2,h1,hs'.rev.sub h2⟩
theorem jG {c:Code} (x:Code) (b:Nat) (hc:c= .block b (.loop x)) (n:Nat) {ω:Type} (S:ω->St) (res:ω) (hl:HL K x (jL b S res) n st) (hk:Q .normal (S res)):H K st c Q:=by
 subst hc;have h1:H K st (.block b (.loop x)) (λe st'=>match e with| .normal=>Sub (S res) st'.rev|_=>False):=by
  refine qC6 (qIC n (qJ7 hl ?_));intro e st' hq;cases e with
  |exit id=>
   obtain⟨hb,hs⟩:=hq;simp only[HJ,hb,ki];exact hs
  |_=>exact hq.elim
 refine qLx h1 ?_;intro e st' hq;cases e with
 |normal=>exact .inr ⟨S res,hk,hq⟩
 |_=>exact hq.elim
theorem yX {c:Code} (x:Code) (b:Nat) (hc:c= .block b (.loop x)) (n:Nat) {ω ρ:Type} (S:ω->St) (R:ρ->St->Prop) (res:ρ⊕ω) (hl:HL K x (JW b S R res) n st)
  (hr:∀v,res= .inl v->∀st',R v st'->Q .ret st') (hk:∀o,res= .inr o->Q .normal (S o)):H K st c Q:=by
 subst hc;have h1:H K st (.block b (.loop x)) (λe st'=>match e with| .normal=>∃o,res= .inr o/\Sub (S o) st'.rev| .ret=>Q .ret st'|_=>False):=by
  refine qC6 (qIC n (qJ7 hl ?_));intro e st' hq;cases e with
  |exit id=>
   obtain⟨hb,o,ho,hs⟩:=hq;simp only[HJ,hb,ki];exact⟨o,ho,hs⟩
  |ret=>
   obtain⟨v,hv,hr'⟩:=hq;exact hr v hv st' hr'
  |normal=>exact hq.elim
  |goto l=>exact hq.elim
  |panic c=>exact hq.elim
  |outgrown=>exact hq.elim
 refine qLx h1 ?_;intro e st' hq;cases e with
 |normal=>obtain⟨o,ho,hs⟩:=hq;exact .inr ⟨S o,hk o ho,hs⟩
 |ret=>exact .inl hq
 |exit id=>exact hq.elim
 |goto l=>exact hq.elim
 |panic c=>exact hq.elim
 |outgrown=>exact hq.elim
end
theorem Ext.intro {K:Ctx} {M:Mem} {st:St} {a:Act} {w:World} (h:Sim K M st a w) (id k:Nat) (o:O):Ext (drOf K.globs) M w (M.put id k none) w (hits [(id,(k,o))]) (zG [(id,k)]):=
 Ext.put h (λb' hb=>by cases hb) (λ_ _ _=>rfl) (λc arr e hc=>⟨arr,hc,rfl⟩) (ko _) rfl rfl rfl
theorem Sim1.own {K:Ctx} {M:Mem} {st:St} {a:Act} {w:World} (h:Sim1 K M st a w) (s id e sz:Nat) (f:Nat->List C) (hs:look s st.slots=some (.v (.one .emp))) (hf:st.freeB [(id,0)]=true) (hfx:Nat.ble K.m id=true) (hlt:Nat.blt s K.nt=true):
  Sim1 K (M.put id 0 none) (st.app (some s) (.v (.one (.own id 0 sz 0))) [(id,(0,.row e sz 0 f))]) a w:=by
 have he:=Ext.intro h.1 id 0 (.row e sz 0 f);have hv:=h.1.slots s _ hs;have hlt':s<a.tmps.size:=by rw[h.1.size];simpa[kH] using hlt
 have hput:a.put (some s) (a.tmps.getD s undef)=a:=by
  have:a.tmps.setIfInBounds s (a.tmps.getD s undef)=a.tmps:=by
   apply Array.ext
   ·simp
   ·intro i h1 h2;rw[Array.getElem_setIfInBounds];split
    ·rename_i hsi;subst hsi;simp
    ·rfl
  simp only[Act.put,this]
 have:=h.step (dst:=some s) (nv:=[(id,0)]) (ob:=[(id,(0,.row e sz 0 f))]) (x:= .v (.one (.own id 0 sz 0))) (v:=a.tmps.getD s undef) he ?_ ?_ UZ (by simp[nvOk,look]) (St.free_of hf) (by simp[PA,hfx]) ?_
 ·rw[hput] at this;exact this
 ·have hv':IRep w M.imm .emp (a.tmps.getD s undef):=hv;generalize a.tmps.getD s undef=u at hv';cases hv' with
  |emp b=>exact .inl ⟨rfl,b,rfl⟩
 ·intro i k o hl;obtain⟨rfl,rfl,rfl⟩:=QI hl;exact⟨by simp[Mem.put],.inl ⟨by simp[Mem.put],rfl⟩⟩
 ·intro d hd;cases hd;simpa[kH] using hlt
theorem Sim1.ownB {K:Ctx} {M:Mem} {st:St} {a:Act} {w:World} (h:Sim1 K M st a w) (bx kb eb j id e sz:Nat) (cs:List C) (f:Nat->List C) (hs:look bx st.objs=some (kb,.box eb cs)) (hj:cs[j]? =some .emp) (hf:st.freeB [(id,0)]=true) (hfx:Nat.ble K.m id=true) (hne:Nat.beq bx id=false):
  Sim1 K (M.put id 0 none) (st.app none .any [(bx,(kb,.box eb (cs.set j (.own id 0 sz 0)))),(id,(0,.row e sz 0 f))]) a w:=by
 have hne':bx≠id:=λh=>by rw[h,uL] at hne;cases hne
 obtain⟨hver,b,arr,hb,hh,hc⟩:=h.1.objs bx kb _ hs;have he1:=Ext.intro h.1 id 0 (.row e sz 0 f);have he:Ext (drOf K.globs) M w (M.put id 0 none) w (hits [(bx,(kb,.box eb (cs.set j (.own id 0 sz 0)))),(id,(0,.row e sz 0 f))]) (zG [(id,0)]):=
  ⟨he1.ver,λi k hv hw=>he1.keep i k hv λhh=>hw (by
    have:=hits_one.1 hh;unfold hits;rw[look_cons];split
    ·rfl
    ·rw[look_cons,if_pos this.symm];rfl),he1.blk,he1.fresh,he1.inj,he1.rng,λ_ _ _=>rfl,he1.shape,he1.size,he1.area,he1.os,he1.tape,he1.output,he1.drawn⟩
 have hfree:=St.free_of hf;refine h.step (dst:=none) (nv:=[(id,0)]) (ob:=[(bx,(kb,.box eb (cs.set j (.own id 0 sz 0)))),(id,(0,.row e sz 0 f))]) (x:= .any) (v:=undef) he trivial ?_ ?_ ?_ hfree (by simp[PA,hfx]) (λd hd=>by cases hd)
 ·intro i k o ho;rw[look_cons] at ho;split at ho
  ·rename_i hi;cases ho;subst hi;refine⟨by simp only[Mem.put,hne',if_false];exact hver,b,arr,by simp only[Mem.put,hne',if_false];exact hb,hh,by simpa using hc.1,λl hl=>?_⟩;have hl':l<cs.length:=by simpa using hl
   by_cases hlj:l=j
   ·subst hlj;have h1:=hc.2 l hl';have h2:cs.getD l .unk= .emp:=by rw[ke,hj];rfl
    rw[h2] at h1;rw[ke,uJ hl',kA];generalize arr.getD l undef=u at h1;cases h1 with
    |emp q=>exact .inl ⟨rfl,q,rfl⟩
   ·have h1:=hc.2 l hl';have hcf:(cs.getD l .unk).free (zG [(id,0)]):=hfree.2 bx kb _ hs _ (QK hl');rw[ke,uS (Ne.symm hlj),<-ke];exact he.crep hcf h1
  ·obtain⟨rfl,rfl,rfl⟩:=QI ho;exact⟨by simp[Mem.put],.inl ⟨by simp[Mem.put],rfl⟩⟩
 ·intro i hi;by_cases h':i=id
  ·right;unfold hits;rw[look_cons];split
   ·rfl
   ·rw[look_cons,if_pos h'.symm];rfl
  ·exact .inl (by simpa[Mem.put,h'] using hi)
 ·simp only[nvOk,List.all_cons,List.all_nil,Bool.and_true,look_cons];rw[if_neg hne'];simp
theorem Sim1.respell {K:Ctx} {M:Mem} {st:St} {a:Act} {w:World} (h:Sim1 K M st a w) (id k e sz n n':Nat) (f f':Nat->List C) (hl:look id st.objs=some (k,.row e sz n f)) (hn':n'<=n) (hf:∀i,i<n'->f' i=f i):
  Sim1 K M (st.app none .any [(id,(k,.row e sz n' f'))]) a w:=by
 have he:Ext (drOf K.globs) M w M w (hits [(id,(k,.row e sz n' f'))]) (zG []):=
  ⟨λ_ _ h=> .inr h,λ_ _ h _=>h,λ_ _ _ _=>rfl,λ_ _ _ h=>(by cases h),h.1.inj,λi k b h1 h2=>(h.1.rng i k b h1 h2).2,λ_ _ _=>rfl,λb arr e h=>⟨arr,h,rfl⟩,ko _,rfl,rfl,rfl,rfl,λ_=>ko _⟩
 refine h.step (dst:=none) (nv:=[]) (ob:=[(id,(k,.row e sz n' f'))]) (x:= .any) (v:=undef) he trivial ?_ (λi hi=> .inl hi) rfl (qAG st) rfl (λd hd=>by cases hd);intro i k' o ho;obtain⟨rfl,rfl,rfl⟩:=QI ho;obtain⟨hver,hr⟩:=h.1.objs _ _ _ hl;refine⟨hver,?_⟩;rcases hr with⟨h0,h1⟩|⟨b,arr,hb,hh,hn,hc⟩
 ·exact .inl ⟨h0,by omega⟩
 ·exact .inr ⟨b,arr,hb,hh,uC (kB _ hn') hn,λi hi=>by rw[hf i hi];exact hc i (by omega)⟩
def swp (i j x:Nat):Nat:=bif Nat.beq x i then j else bif Nat.beq x j then i else x
theorem beq_dec (a b:Nat):Nat.beq a b=decide (a=b):=by
 by_cases h:a=b
 ·subst h;simp
 ·simp only[h,decide_false];cases hb:Nat.beq a b with|false=>rfl|true=>exact absurd (kf hb) h
theorem qIn (i j x:Nat):swp i j x=if x=i then j else if x=j then i else x:=by
 simp only[swp,beq_dec,Bool.cond_decide]
theorem yZ (i j x:Nat):swp i j (swp i j x)=x:=by
 simp only[qIn];by_cases h1:x=i
 ·subst h1;simp only[if_true];by_cases h3:j=x
  ·rw[if_pos h3];exact h3
  ·rw[if_neg h3]
 ·simp only[h1,if_false];by_cases h2:x=j
  ·subst h2;simp
  ·simp only[h2,if_false,h1]
def qIl (i j:Nat):C->C
 | .bptr id k l=> .bptr (SL.swp i j id) k l
 |c=>c
def C.swp (i j:Nat):C->C
 | .fn g caps=> .fn g (caps.map (qIl i j))
 | .yl R b ts caps=> .yl R b ts (caps.map (qIl i j))
 | .sub id k sz off len=> .sub (SL.swp i j id) k sz off len
 | .own id k sz len=> .own (SL.swp i j id) k sz len
 | .bptr id k l=> .bptr (SL.swp i j id) k l
 | .rptr id k sz m l=> .rptr (SL.swp i j id) k sz m l
 |c=>c
def V1.swp (i j:Nat):V1->V1
 | .one c=> .one (c.swp i j)
 | .agg cs=> .agg (cs.map (C.swp i j))
def V.swp (i j:Nat):V->V
 | .v x=> .v (x.swp i j)
 | .tup xs=> .tup (xs.map (V1.swp i j))
 |x=>x
def O.swp (i j:Nat):O->O
 | .box e cs=> .box e (cs.map (C.swp i j))
 |o=>o
def St.swp (i j:Nat) (st:St):St:={slots:=st.slots.map λp=>(p.1,p.2.swp i j),objs:=st.objs.map λp=>(SL.swp i j p.1,(p.2.1,p.2.2.swp i j))}
def Mem.swp (i j:Nat) (M:Mem):Mem:={ver:=λx=>M.ver (SL.swp i j x),blk:=λx=>M.blk (SL.swp i j x),A:=M.A}
section
variable {M :Mem} {w:World} {i j:Nat}
theorem swp_imm {b:Nat}:(M.swp i j).imm b↔M.imm b:=by
 refine⟨λh=>⟨h.1,fun⟨x,k,hv,hb⟩=>h.2 ⟨SL.swp i j x,k,?_,?_⟩⟩,λh=>⟨h.1,fun⟨x,k,hv,hb⟩=>h.2 ⟨SL.swp i j x,k,hv,hb⟩⟩⟩
 ·simp only[Mem.swp,yZ];exact hv
 ·simp only[Mem.swp,yZ];exact hb
theorem FL {c:C} {v:Value} (h:IRep w M.imm c v):IRep w (M.swp i j).imm c v:=h.move (λ_ _ _=>rfl) λ_ hb _=>swp_imm.2 hb
theorem qJ8 {c:C} {v:Value} (h:yS w M c v):yS w (M.swp i j) (qIl i j c) v:=by
 cases c with
 |bptr id k l=>obtain⟨b,h1,hx⟩:=h;exact⟨b,h1,λhv=>by simp only[Mem.swp,yZ] at hv⊢;exact hx hv⟩
 |_=>exact FL h
theorem qJx {c:C} {v:Value} (h:CRep w M c v):CRep w (M.swp i j) (c.swp i j) v:=by
 cases c with
 |own id k sz len=>
  rcases h with h0|⟨b,cap,h1,h2,h3,hx⟩
  ·exact .inl h0
  ·exact .inr ⟨b,cap,h1,h2,h3,λhv=>by simp only[Mem.swp,yZ] at hv⊢;exact hx hv⟩
 |sub id k sz off len=>
  rcases h with h0|⟨b,cap,h1,h2,h3,hx⟩
  ·exact .inl h0
  ·exact .inr ⟨b,cap,h1,h2,h3,λhv=>by simp only[Mem.swp,yZ] at hv⊢;exact hx hv⟩
 |fn g caps=>
  obtain⟨vs,hv,hs,hx⟩:=h;refine⟨vs,hv,by simpa using hs,λl hl=>?_⟩;have hl':l<caps.length:=by simpa using hl
  have:=qJ8 (i:=i) (j:=j) (hx l hl');simpa only[ke,kD,ku hl',kI,kA] using this
 |yl R b ts caps=>
  refine⟨h.1,λl hl=>?_⟩;have hl':l<caps.length:=by simpa using hl
  have:=qJ8 (i:=i) (j:=j) (h.2 l hl');simpa only[ke,kD,ku hl',kI,kA] using this
 |bptr id k l=>obtain⟨b,h1,hx⟩:=h;exact⟨b,h1,λhv=>by simp only[Mem.swp,yZ] at hv⊢;exact hx hv⟩
 |rptr id k sz m l=>obtain⟨b,h1,hx⟩:=h;exact⟨b,h1,λhv=>by simp only[Mem.swp,yZ] at hv⊢;exact hx hv⟩
 |unk=>exact h
 |val v=>exact FL h
 |emp=>exact FL h
 |lst n f=>exact FL h
 |lptr cs=>exact FL h
 |aptr n sz f=>exact FL h
theorem qG1 {cs:List C} {vs:Array Value} (h:jT w M cs vs):jT w (M.swp i j) (cs.map (C.swp i j)) vs:=by
 refine⟨by simpa using h.1,λl hl=>?_⟩;have hl':l<cs.length:=by simpa using hl
 have:=qJx (i:=i) (j:=j) (h.2 l hl');simpa only[ke,kD,ku hl',kI,kA] using this
theorem qGP {x:V1} {v:Value} (h:zA w M x v):zA w (M.swp i j) (x.swp i j) v:=by
 cases x with
 |one c=>exact qJx h
 |agg cs=>obtain⟨vs,hv,hr⟩:=h;exact⟨vs,hv,qG1 hr⟩
theorem qMx {x:V} {v:Value} (h:VRep w M x v):VRep w (M.swp i j) (x.swp i j) v:=by
 cases x with
 |any=>trivial
 |undef=>exact h
 |v x=>exact qGP h
 |tup xs=>
  obtain⟨vs,hv,hl,hr⟩:=h;refine⟨vs,hv,by simpa using hl,λl hl=>?_⟩;have hl':l<xs.length:=by simpa using hl
  have:=qGP (i:=i) (j:=j) (hr l hl');simpa only[ke,kD,ku hl',kI,kA] using this
theorem qMN {id k:Nat} {o:O} (h:ORep w M id k o):ORep w (M.swp i j) (SL.swp i j id) k (o.swp i j):=by
 cases o with
 |box e cs=>
  obtain⟨hv,b,arr,hb,hh,hr⟩:=h;exact⟨by simp only[Mem.swp,yZ];exact hv,b,arr,by simp only[Mem.swp,yZ];exact hb,hh,qG1 hr⟩
 |row e sz n f=>
  obtain⟨hv,hr⟩:=h;refine⟨by simp only[Mem.swp,yZ];exact hv,?_⟩;rcases hr with⟨h0,h1⟩|⟨b,arr,hb,hh,hn,hc⟩
  ·exact .inl ⟨by simp only[Mem.swp,yZ];exact h0,h1⟩
  ·exact .inr ⟨b,arr,by simp only[Mem.swp,yZ];exact hb,hh,hn,λm hm=>⟨(hc m hm).1,λq hq=>FL ((hc m hm).2 q hq)⟩⟩
 |lp R b s q=>exact⟨by simp only[Mem.swp,yZ];exact h.1,by simp only[Mem.swp,yZ];exact h.2.1,h.2.2⟩
end
theorem qIY {β γ:Type} (f:β->γ) (i j s:Nat) (l:List (Nat×β)):look s (l.map λp=>(swp i j p.1,f p.2))=(look (swp i j s) l).map f:=by
 induction l with
 |nil=>rfl
 |cons p l ih=>
  obtain⟨k,x⟩:=p;simp only[ui,look_cons,ih];by_cases h:swp i j k=s
  ·have:k=swp i j s:=by rw[<-h,yZ]
   rw[if_pos h,if_pos this];rfl
  ·have:¬k=swp i j s:=λe=>h (by rw[e,yZ]);rw[if_neg h,if_neg this]
theorem swp_lt {n i j x:Nat} (hi:n<=i) (hj:n<=j) (hx:swp i j x<n):swp i j x=x:=by
 simp only[qIn] at hx⊢;split at hx
 ·omega
 ·rename_i h1;rw[if_neg h1];split at hx
  ·omega
  ·rename_i h2;rw[if_neg h2]
theorem swp_lt' {n i j x:Nat} (hi:n<=i) (hj:n<=j) (hx:x<n):swp i j x=x:=by
 simp only[qIn];rw[if_neg (by omega),if_neg (by omega)]
theorem Sim1.swap {K:Ctx} {M:Mem} {st:St} {a:Act} {w:World} (h:Sim1 K M st a w) (i j:Nat) (hi:max K.n K.m<=i) (hj:max K.n K.m<=j):Sim1 K (M.swp i j) (st.swp i j) a w:=by
 have hs:=h.1;have hi1:K.n<=i:=by omega
 have hj1:K.n<=j:=by omega
 refine⟨⟨λx y k l b hx hy hbx hby=>?_,λx k b hv hb=>⟨(hs.rng _ k b hv hb).1.imp id λhI=>(by have:=swp_lt hi1 hj1 (K.hIn _ b hI).1;rw[this] at hI;exact hI),(hs.rng _ k b hv hb).2⟩,λx k hx hv=>(by have e:swp i j x=x:=swp_lt' (n:=K.m) (by omega) (by omega) hx;simp only[Mem.swp,e] at hv⊢;exact hs.fix x k hx hv),hs.below,hs.shape,hs.area,hs.size,hs.defers.less λD ⟨x,k,hv,hb⟩=>⟨swp i j x,k,hv,hb⟩,λs x hx=>?_,λx k o ho=>?_⟩,λx hx=>?_⟩
 ·have:=hs.inj _ _ k l b hx hy hbx hby;have h2:=congrArg (swp i j) this
  rwa [yZ,yZ] at h2
 ·have:look s (st.slots.map λp=>(p.1,p.2.swp i j))=some x:=hx;rw[qA0 (V.swp i j),kG] at this;obtain⟨y,hy,rfl⟩:=this;exact qMx (hs.slots s y hy)
 ·have:look x (st.objs.map λp=>(swp i j p.1,(p.2.1,p.2.2.swp i j)))=some (k,o):=ho;rw[qIY (λq:Nat×O=>(q.1,q.2.swp i j)),kG] at this;obtain⟨⟨k',o'⟩,hy,he⟩:=this;cases he;have:=qMN (i:=i) (j:=j) (hs.objs _ k' o' hy)
  rwa [yZ] at this
 ·have:=h.2 (swp i j x) hx;unfold hits at this⊢;show(look x (st.objs.map λp=>(swp i j p.1,(p.2.1,p.2.2.swp i j)))).isSome=true;rw[qIY (λq:Nat×O=>(q.1,q.2.swp i j)),Option.isSome_map];exact this
theorem H_swap {K:Ctx} {st:St} {c:Code} {Q:Exit->St->Prop} (i j:Nat) (hij:(Nat.ble K.n i&&(Nat.ble K.m i&&(Nat.ble K.n j&&Nat.ble K.m j)))=true) (h:H K (st.swp i j) c Q):H K st c Q:=by
 simp only[kn,Nat.ble_eq] at hij;exact λ_ a w hsim=>h _ a w (hsim.swap i j (by omega) (by omega))
def inb (i:Int) (n:Nat):Bool:=decide (0<=i/\i<(n:Int))
def nz (b:Int):Bool:=decide (b≠0)
def room (n bytes:Nat):Bool:=decide (n*bytes<=140737488355328)
def mkOk (z:Int) (bytes:Nat):Bool:=decide (0<=z/\(bytes:Int)*z<=140737488355328/\z<=9223372036854775807)
def slOk (lo hi:Int) (n:Nat):Bool:=decide (0<=lo/\lo<=hi/\hi<=(n:Int))
theorem qU {α:Type} {c:Bool} {A:Option α} {r:α} (h:(bif c then A else none)=some r):c=true/\A=some r:=by
 cases c
 ·cases h
 ·exact⟨rfl,h⟩
theorem zD {i:Int} {n:Nat} (h:inb i n=true):0<=i/\i<(n:Int):=kU h
theorem nz_of {b:Int} (h:nz b=true):b≠0:=kU h
theorem QC {n b:Nat} (h:room n b=true):n*b<=140737488355328:=kU h
theorem mkOk_of {z:Int} {b:Nat} (h:mkOk z b=true):0<=z/\(b:Int)*z<=140737488355328/\z<=9223372036854775807:=kU h
theorem wX {lo hi:Int} {n:Nat} (h:slOk lo hi n=true):0<=lo/\lo<=hi/\hi<=(n:Int):=kU h
theorem qI {α β:Type} {x:Option α} {f:α->Option β} {r:β} (h:x.bind f=some r):∃a,x=some a/\f a=some r:=Option.bind_eq_some_iff.1 h
def w64 (n:Int):Int:=IntKind.i64.wrap n
def imax (a b:Int):Int:=if b>a then b else a
def imin (a b:Int):Int:=if b<a then b else a
theorem qY {z:Int} {n:Nat} (h:0<=z/\z<(n:Int)):z.toNat<n:=by omega
theorem J_mk {ι:Type} {S:ι->St} {J:ι->Prop} {st:St} (i:ι) (hj:J i) (h1:(S i).slots.map (λp=>look p.1 st.rev.slots)=(S i).slots.map λp=>some p.2) (h2:(S i).objs.map (λp=>look p.1 st.rev.objs)=(S i).objs.map λp=>some p.2):∃i,J i/\Sub (S i) st.rev:=⟨i,hj,h1,h2⟩
theorem GE {P:Program} {fn:Func} {x:V} {ob:List (Nat×(Nat×O))} {st:St} (h1:retV P st.rev fn.results.toList=some x) (h2:ob.map (λp=>look p.1 st.rev.objs)=ob.map λp=>some p.2):RetQ P fn x ob .ret st:=⟨h1,h2⟩
theorem qMB {K:Ctx} {st:St} {c:Code} {Q:Exit->St->Prop} {n:Nat} (st':St) (h1:st'.slots.map (λp=>look p.1 st.rev.slots)=st'.slots.map λp=>some p.2) (h2:st'.objs.map (λp=>look p.1 st.rev.objs)=st'.objs.map λp=>some p.2) (h:HL K c Q n st'):HL K c Q n st:=HL_sub st' ⟨h1,h2⟩ h
theorem L0_mk {ω:Type} {b:Nat} {S:ω->St} {res:ω} {st:St} (h1:(S res).slots.map (λp=>look p.1 st.rev.slots)=(S res).slots.map λp=>some p.2) (h2:(S res).objs.map (λp=>look p.1 st.rev.objs)=(S res).objs.map λp=>some p.2):jL b S res (.exit b) st:=⟨uL b,h1,h2⟩
theorem L1_mk {ω ρ:Type} {b:Nat} {S:ω->St} (o:ω) {st:St} (h1:(S o).slots.map (λp=>look p.1 st.rev.slots)=(S o).slots.map λp=>some p.2) (h2:(S o).objs.map (λp=>look p.1 st.rev.objs)=(S o).objs.map λp=>some p.2):Nat.beq b b=true/\∃o',(Sum.inr o:ρ⊕ω)= .inr o'/\Sub (S o') st.rev:=⟨uL b,o,rfl,h1,h2⟩
theorem wO {ω ρ:Type} {R:ρ->St->Prop} (v:ρ) {st:St} (h:R v st):∃v',(Sum.inl v:ρ⊕ω)= .inl v'/\R v' st:=⟨v,rfl,h⟩
def tl {α:Type} (enc:α->List C) (d:α) (l:List α):C:= .lst l.length (rowf enc d l)
theorem qJR {α:Type} (enc:α->List C) (d:α) (l r:List α):∀j,j<l.length+r.length->rowf enc d (l++r) j=if j<l.length then rowf enc d l j else rowf enc d r (j-l.length):=λj _=>by
 unfold rowf;simp only[ke];by_cases h:j<l.length
 ·rw[if_pos h,kz h]
 ·rw[if_neg h,ky (by omega)]
theorem qMz {α:Type} (enc:α->List C) (d:α) (l r:List α) (n m:Nat) (hn:l.length=n) (hm:r.length=m):∀j,j<n+m->rowf enc d (l++r) j=if j<n then rowf enc d l j else rowf enc d r (j-n):=by
 subst hn hm;exact qJR enc d l r
theorem qMw {α:Type} (enc:α->List C) (d x:α) (l:List α) (n i j:Nat) (xs:List C) (hn:l.length=n) (hx:enc x=QH (enc (l.getD i d)) j xs):∀m,m<n->rowf enc d (l.set i x) m=if m=i then QH (rowf enc d l i) j xs else rowf enc d l m:=λm hm=>by
 unfold rowf;simp only[ke] at hx⊢;by_cases h:m=i
 ·subst h;rw[if_pos rfl,uJ (by omega),<-hx];rfl
 ·rw[if_neg h,uS (Ne.symm h)]
theorem qNb {α:Type} (enc:α->List C) (d x:α) (n:Nat) (cs:List C) (hx:enc x=cs):∀m,m<n->rowf enc d (List.replicate n x) m=cs:=λm hm=>by
 unfold rowf;rw[ke,List.getElem?_replicate,if_pos hm];exact hx
theorem yM {α:Type} {l r:List α} {n m:Nat} (h1:l.length=n) (h2:r.length=m):(l++r).length=n+m:=by rw[kE,h1,h2]
theorem qAo {α:Type} {l:List α} {n i:Nat} {x:α} (h:l.length=n):(l.set i x).length=n:=by rw[List.length_set,h]
theorem len_rep {α:Type} {n:Nat} {x:α}:(List.replicate n x).length=n:=List.length_replicate
theorem UB {α:Type} {l:List α} {n n':Nat} (h:l.length=n) (hn:n'<=n):(l.take n').length=n':=by rw[kT,h];omega
theorem qLK {α:Type} (enc:α->List C) (d:α) (l:List α) (n':Nat):∀i,i<n'->rowf enc d (l.take n') i=rowf enc d l i:=λi hi=>by
 unfold rowf;simp only[ke,kP,hi,if_true]
def qJ (n:Int):List C:=[.val (.int .i64 n)]
def qL6 (b:Bool):List C:=[.val (.bool b)]
def e_str (b:ByteArray):List C:=[.val (.string b)]
@[irreducible] def FUEL :Nat:=4611686018427387904
end Go.SL

namespace Go.SL
open Go.RowKit
def qBk :List V1->Option (List C)
 |[]=>some []
 | .one (.bptr id k j)::r=>match qBk r with|some cs=>some (.bptr id k j::cs)|none=>none
 | .one c::r=>bif c.isImm then(match qBk r with|some cs=>some (c::cs)|none=>none) else none
 |_=>none
theorem IT {w:World} {M:Mem}:∀{ys:List V1} {cs:List C},qBk ys=some cs->cs.length=ys.length/\∀j v,j<ys.length->zA w M (ys.getD j (.one .unk)) v->yS w M (cs.getD j .unk) v
 |[],_,h=>by cases h;exact⟨rfl,λj v hj=>absurd hj (uc j)⟩
 |y::r,cs,h=>by
  unfold qBk at h;split at h
  ·rename_i heq;cases heq
  ·rename_i id k j r' heq;cases heq;split at h
   ·rename_i cs' hc;cases h;obtain⟨i1,i2⟩:=IT (w:=w) (M:=M) hc;refine⟨by simp[i1],λj v hj hr=>?_⟩;cases j with
    |zero=>exact hr
    |succ j=>exact i2 j v (by simpa using hj) hr
   ·cases h
  ·rename_i c r' _ heq;cases heq;cases hi:c.isImm with
   |false=>rw[hi] at h;cases h
   |true=>
    rw[hi] at h;simp only[ki] at h;split at h
    ·rename_i cs' hc;cases h;obtain⟨i1,i2⟩:=IT (w:=w) (M:=M) hc;refine⟨by simp[i1],λj v hj hr=>?_⟩;cases j with
     |zero=>
      have hr':CRep w M c v:=hr;show yS w M c v;cases c<;>first|exact hr'|cases hi
     |succ j=>exact i2 j v (by simpa using hj) hr
    ·cases h
  ·cases h
def qFL :List C->Option (List Value)
 |[]=>some []
 | .val v::r=>match qFL r with|some l=>some (v::l)|none=>none
 |_=>none
def qAi :List V1->Option (List Value)
 |[]=>some []
 | .one (.val v)::r=>match qAi r with|some l=>some (v::l)|none=>none
 | .agg cs::r=>match qFL cs,qAi r with|some vs,some l=>some (.agg vs.toArray::l)|_,_=>none
 |_=>none
theorem qFP {w:World} {M:Mem}:∀{cs:List C} {l:List Value},qFL cs=some l->∀{us:List Value},us.length=cs.length->(∀j,j<cs.length->CRep w M (cs.getD j .unk) (us.getD j undef))->us=l
 |[],l,h,us,hl,_=>by cases h;exact kV hl
 |c::r,l,h,us,hl,hr=>by
  cases us with
  |nil=>cases hl
  |cons u us=>
   unfold qFL at h;split at h
   ·rename_i heq;cases heq
   ·rename_i v r' heq;cases heq;split at h
    ·rename_i l' hl';cases h;have e0:u=v:=IRep.val_eq (hr 0 (by simp));have e1:=qFP hl' (us:=us) (by simpa using hl) (λj hj=>hr (j+1) (by simpa using hj));rw[e0,e1]
    ·cases h
   ·cases h
theorem qFY {w:World} {M:Mem}:∀{ys:List V1} {l:List Value},qAi ys=some l->∀{us:List Value},us.length=ys.length->(∀j,j<ys.length->zA w M (ys.getD j (.one .unk)) (us.getD j undef))->us=l
 |[],l,h,us,hl,_=>by cases h;exact kV hl
 |y::r,l,h,us,hl,hr=>by
  cases us with
  |nil=>cases hl
  |cons u us=>
   have ht:∀l',qAi r=some l'->us=l':=λl' hl'=>qFY hl' (us:=us) (by simpa using hl) (λj hj=>hr (j+1) (by simpa using hj));have h0:zA w M y u:=hr 0 (by simp);unfold qAi at h;split at h
   ·rename_i heq;cases heq
   ·rename_i v r' heq;cases heq;split at h
    ·rename_i l' hl';cases h;rw[show u=v from IRep.val_eq h0,ht _ hl']
    ·cases h
   ·rename_i cs r' heq;cases heq;split at h
    ·rename_i vs l' hv hl';cases h;obtain⟨vs0,rfl,hs,hc⟩:=h0;have:=qFP (us:=vs0.toList) hv (by simpa using hs) (λj hj=>by
      have:=hc j hj
      rwa [show vs0.toList.getD j undef=vs0.getD j undef by simp[ke,kq]])
     rw[ht _ hl',<-this]
    ·cases h
   ·cases h
def pev2 (P:Program) (gl:List (Nat×C)) (st:St) (op:Op):Option (V×Prop):=
 match op with
 | .makeFunc (.func g) ⟨[]⟩ caps=>match opsV gl st caps.toList with|some ys=>(match qBk ys with|some cs=>some (.v (.one (.fn g cs)),True)|none=>none)|none=>none
 | .makeFunc (.func g) fs ⟨[]⟩=>match opsV gl st fs.toList with|some ys=>(match qAi ys with|some l=>some (.v (.one (.val (.func (.func g) l.toArray #[]))),True)|none=>none)|none=>none
 | .slice t x lo hi mx=>match op1 gl st x,OZ gl st lo,OZ gl st hi,OZ gl st mx,P.underlying t with
  |some (.one (.own id k sz len)),some (some (.one (.val (.int _ l)))),some none,some none,some (.slice e)=>bif (P.info? e).isSome&&Nat.beq (szOf P e) sz then some (.v (.one (.sub id k sz l.toNat (len-l.toNat))),0<=l/\l<=(len:Int)) else none
  |some (.one (.sub id k sz off len)),some (some (.one (.val (.int _ l)))),some none,some none,some (.slice e)=>bif (P.info? e).isSome&&Nat.beq (szOf P e) sz then some (.v (.one (.sub id k sz (off+l.toNat) (len-l.toNat))),0<=l/\l<=(len:Int)) else none
  |some (.one (.sub id k sz off len)),some none,some (some (.one (.val (.int _ h)))),some none,some (.slice e)=>bif (P.info? e).isSome&&Nat.beq (szOf P e) sz then some (.v (.one (.sub id k sz off h.toNat)),0<=h/\h<=(len:Int)) else none
  |_,_,_,_,_=>pev P gl st op
 | .indexAddr t x i=>match op1 gl st x,op1 gl st i,P.underlying t with
  |some (.one (.sub id k sz off len)),some (.one (.val (.int _ z))),some (.slice e)=>(match P.info? e with|some ie=>bif Nat.beq sz ie.size then some (.v (.one (.rptr id k sz (off+z.toNat) 0)),0<=z/\z<(len:Int)) else none|none=>none)
  |_,_,_=>pev P gl st op
 | .call {callee:= .builtin .len,args,argTypes}=>match opsV gl st args.toList,argTypes.toList with
  |some [.one (.sub _ _ _ _ n)],[t]=>(match P.underlying t with|some (.slice _)=>some (.v (.one (.val (.int .i64 n))),True)|_=>none)
  |_,_=>pev P gl st op
 |_=>pev P gl st op
theorem qFX {K:Ctx} {M:Mem} {st:St} {a:Act} {w:World} (h:Sim K M st a w) {o:Oper} {y:V} {ob:Prop} (hp:pev2 K.P K.globs st o.op=some (y,ob)) (hob:ob):∃v,(execOp a.eval o).run K.P w= .ok (.value v) w/\VRep w M y v:=by
 unfold pev2 at hp;split at hp
 ·rename_i g caps hop;split at hp
  ·rename_i ys hys;split at hp
   ·rename_i cs hcs;cases hp;obtain⟨i1,i2⟩:=RB h hys;obtain⟨j1,j2⟩:=IT (w:=w) (M:=M) hcs;refine⟨.func (.func g) #[] (caps.map a.eval),?_,caps.map a.eval,rfl,by simp[j1,i1],λj hj=>?_⟩
    ·unfold execOp;rw[hop];refine ZH ?_;simp[Instr.makeFunc]
    ·have:=j2 j _ (by omega) (i2 j (by omega));have e:(caps.toList.map a.eval).getD j undef=(caps.map a.eval).getD j undef:=by simp[kq,ke]
     rw[<-e];exact this
   ·cases hp
  ·cases hp
 ·rename_i g fs _ hop;split at hp
  ·rename_i ys hys;split at hp
   ·rename_i l hl;cases hp;obtain⟨i1,i2⟩:=RB h hys;have hv:=qFY hl (us:=fs.toList.map a.eval) (by simp[i1]) i2;refine⟨.func (.func g) l.toArray #[],?_,.val _ rfl⟩;unfold execOp;rw[hop];refine ZH ?_;have e:fs.map a.eval=l.toArray:=by apply ut.1;simpa using hv
    simp[Instr.makeFunc,e]
   ·cases hp
  ·cases hp
 ·rename_i t x lo hi mx hop;have ex:∀r,(Instr.sliceAt t (a.eval x) (lo.map a.eval) (hi.map a.eval) (mx.map a.eval)).run K.P w= .ok r w->(execOp a.eval o).run K.P w= .ok (.value r) w:=λr hr=>by
   unfold execOp;rw[hop];exact ZH hr
  split at hp
  ·rename_i id k sz len kk l e hx hlo hhi hmx ht;cases hb:(K.P.info? e).isSome&&Nat.beq (szOf K.P e) sz with
   |false=>rw[hb] at hp;cases hp
   |true=>
    rw[hb] at hp;cases hp;rw[kn] at hb;have hsz:=qA7 hb.1 w;have hss:=kf hb.2;obtain⟨u,hu,huv⟩:=(WE h hlo).1 _ rfl;have h0:=(WE h hhi).2 rfl;have h1:=(WE h hmx).2 rfl;have hv:=op1_rep h hx;rw[hu,h0,h1,v1_val huv] at ex;rcases hv with⟨hz,b,hv⟩|⟨b,cap,hv,hc1,hc2,hx⟩
    ·have hl:l=0:=by omega
     subst hl;rw[hv] at ex;refine⟨.slice b 0 0,ex _ ?_,.inl ⟨by omega,_,rfl⟩⟩;simp[Instr.sliceAt,run_underlying ht,Instr.slice,Instr.sliceBounds,zN,hsz]
    ·rw[hv] at ex;have hb1:=zN (P:=K.P) (w:=w) (k:=kk) (z:=l) (y:=len) (code:= .sliceB) hob.1 (by omega);refine⟨.slice (if cap=l.toNat then some ⟨b,0,none⟩ else some ⟨b,l.toNat*sz,none⟩) (len-l.toNat) (cap-l.toNat),ex _ ?_,?_⟩
     ·simp[Instr.sliceAt,run_underlying ht,Instr.slice,Instr.sliceBounds,hb1,hsz,hss,Addr.add_lit]
     ·by_cases hcl:cap=l.toNat
      ·refine .inl ⟨by omega,some ⟨b,0,none⟩,?_⟩;rw[if_pos hcl,show len-l.toNat=0 by omega,show cap-l.toNat=0 by omega]
      ·rw[if_neg hcl];refine .inr ⟨b,cap-l.toNat,rfl,by omega,by omega,λhd=>?_⟩;obtain⟨e1,arr,e2,e3,e4⟩:=hx hd;exact⟨e1,arr,e2,e3,by rw[e4];congr 1;omega⟩
  ·rename_i id k sz off len kk l e hx hlo hhi hmx ht;cases hb:(K.P.info? e).isSome&&Nat.beq (szOf K.P e) sz with
   |false=>rw[hb] at hp;cases hp
   |true=>
    rw[hb] at hp;cases hp;rw[kn] at hb;have hsz:=qA7 hb.1 w;have hss:=kf hb.2;obtain⟨u,hu,huv⟩:=(WE h hlo).1 _ rfl;have h0:=(WE h hhi).2 rfl;have h1:=(WE h hmx).2 rfl;have hv:=op1_rep h hx;rw[hu,h0,h1,v1_val huv] at ex;rcases hv with⟨hz,b,hv⟩|⟨b,cap,hv,hc1,hc2,hx⟩
    ·have hl:l=0:=by omega
     subst hl;rw[hv] at ex;refine⟨.slice b 0 0,ex _ ?_,.inl ⟨by omega,_,rfl⟩⟩;simp[Instr.sliceAt,run_underlying ht,Instr.slice,Instr.sliceBounds,zN,hsz]
    ·rw[hv] at ex;have hb1:=zN (P:=K.P) (w:=w) (k:=kk) (z:=l) (y:=len) (code:= .sliceB) hob.1 (by omega);refine⟨.slice (if cap=l.toNat then some ⟨b,off*sz,none⟩ else some ⟨b,off*sz+l.toNat*sz,none⟩) (len-l.toNat) (cap-l.toNat),ex _ ?_,?_⟩
     ·simp[Instr.sliceAt,run_underlying ht,Instr.slice,Instr.sliceBounds,hb1,hsz,hss,Addr.add_lit]
     ·by_cases hcl:cap=l.toNat
      ·refine .inl ⟨by omega,some ⟨b,off*sz,none⟩,?_⟩;rw[if_pos hcl,show len-l.toNat=0 by omega,show cap-l.toNat=0 by omega]
      ·rw[if_neg hcl];refine .inr ⟨b,cap-l.toNat,by rw[kM],by omega,by omega,λhd=>?_⟩;obtain⟨e1,arr,e2,e3,e4⟩:=hx hd;exact⟨e1,arr,e2,e3,by rw[e4];congr 1;omega⟩
  ·rename_i id k sz off len kk z e hx hlo hhi hmx ht;cases hb:(K.P.info? e).isSome&&Nat.beq (szOf K.P e) sz with
   |false=>rw[hb] at hp;cases hp
   |true=>
    rw[hb] at hp;cases hp;rw[kn] at hb;have hsz:=qA7 hb.1 w;obtain⟨u,hu,huv⟩:=(WE h hhi).1 _ rfl;have h0:=(WE h hlo).2 rfl;have h1:=(WE h hmx).2 rfl;have hv:=op1_rep h hx;rw[hu,h0,h1,v1_val huv] at ex;rcases hv with⟨hz,b,hv⟩|⟨b,cap,hv,hc1,hc2,hx⟩
    ·have hl:z=0:=by omega
     subst hl;rw[hv] at ex;refine⟨.slice b 0 0,ex _ ?_,.inl ⟨rfl,_,rfl⟩⟩;simp[Instr.sliceAt,run_underlying ht,Instr.slice,Instr.sliceBounds,zN,hsz]
    ·rw[hv] at ex;have hb1:=zN (P:=K.P) (w:=w) (k:=kk) (z:=z) (y:=cap) (code:= .sliceAcap) hob.1 (by omega);refine⟨.slice (some ⟨b,off*sz,none⟩) z.toNat cap,ex _ ?_,.inr ⟨b,cap,rfl,by omega,hc2,hx⟩⟩;simp[Instr.sliceAt,run_underlying ht,Instr.slice,Instr.sliceBounds,hb1,hsz,Addr.add_lit]
  ·exact CD h hp hob
 ·rename_i t x i hop;split at hp
  ·rename_i id k sz off len kk z e hx hi ht;split at hp
   ·rename_i ie hie;cases hb:Nat.beq sz ie.size with
    |false=>rw[hb] at hp;cases hp
    |true=>
     rw[hb] at hp;cases hp;have hlen:=kf hb;subst hlen;have hu:=v1_val (op1_rep h hi);rcases op1_rep h hx with⟨h0,_⟩|⟨b,cap,hv,h1,h2,hx⟩
     ·omega
     ·refine⟨.pointer (some ⟨b,off*ie.size+z.toNat*ie.size,none⟩),?_,b,by rw[kM];rfl,λhd=>(hx hd).1⟩;unfold execOp;rw[hop];refine ZH ?_;simp[hv,hu,Instr.indexAt,asIntOf,run_underlying ht,hob.1,hob.2,zX hie,Addr.add_lit]
   ·cases hp
  ·exact CD h hp hob
 ·rename_i args argTypes hop;split at hp
  ·rename_i id k sz off n t hys hts;split at hp
   ·rename_i e ht;cases hp;obtain⟨h1,h2⟩:=RB h hys;have h3:=h2 0 (by simp);obtain⟨x,hx⟩:∃x,args.toList=[x]:=by
     match args.toList,h1 with
     |[x],_=>exact⟨x,rfl⟩
    obtain rfl:args= #[x]:=by apply ut.1;simpa using hx
    obtain rfl:argTypes= #[t]:=by apply ut.1;simpa using hts
    have hv:CRep w M (.sub id k sz off n) (a.eval x):=h3;have key:∃p c,a.eval x= .slice p n c:=by
     rcases hv with⟨h0,b,hv⟩|⟨b,cap,hv,_⟩
     ·exact⟨b,0,by rw[hv,h0]⟩
     ·exact⟨_,cap,hv⟩
    obtain⟨p,c,hv'⟩:=key;refine⟨.int .i64 n,?_,wW _ rfl⟩;unfold execOp;rw[hop];simp[resolve,invoke,builtin,Builtin.len_,hv',run_underlying ht,goInt]
   ·cases hp
  ·exact CD h hp hob
 ·exact CD h hp hob
theorem qKv {P:Program} {gl:List (Nat×C)} {st:St} {op:Op} {r:V×Prop} (h:pev2 P gl st op=some r):MB op=true:=by
 cases op<;>first|rfl|cases h
theorem Step_pure2 {K:Ctx} {st:St} {o:Oper} {y:V} {ob:Prop} (hp:pev2 K.P K.globs st o.op=some (y,ob)) (hob:ob):Step K st o [] [] y:=by
 refine ZC (qKv hp) ?_;intro M a w h _;obtain⟨v,hv,hr⟩:=qFX h hp hob;unfold Oper.wp;rw[hv];exact⟨v,M,rfl,Ext.same h rfl rfl rfl rfl,hr,λi k o h=>(by cases h),λi hi=> .inl hi⟩
end Go.SL
