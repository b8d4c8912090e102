import Derived.Test.YtidlfgiogdjkaaaGreatDoorEMa13
import Derived.Test.YtidlfgiogdjkaaaGreatDoorEMa9
set_option linter.unusedVariables false
set_option linter.unusedSimpArgs false
namespace Go.SL.Saw
variable {l :List qB} {ds:List Defect} {ps:List Product} {w:Saw} {t:Rates} {F r:Rect}
abbrev cB (l:List qB) (ds:List Defect) (p:Product) (r:Rect) (w:Saw) (t:Rates):Yield_Cut:=⟨0,0,⟨r.X,r.Y,(bestR l ds p r w.Step t.Fine).2.2⟩,(bestR l ds p r w.Step t.Fine).1⟩
theorem gain_nn (hs:VSol l) {p:Product} (hp:VP p) (hw:VW w t) (hb:(bestR l ds p r w.Step t.Fine).2.1=true):0<=gainS l ds p r w t:=by
 have bi:=qJm (l:=l) (ds:=ds) (p:=p) (r:=r) (step:=w.Step) (fine:=t.Fine) hw.fine.1 hp;have gc:qG9 l (cB l ds p r w t):=⟨bi.2.2 hb,bi.1,bi.2.1⟩
 have bt:=qQX hs (trim:=w.Trim) hw.trim.1 gc;have tb:=trm_b hs w.Trim (cB l ds p r w t);have e:gainS l ds p r w t=1000000*(bestR l ds p r w.Step t.Fine).1+t.Dust*trmV l w.Trim (cB l ds p r w t)
   +t.Chip*(wholeR l r-brdV l (cB l ds p r w t)-trmV l w.Trim (cB l ds p r w t)):=by
  unfold gainS;rw[hb];rfl
 rw[e];have b1:=bi.1;have m1:=Int.mul_nonneg hw.dust.1 tb.1;have m2:0<=t.Chip*(wholeR l r-brdV l (cB l ds p r w t)-trmV l w.Trim (cB l ds p r w t)):=Int.mul_nonneg hw.chip.1 (by
  have:brdV l (cB l ds p r w t)+trmV l w.Trim (cB l ds p r w t)<=wholeR l r:=bt;omega)
 omega
theorem pre0 (c:List Int):pre c 0=0:=rfl
theorem strip_T (h:VE l ds ps r w t) {n:List Node} (hs:Strp ps w r n):∃T,qX T=n/\okS (bdCat ps) w.Kerf T r/\((∀y∈lvT w.Kerf T ⟨r,1⟩,gB l ds ps w t y)->tv (lvV l ds ps w t) (λc=>t.Dust*wholeR l c) w.Kerf T r<=(bst (lineS l ds ps r w t) 0).value):=by
 obtain⟨_,L,g,ne,e,hx⟩:=hs;have vl:=KY h;have hr:=h.vr;unfold VR at hr;have ln:=vl.len;have e1:=qTn λx hx'=>qPJ (hx x hx');have g':goodL w.Kerf r.X.B r.X.A ((trB L).map ptP):=by rw[e1];exact g
 have ew:wiP r 2 ⟨r.X.A,r.X.B⟩=r:=rfl;have hLb:=qDK h.vw.kerf (by omega) g
 -- what is known of a part
 have part:∀y∈trB L,∃k,k<(sizes ps (r.Y.B-r.Y.A)).1.length/\y.2= .leaf ⟨1,(sizes ps (r.Y.B-r.Y.A)).2.getD k default⟩/\(sizes ps (r.Y.B-r.Y.A)).1.getD k default=y.1.B-y.1.A/\(y.1.A-r.X.A) % w.Pitch=0/\r.X.A<=y.1.A/\y.1.A<y.1.B/\y.1.B<=r.X.B:=by
  intro y hy;unfold trB at hy;obtain⟨x,hx',rfl⟩:=List.mem_map.1 hy;obtain⟨c1,k,hk,hsz,e2⟩:=hx x hx';exact⟨k,hk,by simp only;rw[e2];rfl,hsz,c1,hLb x hx'⟩
 refine⟨rowT 2 w.Kerf r.X.B r.X.A (trB L),?_,?_,λhb=>?_⟩
 ·rw[ER 2 w.Kerf r.X.B (trB L) r.X.A g',e1,e];rfl
 ·have key:=qKW (bd:=bdCat ps) (R:=r) (axis:=2) (B:=r.X.B) (.inl rfl) h.vw.kerf hr.1.2.2 (trB L) r.X.A hr.1.1 (by omega) g' ?_
  ·rw[ew] at key;exact key
  ·intro y hy;obtain⟨k,hk,e2,hsz,_,_⟩:=part y hy;obtain⟨ip,hip,eip,hd⟩:=(qDO h.pr (r.Y.B-r.Y.A)).at_ k hk;rw[e2];refine⟨rfl,?_⟩;rw[eip];unfold chkN;simp only;rw[if_neg (by omega),if_neg (by omega),if_neg (by rw[show ripB 1=false from rfl];simp),if_pos trivial];unfold bdCat;rw[if_neg (by omega),Int.toNat_natCast];have hdm:dimOk (wiP r 2 y.1) (ps.getD ip default)=true:=by
    show dimOk ⟨y.1,r.Y⟩ (ps.getD ip default)=true;unfold dimOk;simp only[Bool.or_eq_true,Bool.and_eq_true,beq_iff_eq];rcases hd with⟨d1,d2⟩|⟨d1,d2⟩
    ·right;omega
    ·left;omega
   rw[hdm];rfl
 ·have key:=qJ0 (lvV l ds ps w t) (λc=>t.Dust*wholeR l c) (R:=r) (axis:=2) (B:=r.X.B) (.inl rfl) h.vw.kerf hr.1.2.2 (trB L) r.X.A hr.1.1 (by omega) g';rw[ew] at key;rw[key];have hlen:(lineS l ds ps r w t).Len=wid r:=rfl;have hkf:(lineS l ds ps r w t).Kerf=w.Kerf:=rfl;have ent:∀y∈trB L,qNX (lineS l ds ps r w t) False (entQ (lvV l ds ps w t) (λc=>t.Dust*wholeR l c) 2 w.Kerf r r.X.A y):=by
   intro y hy;obtain⟨k,hk,e2,hsz,hp,b1,b2,b3⟩:=part y hy;obtain⟨ip,hip,eip,_⟩:=(qDO h.pr (r.Y.B-r.Y.A)).at_ k hk;have hne:¬(sizes ps (r.Y.B-r.Y.A)).2.getD k default= -1:=by rw[eip];omega
   have leaf:(⟨⟨y.1,r.Y⟩,(sizes ps (r.Y.B-r.Y.A)).2.getD k default⟩:Leaf)∈lvT w.Kerf y.2 ⟨wiP r 2 y.1,1⟩:=by
    rw[e2];show _∈lvT w.Kerf (.leaf ⟨1,(sizes ps (r.Y.B-r.Y.A)).2.getD k default⟩) ⟨⟨y.1,r.Y⟩,1⟩;simp[lvT,allT,TR]
   have mem:=qLB (R:=r) (axis:=2) (B:=r.X.B) (.inl rfl) h.vw.kerf hr.1.2.2 (trB L) r.X.A hr.1.1 (by omega) g' y hy _ leaf;rw[ew] at mem;have gb:=(hb _ mem).resolve_left hne;simp only at gb;have eq1:(((y.1.A-r.X.A).toNat:Nat):Int)=y.1.A-r.X.A:=by omega
   have eq2:(((y.1.B-r.X.A).toNat:Nat):Int)=y.1.B-r.X.A:=by omega
   have hsz':szAt (lineS l ds ps r w t) k=y.1.B-y.1.A:=hsz;have hgn:gnAt (lineS l ds ps r w t) k (y.1.A-r.X.A).toNat=gainS l ds (ps.getD ((sizes ps (r.Y.B-r.Y.A)).2.getD k default).toNat default) ⟨y.1,r.Y⟩ w t:=by
    unfold gnAt;show((LU l ds ps r w t (r.Y.B-r.Y.A)).getD k default).getD (y.1.A-r.X.A).toNat default=_;unfold LU;rw[zE _ hk];unfold VF;rw[zE _ (by unfold wid;omega)];unfold WN;rw[eq1,if_pos hp];have ep:LV r (y.1.A-r.X.A) (y.1.A-r.X.A+(sizes ps (r.Y.B-r.Y.A)).1.getD k default)=⟨y.1,r.Y⟩:=by
     unfold LV;rw[hsz,show r.X.A+(y.1.A-r.X.A)=y.1.A by omega,show r.X.A+(y.1.A-r.X.A+(y.1.B-y.1.A))=y.1.B by omega]
    rw[ep]
   have hv:tv (lvV l ds ps w t) (λc=>t.Dust*wholeR l c) w.Kerf y.2 (wiP r 2 y.1)=gainS l ds (ps.getD ((sizes ps (r.Y.B-r.Y.A)).2.getD k default).toNat default) ⟨y.1,r.Y⟩ w t:=by
    rw[e2,qPI];unfold lvV;rw[if_neg hne];show(bif (bestR l ds (ps.getD ((sizes ps (r.Y.B-r.Y.A)).2.getD k default).toNat default) ⟨y.1,r.Y⟩ w.Step t.Fine).2.1 then gainS l ds (ps.getD ((sizes ps (r.Y.B-r.Y.A)).2.getD k default).toNat default) ⟨y.1,r.Y⟩ w t else t.Chip*wholeR l ⟨y.1,r.Y⟩)=_;rw[gb];rfl
   have nn:=gain_nn (w:=w) (t:=t) (r:=⟨y.1,r.Y⟩) (ds:=ds) h.sol (p:=ps.getD ((sizes ps (r.Y.B-r.Y.A)).2.getD k default).toNat default) (chk19_VP h.pr (by rw[eip];simpa using hip)) h.vw gb;refine .inl ⟨k,hk,?_,?_,?_⟩
   ·show szAt _ k=(((y.1.B-r.X.A).toNat:Nat):Int)-(((y.1.A-r.X.A).toNat:Nat):Int);omega
   ·show¬gnAt _ k (y.1.A-r.X.A).toNat<0;rw[hgn];omega
   ·show tv _ _ _ _ _<=gnAt _ k (y.1.A-r.X.A).toNat;rw[hgn,hv];exact Int.le_refl _
  have rs:=qLi vl (φ:=lvV l ds ps w t) (κ:=λc=>t.Dust*wholeR l c) (axis:=2) (R:=r) (A:=r.X.A)
   (λi j hij hj=>by
    have hch:(lineS l ds ps r w t).Chip=(List.range (wid r).toNat).map (λx=>t.Chip*sliv l r x):=rfl;rw[hch,SX t.Chip l r hij (by omega)];unfold lvV;rw[if_pos rfl];rfl)
   (λi j hij hj=>by
    have hdu:(lineS l ds ps r w t).Dust=(List.range (wid r).toNat).map (λx=>t.Dust*sliv l r x):=rfl;rw[hdu,SX t.Dust l r hij (by omega)];rfl)
   False (trB L) 0 (by omega) (by rw[hlen,hkf,qGY,show r.X.A+((0:Nat):Int)=r.X.A by omega];exact g') (by rw[hkf];exact ent)
  rw[hlen,hkf,qGY,show r.X.A+((0:Nat):Int)=r.X.A by omega] at rs;rw[rs.1];exact qOX vl rfl (λh=>h.elim) _ 0 (by omega) rs.2
theorem qO5 {P:Pt->T->Prop}:∀(L:List Pt),(∀x∈L,∃T,qX T=x.2/\P x T)->∃Q:List Pq,Q.map ptP=L/\∀y∈Q,ptP y∈L/\P (ptP y) y.2
 |[],_=>⟨[],rfl,λy hy=>by cases hy⟩
 |x::L,h=>by
  obtain⟨T,e,hp⟩:=h x List.mem_cons_self;obtain⟨Q,eQ,hQ⟩:=qO5 L λy hy=>h y (List.mem_cons_of_mem _ hy);have ex:ptP (x.1,T)=x:=by show(x.1,qX T)=x;rw[e]
  refine⟨(x.1,T)::Q,by rw[List.map_cons,ex,eQ],λy hy=>?_⟩;rcases List.mem_cons.1 hy with rfl|hy
  ·rw[ex];exact⟨List.mem_cons_self,hp⟩
  ·exact⟨List.mem_cons_of_mem _ (hQ y hy).1,(hQ y hy).2⟩
theorem mem_T (h:VE l ds ps F w t) (hs:(F.X.B-F.X.A)/w.Pitch+1<=31) (hdc:t.Dust<=t.Chip) {n:List Node} (hm:Mem ps w F n):
  ∃T,qX T=n/\okS (bdCat ps) w.Kerf T F/\((∀y∈lvT w.Kerf T ⟨F,1⟩,gB l ds ps w t y)->tv (lvV l ds ps w t) (λc=>t.Dust*wholeR l c) w.Kerf T F<=(bst (lineP l ds ps F w t) 0).value):=by
 obtain⟨_,L,g,e,hx⟩:=hm;have vl:=qB7 h;have hr:=h.vr;unfold VR at hr;have ln:=vl.len;have hLb:=qDK h.vw.kerf (by omega) g;have ew:wiP F 3 ⟨F.Y.A,F.Y.B⟩=F:=rfl;have hlen:(lineP l ds ps F w t).Len=hei F:=rfl;have hkf:(lineP l ds ps F w t).Kerf=w.Kerf:=rfl;have hend:F.Y.A+hei F=F.Y.B:=by unfold hei;omega
 -- the AF
 have est:∀x∈L,VE l ds ps ⟨F.X,x.1⟩ w t/\strR F (x.1.A-F.Y.A) (x.1.B-F.Y.A)=⟨F.X,x.1⟩:=λx hx'=>by
  have b:=hLb x hx';have es:strR F (x.1.A-F.Y.A) (x.1.B-F.Y.A)=⟨F.X,x.1⟩:=by
   unfold strR;rw[show F.Y.A+(x.1.A-F.Y.A)=x.1.A by omega,show F.Y.A+(x.1.B-F.Y.A)=x.1.B by omega]
  have ve:=qOv h (p:=x.1.A-F.Y.A) (q:=x.1.B-F.Y.A) (by omega) (by omega) (by unfold hei;omega);rw[es] at ve;exact⟨ve,es⟩
 obtain⟨Q,eQ,hQ⟩:=qO5 (P:=λx T=>okS (bdCat ps) w.Kerf T ⟨F.X,x.1⟩/\((∀y∈lvT w.Kerf T ⟨⟨F.X,x.1⟩,1⟩,gB l ds ps w t y)->tv (lvV l ds ps w t) (λc=>t.Dust*wholeR l c) w.Kerf T ⟨F.X,x.1⟩<=(bst (lineS l ds ps ⟨F.X,x.1⟩ w t) 0).value)) L (λx hx'=>strip_T (est x hx').1 (hx x hx').2.2);have g':goodL w.Kerf F.Y.B F.Y.A (Q.map ptP):=by rw[eQ];exact g
 refine⟨rowT 3 w.Kerf F.Y.B F.Y.A Q,?_,?_,λhb=>?_⟩
 ·rw[ER 3 w.Kerf F.Y.B Q F.Y.A g',eQ,e];rfl
 ·have key:=qKW (bd:=bdCat ps) (R:=F) (axis:=3) (B:=F.Y.B) (.inr rfl) h.vw.kerf hr.2.2.2 Q F.Y.A hr.2.1 (by omega) g' ?_
  ·rw[ew] at key;exact key
  ·intro y hy;exact(hQ y hy).2.1
 ·have key:=qJ0 (lvV l ds ps w t) (λc=>t.Dust*wholeR l c) (R:=F) (axis:=3) (B:=F.Y.B) (.inr rfl) h.vw.kerf hr.2.2.2 Q F.Y.A hr.2.1 (by omega) g';rw[ew] at key;rw[key];have ent:∀y∈Q,qNX (lineP l ds ps F w t) (t.Dust<=t.Chip) (entQ (lvV l ds ps w t) (λc=>t.Dust*wholeR l c) 3 w.Kerf F F.Y.A y):=by
   intro y hy;obtain⟨hyL,hok,hval⟩:=hQ y hy;have b:=hLb _ hyL;obtain⟨c1,c2,_⟩:=hx _ hyL;obtain⟨ve,es⟩:=est _ hyL;have b':F.Y.A<=y.1.A/\y.1.A<y.1.B/\y.1.B<=F.Y.B:=b;have c1':(y.1.A-F.Y.A) % w.Pitch=0:=c1;have c2':y.1.B-y.1.A∈hts ps:=c2;have ve':VE l ds ps ⟨F.X,y.1⟩ w t:=ve;have es':strR F (y.1.A-F.Y.A) (y.1.B-F.Y.A)=⟨F.X,y.1⟩:=es;have lv:∀z∈lvT w.Kerf y.2 ⟨⟨F.X,y.1⟩,1⟩,gB l ds ps w t z:=λz hz=>by
    have:=qLB (R:=F) (axis:=3) (B:=F.Y.B) (.inr rfl) h.vw.kerf hr.2.2.2 Q F.Y.A hr.2.1 (by omega) g' y hy z hz;rw[ew] at this;exact hb z this
   have hv:tv (lvV l ds ps w t) (λc=>t.Dust*wholeR l c) w.Kerf y.2 ⟨F.X,y.1⟩<=(bst (lineS l ds ps ⟨F.X,y.1⟩ w t) 0).value:=hval lv;have eq1:(((y.1.A-F.Y.A).toNat:Nat):Int)=y.1.A-F.Y.A:=by omega
   have eq2:(((y.1.B-F.Y.A).toNat:Nat):Int)=y.1.B-F.Y.A:=by omega
   have e0:=qR5 ve' hs;have ev:=(qOi e0).2;have eb:=(qMH e0).2.2.1;obtain⟨i,hi,ei⟩:=List.getElem_of_mem c2';have ei':(hts ps).getD i default=y.1.B-y.1.A:=by rw[List.getD_eq_getElem?_getD,List.getElem?_eq_getElem hi,ei];rfl
   have hg:gnAt (lineP l ds ps F w t) i (y.1.A-F.Y.A).toNat=(stG l ds ps F w t (y.1.B-y.1.A) (y.1.A-F.Y.A).toNat).1:=by
    rw[gnP_eq l ds ps F w t hi (by rw[ei',eq1];unfold hei;omega),ei']
   have hst:strR F (((y.1.A-F.Y.A).toNat:Nat):Int) ((((y.1.A-F.Y.A).toNat:Nat):Int)+(y.1.B-y.1.A))=⟨F.X,y.1⟩:=by
    rw[eq1,show y.1.A-F.Y.A+(y.1.B-y.1.A)=y.1.B-F.Y.A by omega];exact es'
   have cs:=qUA ve';have wn:=qEG l (⟨F.X,y.1⟩:Rect);have cw:=Int.mul_nonneg h.vw.chip.1 wn;have cs':t.Chip*wholeR l ⟨F.X,y.1⟩<=(bst (lineS l ds ps ⟨F.X,y.1⟩ w t) 0).value:=cs;cases hhb:hasB (yR l ds ps ⟨F.X,y.1⟩ w t).1 with
   |true=>
    have eg:(stG l ds ps F w t (y.1.B-y.1.A) (y.1.A-F.Y.A).toNat).1=(bst (lineS l ds ps ⟨F.X,y.1⟩ w t) 0).value:=by
     unfold stG;rw[hst,eq1,if_pos c1',if_pos ⟨e0,hhb⟩];exact ev
    refine .inl ⟨i,hi,?_,?_,?_⟩
    ·show(hts ps).getD i default=(((y.1.B-F.Y.A).toNat:Nat):Int)-(((y.1.A-F.Y.A).toNat:Nat):Int);rw[ei'];omega
    ·show¬gnAt _ i (y.1.A-F.Y.A).toNat<0;rw[hg,eg];omega
    ·show tv _ _ _ _ _<=gnAt _ i (y.1.A-F.Y.A).toNat;rw[hg,eg];exact hv
   |false=>
    refine .inr ⟨hdc,?_⟩;have hno:isNo (bst (lineS l ds ps ⟨F.X,y.1⟩ w t) 0)=true:=by
     rw[eb,qSk] at hhb;simpa using hhb
    have vs:=KY ve';have lns:=vs.len;have hbn:=qTm vs (p:=0) (by omega) hno;have hpre:pre (lineS l ds ps ⟨F.X,y.1⟩ w t).Chip (lineS l ds ps ⟨F.X,y.1⟩ w t).Len.toNat=t.Chip*wholeR l ⟨F.X,y.1⟩:=by
     show pre ((List.range (wid ⟨F.X,y.1⟩).toNat).map (λx=>t.Chip*sliv l ⟨F.X,y.1⟩ x)) (wid ⟨F.X,y.1⟩).toNat=_;unfold pre;rw[yJ (g:=λi=>t.Chip*sliv l ⟨F.X,y.1⟩ i) (λi hi=>zE _ hi),qBM,qEH];have:F.X.A+(((wid ⟨F.X,y.1⟩).toNat:Nat):Int)=F.X.B:=by unfold wid;simp only;omega
     rw[this];rfl
    rw[hpre,pre0] at hbn;have hrt:=qK7 t.Chip l F (i:=(y.1.A-F.Y.A).toNat) (j:=(y.1.B-F.Y.A).toNat) (by omega) (by unfold hei;omega);rw[eq1,eq2,es'] at hrt;show tv _ _ _ _ _<=pre (lineP l ds ps F w t).Chip (y.1.B-F.Y.A).toNat-pre (lineP l ds ps F w t).Chip (y.1.A-F.Y.A).toNat;have hch:(lineP l ds ps F w t).Chip=(List.range (hei F).toNat).map (λp:Nat=>t.Chip*wholeR l (strR F p (p+1))):=rfl;rw[hch,hrt];have:tv (lvV l ds ps w t) (λc=>t.Dust*wholeR l c) w.Kerf y.2 (wiP F 3 y.1)<=(bst (lineS l ds ps ⟨F.X,y.1⟩ w t) 0).value:=hv;omega
  have hchP:(lineP l ds ps F w t).Chip=(List.range (hei F).toNat).map (λp:Nat=>t.Chip*wholeR l (strR F p (p+1))):=rfl;have hduP:(lineP l ds ps F w t).Dust=(List.range (hei F).toNat).map (λp:Nat=>t.Dust*wholeR l (strR F p (p+1))):=rfl;have rs:=qLi vl (φ:=lvV l ds ps w t) (κ:=λc=>t.Dust*wholeR l c) (axis:=3) (R:=F) (A:=F.Y.A)
   (λi j hij hj=>by
    rw[hchP,qK7 t.Chip l F hij (by omega)];unfold lvV;rw[if_pos rfl];rfl)
   (λi j hij hj=>by
    rw[hduP,qK7 t.Dust l F hij (by omega)];rfl)
   (t.Dust<=t.Chip) Q 0 (by omega) (by rw[hlen,hkf,hend,show F.Y.A+((0:Nat):Int)=F.Y.A by omega];exact g') (by rw[hkf];exact ent)
  rw[hlen,hkf,hend,show F.Y.A+((0:Nat):Int)=F.Y.A by omega] at rs;rw[rs.1];exact qOX vl rfl (λhd i j hij hj=>by
   rw[hchP,hduP,qK7 t.Chip l F hij (by omega),qK7 t.Dust l F hij (by omega)];exact Int.mul_le_mul_of_nonneg_right hd (qEG l _)) _ 0 (by omega) rs.2
theorem qTj :∀(lv:List Leaf) (i:Nat),¬(∀x∈lv,gB l ds ps w t x)->(bdsFrom l ds ps w.Step t.Fine i lv).length<(lv.filter (λx=>x.Product != -1)).length
 |[],_,h=>absurd (λx hx=>by cases hx) h
 |x::lv,i,h=>by
  show(bdOf l ds ps w.Step t.Fine i x++bdsFrom l ds ps w.Step t.Fine (i+1) lv).length<(([x]++lv).filter _).length;rw[List.length_append,List.filter_append,List.length_append];have le1:∀(M:List Leaf) (j:Nat),(bdsFrom l ds ps w.Step t.Fine j M).length<=(M.filter (λx=>x.Product != -1)).length:=by
   intro M
   induction M with
   |nil=>intro j;exact Nat.le_refl _
   |cons a M ih=>
    intro j;show(bdOf l ds ps w.Step t.Fine j a++bdsFrom l ds ps w.Step t.Fine (j+1) M).length<=(([a]++M).filter _).length;rw[List.length_append,List.filter_append,List.length_append];have:=ih (j+1);have:(bdOf l ds ps w.Step t.Fine j a).length<=([a].filter (λx=>x.Product != -1)).length:=by
     by_cases c:a.Product= -1
     ·have:(bdOf l ds ps w.Step t.Fine j a)=[]:=by unfold bdOf;rw[if_pos c]
      rw[this];exact Nat.zero_le _
     ·have c':(a.Product != -1)=true:=by simpa using c
      have:=qI7 (s:=l) (d:=ds) (p:=ps) w.Step t.Fine j a;simpa[c'] using this
    omega
  by_cases cx:gB l ds ps w t x
  ·rw[qUa cx];have:=qTj lv (i+1) λhh=>h λy hy=>(List.mem_cons.1 hy).elim (λe=>e▸cx) (hh y);omega
  ·have:=le1 lv (i+1);have hne:¬x.Product= -1:=λe=>cx (.inl e);have hb:(bestR l ds (ps.getD x.Product.toNat default) x.Rect w.Step t.Fine).2.1=false:=by
    rw[<-Bool.not_eq_true];exact λe=>cx (.inr e)
   have e1:(bdOf l ds ps w.Step t.Fine i x)=[]:=by unfold bdOf;rw[if_neg hne,hb];rfl
   have c':(x.Product != -1)=true:=by simpa using hne
   rw[e1];simp[c'];omega
theorem cnt4_eq (nodes:List Node) (hl:nodes.length<=1000):wG nodes FUEL 0 0=some (((nodes.filter (λn=>n.Kind==1)).length:Nat):Int):=by
 have k:=VU nodes (λn (c:Int) x=>wG nodes n c x) (λx=>(x:Int)) (λ_ (n:Node) (c:Int)=>bif n.Kind==1 then c+1 else c) (λc=>c) (λx c=>0<=c/\c<=(x:Int)) (by omega)
  (λn x c hx hi=>by
   rw[wG,decide_eq_true (by omega),qL (by omega) (by omega)];unfold TW;rw[qP (by omega),qF (n:=c+1) (by omega) (by omega)];simp only[cond_true,Int.toNat_natCast];cases (nodes.getD x default).Kind==1
   ·exact⟨rfl,by simp only[cond_false];omega⟩
   ·exact⟨rfl,by simp only[cond_true];omega⟩)
  (λn c _=>by rw[wG];simp) (i:=0) rfl 0 ⟨Int.le_refl _,Int.le_refl _⟩
 rw[k.1,qMY,Int.zero_add]
theorem qLK (a:Law24_Given) (nodes:List Node):ES (some true) a nodes=some true:=by
 have kt:QX (some true) a nodes true=some true:=rfl;have k6:jR true=some true:=rfl;unfold ES;obtain⟨b,e⟩:=qTK a;rw[e];simp only[Option.bind_some];cases b with
 |false=>exact kt
 |true=>
  simp only[Bool.not_true,cond_false];obtain⟨n,en,hn⟩:=qL5 a.Frame.X a.Saw.Pitch;unfold HA;rw[en];simp only[Option.bind_some];by_cases h2:n<=31
  ·rw[decide_eq_true h2,Bool.not_true,cond_false];by_cases h3:a.Rates.Dust>a.Rates.Chip
   ·rw[decide_eq_true h3];exact kt
   rw[decide_eq_false h3,cond_false];by_cases h4:((nodes.length:Nat):Int)>140
   ·rw[decide_eq_true h4];exact kt
   rw[decide_eq_false h4];unfold QX;rw[cond_false,qSR];simp only[Option.bind_some];by_cases c:(GB a.Solid a.Defects a.Products a.Frame a.Saw a.Rates).2.2=0
   ·have c':((GB a.Solid a.Defects a.Products a.Frame a.Saw a.Rates).2.2 !=0)=false:=by simpa using c
    rw[c',cond_false];obtain⟨h,_,er⟩:=qT1 c;obtain⟨b,eb,hb⟩:=qS6 ⟨a.Frame,nodes⟩ a.Products a.Saw;rw[eb];simp only[Option.bind_some];cases b with
    |false=>rfl
    |true=>
     obtain⟨_,_,_,hm⟩:=hb.1 rfl;have hm':Mem a.Products a.Saw a.Frame nodes:=hm;have hr:=h.vr;unfold VR at hr;have hs:=hn hr.1.1 hr.1.2.2 (by omega) h.vw.pitch.1;have hlen:=hm'.1;obtain⟨Tm,eT,okT,hT⟩:=mem_T h (by omega) (by omega) hm';have vy:VY a.Solid a.Defects a.Products ⟨a.Frame,nodes⟩ a.Saw a.Rates:=by
      refine⟨h.sol,(TA a.Defects).2 ⟨h.dl,h.dd⟩,h.pr,h.vw,?_⟩;rw[XM];refine⟨h.vr,h.vw.kerf,hlen,?_⟩;simp only;rw[<-eT] at hlen⊢;exact qO6 okT hlen
     have elv:lvP ⟨a.Frame,nodes⟩ a.Saw.Kerf=lvT a.Saw.Kerf Tm ⟨a.Frame,1⟩:=by
      unfold lvP lvT;simp only;rw[<-eT,IZ TR _ _ (EI okT)]
     have ect:ctP ⟨a.Frame,nodes⟩ a.Saw.Kerf=ctT a.Saw.Kerf Tm ⟨a.Frame,1⟩:=by
      unfold ctP ctT;simp only;rw[<-eT,IZ (cutG a.Saw.Kerf) _ _ (EI okT)]
     have val:(qDE a.Solid a.Defects a.Products ⟨a.Frame,nodes⟩ a.Saw a.Rates).Value=tv (lvV a.Solid a.Defects a.Products a.Saw a.Rates) (λc=>a.Rates.Dust*wholeR a.Solid c) a.Saw.Kerf Tm a.Frame+a.Rates.Chip*(volT a.Solid-wholeR a.Solid a.Frame):=by
      rw[qMG vy,elv,ect];rfl
     unfold FU;simp only[Bool.not_true,cond_false];unfold qBV;rw[(Of_ok vy).1,qMD vy];simp only[Option.bind_some,bne_self_eq_false,cond_false];unfold FM;rw[cond_false,cnt4_eq nodes (by omega)];simp only[Option.bind_some];have cnt:=qIu (ps:=a.Products) (kerf:=a.Saw.Kerf) 1 okT;rw[eT] at cnt;have ebd:bds a.Solid a.Defects a.Products ⟨a.Frame,nodes⟩ a.Saw a.Rates.Fine=bdsFrom a.Solid a.Defects a.Products a.Saw.Step a.Rates.Fine 0 (lvT a.Saw.Kerf Tm ⟨a.Frame,1⟩):=by unfold bds;rw[elv]
     by_cases hall:∀y∈lvT a.Saw.Kerf Tm ⟨a.Frame,1⟩,gB a.Solid a.Defects a.Products a.Saw a.Rates y
     ·have hle:=hT hall;have hcmp:(qDE a.Solid a.Defects a.Products ⟨a.Frame,nodes⟩ a.Saw a.Rates).Value<=(GB a.Solid a.Defects a.Products a.Frame a.Saw a.Rates).2.1:=by
       rw[val,er];simp only;omega
      rw[decide_eq_true hcmp];cases decide (((bds a.Solid a.Defects a.Products ⟨a.Frame,nodes⟩ a.Saw a.Rates.Fine).length:Int)<(((nodes.filter (λn=>n.Kind==1)).length:Nat):Int))<;>rfl
     ·have hlt:=qTj (l:=a.Solid) (ds:=a.Defects) (ps:=a.Products) (w:=a.Saw) (t:=a.Rates) _ 0 hall;rw[cnt,<-ebd] at hlt;rw[decide_eq_true (by omega)];rfl
   ·have c':((GB a.Solid a.Defects a.Products a.Frame a.Saw a.Rates).2.2 !=0)=true:=by simpa using c
    rw[c'];rfl
  ·rw[decide_eq_false h2];exact kt
end Go.SL.Saw
namespace Go.SL.Saw
def gS :List qB:=[⟨3000,⟨-10,List.replicate 20 ⟨-100,100⟩⟩⟩]
def gP :List Product:=[⟨⟨#[112,108,97,110,107]⟩,40,100,50,0,[2000],[70]⟩]
def gW :Saw:=⟨4,5,5,500⟩
def g0 :Rates:=⟨0,0,0⟩
def gF (h:Int):Rect:=⟨⟨-100,10⟩,⟨0,h⟩⟩
def gN :List Node:=[⟨2,5⟩,⟨1,0⟩,⟨0,0⟩]
def LS :Line:=⟨110,4,1,[105],[[70000000,-1,-1,-1,-1,70000000]],List.replicate 110 0,List.replicate 110 0⟩
def LP (h n:Nat):Line:=⟨h,4,1,[42,105],[(List.range n).map (λp=>if p % 5=0 then 70000000 else-1),[]],List.replicate h 0,List.replicate h 0⟩
theorem gain_k :(List.range 12).all (λk=>decide (gainS gS [] (gP.getD 0 default) ⟨⟨-100,5⟩,⟨5*(k:Int),5*(k:Int)+42⟩⟩ gW g0=70000000)&&decide (gainS gS [] (gP.getD 0 default) ⟨⟨-95,10⟩,⟨5*(k:Int),5*(k:Int)+42⟩⟩ gW g0=70000000))=true:=by kernel_rfl
theorem qLc :sizes gP 42=([105],[0]):=by kernel_rfl
theorem qJ3 :hts gP=[42,105]:=by kernel_rfl
theorem qQ7 :chkE gS [] gP (gF 97) gW g0=0:=by
 have e:GI gS [] gP (gF 97) gW g0=some 0:=by kernel_rfl
 rw[qB8] at e;exact Option.some.inj e
theorem qRy :chkE gS [] gP (gF 96) gW g0=0:=by
 have e:GI gS [] gP (gF 96) gW g0=some 0:=by kernel_rfl
 rw[qB8] at e;exact Option.some.inj e
end Go.SL.Saw
namespace Go.SL.Saw
theorem cut_S :ZM LS=some ([⟨0,0⟩],70000000,0):=by kernel_rfl
end Go.SL.Saw
namespace Go.SL.Saw
theorem cut_97 :ZM (LP 97 56)=some ([⟨0,0⟩,⟨0,55⟩],140000000,0):=by kernel_rfl
end Go.SL.Saw
namespace Go.SL.Saw
theorem cut_96 :ZM (LP 96 55)=some ([⟨0,0⟩],70000000,0):=by kernel_rfl
end Go.SL.Saw
namespace Go.SL.Saw
theorem strip_g (h:Int) (p:Nat):strR (gF h) (p:Int) ((p:Int)+42)=⟨⟨-100,10⟩,⟨(p:Int),(p:Int)+42⟩⟩:=by
 unfold strR gF;simp only[Int.zero_add]
theorem qTo {k:Nat} (hk:k<12):lineS gS [] gP ⟨⟨-100,10⟩,⟨((5*k:Nat):Int),((5*k:Nat):Int)+42⟩⟩ gW g0=LS:=by
 have hz:(((5*k:Nat):Int)+42)-((5*k:Nat):Int)=42:=by omega
 have gk:=List.all_eq_true.1 gain_k k (List.mem_range.2 hk);rw[Bool.and_eq_true,decide_eq_true_eq,decide_eq_true_eq] at gk;have ek:((5*k:Nat):Int)=5*(k:Int):=by omega
 unfold lineS;have hw:wid ⟨⟨-100,10⟩,⟨((5*k:Nat):Int),((5*k:Nat):Int)+42⟩⟩=110:=rfl;simp only[hz,qLc,hw];have hg:LU gS [] gP ⟨⟨-100,10⟩,⟨((5*k:Nat):Int),((5*k:Nat):Int)+42⟩⟩ gW g0 42=[[70000000,-1,-1,-1,-1,70000000]]:=by
  unfold LU;rw[qLc];show[VF gS [] (gP.getD 0 default) ⟨⟨-100,10⟩,⟨((5*k:Nat):Int),((5*k:Nat):Int)+42⟩⟩ gW g0 105]=_;unfold VF;rw[hw];show[[WN _ _ _ _ _ _ _ 0,WN _ _ _ _ _ _ _ 1,WN _ _ _ _ _ _ _ 2,WN _ _ _ _ _ _ _ 3,WN _ _ _ _ _ _ _ 4,WN _ _ _ _ _ _ _ 5]]=_;have a0:WN gS [] (gP.getD 0 default) ⟨⟨-100,10⟩,⟨((5*k:Nat):Int),((5*k:Nat):Int)+42⟩⟩ gW g0 105 0=70000000:=by
   rw[ek];exact gk.1
  have a5:WN gS [] (gP.getD 0 default) ⟨⟨-100,10⟩,⟨((5*k:Nat):Int),((5*k:Nat):Int)+42⟩⟩ gW g0 105 5=70000000:=by
   rw[ek];exact gk.2
  rw[a0,a5];rfl
 rw[hg];have hz2:∀f:Nat->Int,(List.range (110:Int).toNat).map (λx=>g0.Chip*f x)=List.replicate 110 0:=by
  intro f;have:(λx=>g0.Chip*f x)=λ_=>(0:Int):=by funext x;show 0*f x=0;rw[Int.zero_mul]
  rw[this,List.map_const'];rfl
 have hz3:∀f:Nat->Int,(List.range (110:Int).toNat).map (λx=>g0.Dust*f x)=List.replicate 110 0:=by
  intro f;have:(λx=>g0.Dust*f x)=λ_=>(0:Int):=by funext x;show 0*f x=0;rw[Int.zero_mul]
  rw[this,List.map_const'];rfl
 rw[hz2,hz3];rfl
theorem qJG :VE gS [] gP (gF 97) gW g0:=XU.1 qQ7
theorem qPb :VE gS [] gP (gF 96) gW g0:=XU.1 qRy
theorem edge_g {h:Int} (hv:VE gS [] gP (gF h) gW g0) {k:Nat} (hk:k<12) (hh:5*(k:Int)+42<=h):yR gS [] gP (strR (gF h) ((5*k:Nat):Int) (((5*k:Nat):Int)+42)) gW g0=(gN,70000000,0):=by
 have ve:=qOv hv (p:=((5*k:Nat):Int)) (q:=((5*k:Nat):Int)+42) (by omega) (by omega) (by unfold hei gF;simp only;omega);rw[strip_g] at ve⊢;unfold yR;rw[if_pos (XU.2 ve),qTo hk];have vl:=KY ve;rw[qTo hk] at vl;have cb:=AX vl;rw[cut_S] at cb;have cb':=Prod.mk.inj (Option.some.inj cb);have c1:wF LS=[⟨0,0⟩]:=cb'.1.symm;have c2:(bst LS 0).value=70000000:=(Prod.mk.inj cb'.2).1.symm;unfold qEm zL;simp only;have hz:(((5*k:Nat):Int)+42)-((5*k:Nat):Int)=42:=by omega
 rw[hz,c1,c2];have e:rowN 2 LS.Kerf ⟨-100,10⟩ (List.map (ptOf LS (-100) (bdN gP 42)) [⟨0,0⟩])=gN:=by
  unfold bdN;rw[qLc];rfl
 rw[e];rfl
theorem qNU {h:Int} (hv:VE gS [] gP (gF h) gW g0) {p:Nat} (hp:p<56) (hh:(p:Int)+42<=h):stG gS [] gP (gF h) gW g0 42 p=if p % 5=0 then(70000000,gN) else(-1,[]):=by
 unfold stG;by_cases c:p % 5=0
 ·obtain⟨k,rfl⟩:∃k,p=5*k:=⟨p/5,by omega⟩
  have c':((5*k:Nat):Int) % gW.Pitch=0:=by show((5*k:Nat):Int) % 5=0;omega
  rw[if_pos c',if_pos c,edge_g hv (by omega) (by omega)];rw[if_pos ⟨rfl,rfl⟩]
 ·have c':¬((p:Nat):Int) % gW.Pitch=0:=by show¬((p:Nat):Int) % 5=0;omega
  rw[if_neg c',if_neg c]
theorem qRf {h n:Nat} (hn:n+41=h) (hn2:n<=56) (h0:h<=104) (hv:VE gS [] gP (gF h) gW g0):lineP gS [] gP (gF h) gW g0=LP h n:=by
 have hh:hei (gF (h:Int))=(h:Int):=by unfold hei gF;simp
 unfold lineP LP;rw[hh,qJ3];have r0:nRow (gF h) 42=n:=by unfold nRow;rw[hh];omega
 have r1:nRow (gF h) 105=0:=by unfold nRow;rw[hh];omega
 have hz2:∀f:Nat->Int,(List.range ((h:Int)).toNat).map (λx=>g0.Chip*f x)=List.replicate h 0:=by
  intro f;have:(λx=>g0.Chip*f x)=λ_=>(0:Int):=by funext x;show 0*f x=0;rw[Int.zero_mul]
  rw[this,List.map_const',Int.toNat_natCast,List.length_range]
 have hz3:∀f:Nat->Int,(List.range ((h:Int)).toNat).map (λx=>g0.Dust*f x)=List.replicate h 0:=by
  intro f;have:(λx=>g0.Dust*f x)=λ_=>(0:Int):=by funext x;show 0*f x=0;rw[Int.zero_mul]
  rw[this,List.map_const',Int.toNat_natCast,List.length_range]
 rw[hz2,hz3];have hg:(List.range ([42,105]:List Int).length).map (λj=>(List.range (nRow (gF h) (([42,105]:List Int).getD j default))).map (λp=>(stG gS [] gP (gF h) gW g0 (([42,105]:List Int).getD j default) p).1))=[(List.range n).map (λp=>if p % 5=0 then 70000000 else-1),[]]:=by
  show[(List.range (nRow (gF h) 42)).map (λp=>(stG gS [] gP (gF h) gW g0 42 p).1),(List.range (nRow (gF h) 105)).map (λp=>(stG gS [] gP (gF h) gW g0 105 p).1)]=_;rw[r0,r1]
  congr 1
  apply List.map_congr_left;intro p hp;have hp':=List.mem_range.1 hp;rw[qNU hv (by omega) (by omega)];split<;>rfl
 rw[hg];rfl
theorem qUb :VX gS [] gP (gF 97) gW g0=some (⟨gF 97,[⟨3,42⟩,⟨2,5⟩,⟨1,0⟩,⟨0,0⟩,⟨3,51⟩,⟨0,0⟩,⟨2,5⟩,⟨1,0⟩,⟨0,0⟩]⟩,140000000,0):=by
 have el:=qRf (h:=97) (n:=56) (by omega) (by omega) (by omega) qJG;have el':lineP gS [] gP (gF 97) gW g0=LP 97 56:=el;have vl:=qB7 qJG;rw[el'] at vl;have cb:=AX vl;rw[cut_97] at cb;have cb':=Prod.mk.inj (Option.some.inj cb);have c1:wF (LP 97 56)=[⟨0,0⟩,⟨0,55⟩]:=cb'.1.symm;have c2:(bst (LP 97 56) 0).value=140000000:=(Prod.mk.inj cb'.2).1.symm;have n0:stN gS [] gP (gF 97) gW g0 ⟨0,0⟩=gN:=by
  unfold stN;rw[qJ3];show(stG gS [] gP (gF 97) gW g0 42 0).2=_;rw[qNU qJG (by omega) (by omega)];rfl
 have n1:stN gS [] gP (gF 97) gW g0 ⟨0,55⟩=gN:=by
  unfold stN;rw[qJ3];show(stG gS [] gP (gF 97) gW g0 42 55).2=_;rw[qNU qJG (by omega) (by omega)];rfl
 rw[qDm];unfold GB;rw[if_pos qQ7];have en:AQ gS [] gP (gF 97) gW g0=[⟨3,42⟩,⟨2,5⟩,⟨1,0⟩,⟨0,0⟩,⟨3,51⟩,⟨0,0⟩,⟨2,5⟩,⟨1,0⟩,⟨0,0⟩]:=by
  unfold AQ UD;rw[el',c1];simp only[List.map_cons,List.map_nil,ptOf,n0,n1];rfl
 rw[en,el',c2];have e0:g0.Chip*(volT gS-wholeR gS (gF 97))=0:=by show 0*_=(0:Int);rw[Int.zero_mul]
 rw[e0];rfl
theorem qUx :∃p,VX gS [] gP (gF 96) gW g0=some (p,70000000,0):=by
 have el:=qRf (h:=96) (n:=55) (by omega) (by omega) (by omega) qPb;have el':lineP gS [] gP (gF 96) gW g0=LP 96 55:=el;have vl:=qB7 qPb;rw[el'] at vl;have cb:=AX vl;rw[cut_96] at cb;have cb':=Prod.mk.inj (Option.some.inj cb);have c1:wF (LP 96 55)=[⟨0,0⟩]:=cb'.1.symm;have c2:(bst (LP 96 55) 0).value=70000000:=(Prod.mk.inj cb'.2).1.symm;have n0:stN gS [] gP (gF 96) gW g0 ⟨0,0⟩=gN:=by
  unfold stN;rw[qJ3];show(stG gS [] gP (gF 96) gW g0 42 0).2=_;rw[qNU qPb (by omega) (by omega)];rfl
 rw[qDm];unfold GB;rw[if_pos qRy];have en:AQ gS [] gP (gF 96) gW g0=[⟨3,42⟩,⟨2,5⟩,⟨1,0⟩,⟨0,0⟩,⟨0,0⟩]:=by
  unfold AQ UD;rw[el',c1];simp only[List.map_cons,List.map_nil,ptOf,n0];rfl
 rw[en,el',c2];have e0:g0.Chip*(volT gS-wholeR gS (gF 96))=0:=by show 0*_=(0:Int);rw[Int.zero_mul]
 rw[e0];exact⟨_,rfl⟩
theorem qN7 (h:Int):KL h=some ⟨gS,[],gP,gF h,gW,g0⟩:=by
 unfold KL;have e:BL FUEL 0 []=some (List.replicate 20 ⟨-100,100⟩):=by kernel_rfl
 rw[e];rfl
theorem mem_g :JL ⟨gF 97,[⟨3,42⟩,⟨2,5⟩,⟨1,0⟩,⟨0,0⟩,⟨3,51⟩,⟨0,0⟩,⟨2,5⟩,⟨1,0⟩,⟨0,0⟩]⟩ gP gW=some true:=by kernel_rfl
theorem frame_g :EN gS=some ⟨⟨-100,100⟩,⟨-100,100⟩⟩:=by kernel_rfl
theorem qRx (g:Law24_Given) (r:Pattern×Int×Int) (h:VX g.Solid g.Defects g.Products g.Frame g.Saw g.Rates=some r):ZI g=some (⟨r.1.Frame,r.1.Nodes⟩,r.2.1,r.2.2):=by
 unfold ZI;rw[h];rfl
def awB (fs:Int->Option Law24_Given) (fb:Law24_Given->Option (Pattern×Int×Int)) (fh:List Product->Option (List Int)) (ff:List qB->Option Rect) (fm:Pattern->List Product->Saw->Option Bool):Option Bool:=
 (fs 97).bind λv1=>
 (fb (Law24_Given.mk v1.Solid v1.Defects v1.Products v1.Frame v1.Saw v1.Rates)).bind λv3=>
 (fs 96).bind λv5=>
 (fb (Law24_Given.mk v5.Solid v5.Defects v5.Products v5.Frame v5.Saw v5.Rates)).bind λv7=>
 (fh v1.Products).bind λv9=>
 (ff v1.Solid).bind λv11=>
 bif v3.2.2==0 then
  bif v3.2.1==140000000 then
   bif v7.2.2==0 then
    bif v7.2.1==70000000 then
     bif ((v9.length:Nat):Int)==2 then
      bif inb 0 v9.length then
       bif (v9.getD ((0:Int).toNat) default)==42 then
        bif inb 1 v9.length then
         bif (v9.getD ((1:Int).toNat) default)==105 then
          bif (((v11.X.A==(-100))&&((v11.X.B==100)&&true))&&(((v11.Y.A==(-100))&&((v11.Y.B==100)&&true))&&true)) then
           bif ((v3.1.Nodes.length:Nat):Int)==9 then
            bif inb 0 v3.1.Nodes.length then
             bif ((((v3.1.Nodes.getD ((0:Int).toNat) default).Kind)==3)&&((((v3.1.Nodes.getD ((0:Int).toNat) default).At)==42)&&true)) then
              (fm (Pattern.mk v3.1.Frame v3.1.Nodes) v1.Products v1.Saw).bind λv26=>
              qU v26
             else
              qU false
            else none
           else
            qU false
          else
           qU false
         else
          qU false
        else none
       else
        qU false
      else none
     else
      qU false
    else
     qU false
   else
    qU false
  else
   qU false
 else
  qU false
theorem qT6 {fs:Int->Option Law24_Given} {fb:Law24_Given->Option (Pattern×Int×Int)} {fh:List Product->Option (List Int)} {ff:List qB->Option Rect} {fm:Pattern->List Product->Saw->Option Bool} (g g':Law24_Given) (p p':Pattern) (s1:fs 97=some g) (s2:fs 96=some g') (b1:fb g=some (p,140000000,0)) (b2:fb g'=some (p',70000000,0))
  (hh:fh g.Products=some [42,105]) (hf:ff g.Solid=some ⟨⟨-100,100⟩,⟨-100,100⟩⟩) (hm:fm p g.Products g.Saw=some true) (hl:p.Nodes.length=9) (hn:p.Nodes.getD 0 default=⟨3,42⟩):awB fs fb fh ff fm=some true:=by
 unfold awB;rw[s1];simp only[Option.bind_some];rw[show(Law24_Given.mk g.Solid g.Defects g.Products g.Frame g.Saw g.Rates)=g from rfl,b1];simp only[Option.bind_some];rw[s2];simp only[Option.bind_some];rw[show(Law24_Given.mk g'.Solid g'.Defects g'.Products g'.Frame g'.Saw g'.Rates)=g' from rfl,b2];simp only[Option.bind_some];rw[hh];simp only[Option.bind_some];rw[hf];simp only[Option.bind_some,hl];rw[show((0:Int).toNat)=0 from rfl,hn,show(Pattern.mk p.Frame p.Nodes)=p from rfl,hm];rfl
theorem awake_B :JW=awB KL ZI YH EN JL:=rfl
theorem qPQ :JW=some true:=by
 obtain⟨p,e96⟩:=qUx;exact awake_B.trans (qT6 _ _ ⟨gF 97,[⟨3,42⟩,⟨2,5⟩,⟨1,0⟩,⟨0,0⟩,⟨3,51⟩,⟨0,0⟩,⟨2,5⟩,⟨1,0⟩,⟨0,0⟩]⟩ ⟨p.Frame,p.Nodes⟩ (qN7 97) (qN7 96) (qRx ⟨gS,[],gP,gF 97,gW,g0⟩ _ qUb) (qRx ⟨gS,[],gP,gF 96,gW,g0⟩ _ e96) ((qER gP).trans (congrArg some qJ3)) frame_g mem_g rfl rfl)
end Go.SL.Saw
namespace Go.SL.Saw
theorem qNC (a:Law24_Given) (n:List Node) {w w':Prop} (_:w) (_:w'):LK a n=some true:=by
 rw[qJc,qPQ];exact qLK a n
end Go.SL.Saw
