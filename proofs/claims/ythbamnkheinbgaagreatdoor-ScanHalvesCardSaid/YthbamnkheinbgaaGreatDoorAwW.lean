import Derived.Test.YthbamnkheinbgaaGreatDoorAwR
set_option linter.unusedVariables false
set_option linter.unusedSimpArgs false
namespace Go.SL
namespace Saw
open Go.Proofs Go.RowKit
set_option maxHeartbeats 8000000
set_option maxRecDepth 100000
theorem awB :∃s:qT,yW (awS awL) (-1) 0=some ([s],0)/\s.Len=1000/\s.Sec.Low= -2/\s.Sec.Rows.length=4:=by
 obtain⟨⟨l,e⟩,h1,h2⟩:=kB.1 aw1;simp only[Prod.mk.injEq] at h2;obtain⟨rfl,h2⟩:=h2
 match l,h2 with
 |[],h2=>cases h2
 |_::_::_,h2=>simp at h2
 |[s],h2=>simp only[uE,List.map_nil,List.cons.injEq,Prod.mk.injEq,and_true] at h2;exact⟨s,h1,h2⟩
theorem awE :∃t,RW (awS awL)=some (t,0)/\TB t=some (awS awL,0):=by
 obtain⟨⟨t,e⟩,h1,h2⟩:=kB.1 aw2;simp only at h2;subst h2;have:=aw2b;rw[h1] at this;exact⟨t,h1,this⟩
theorem slF1 {w':World} {A:Nat->Prop} {n0:Nat} {s:qT} {sl:Value} (h:slF w' A n0 [s] sl):∃bl cl ao cp,sl= .slice (some ⟨bl,0,none⟩) 1 cl/\n0<=bl/\bl<w'.heap.size/\1<=cl/\w'.cell? ⟨bl,0,none⟩=some (.int .i64 s.Len)/\w'.cell? ⟨bl,1,none⟩=some (.int .i64 s.Sec.Low)/\w'.cell? ⟨bl,2,none⟩=some (.slice ao s.Sec.Rows.length cp):=by
 obtain⟨_,h⟩:=h;obtain⟨b,cap,arr,h1,h2,h3,h4,h5,h6⟩:=h (by simp);have cl:∀q,q<3->w'.cell? ⟨b,q,none⟩=some (arr.getD q undef):=λq hq=>by
  have hlt:q<arr.size:=by simp at h4;omega
  simp only[World.cell?,h3];rw[kv hlt,kq,kv hlt];rfl
 have c0:=(h6 0 0 (by simp) (by omega)).val_eq;have c1:=(h6 0 1 (by simp) (by omega)).val_eq;have c2:IRep w' (λb=>A b\/n0<=b) (.lst s.Sec.Rows.length (rf qG s.Sec.Rows)) (arr.getD 2 undef):=h6 0 2 (by simp) (by omega);obtain⟨ao,cp,hq⟩:∃ao cp,arr.getD 2 undef= .slice ao s.Sec.Rows.length cp:=by
  generalize arr.getD 2 undef=u at c2;generalize s.Sec.Rows.length=n at c2;cases c2 with
  |lst0 a=>exact⟨_,_,rfl⟩
  |lst b o n cap sz f g=>exact⟨_,_,rfl⟩
 exact⟨b,cap,ao,cp,h1,h2,(kC.1 h3).1,h5,by rw[cl 0 (by omega)];exact congrArg some c0,by rw[cl 1 (by omega)];exact congrArg some c1,by rw[cl 2 (by omega),hq]⟩
theorem qC5 {w:World} {ok:Nat->Prop} {n:Nat} {f:Nat->List C} {v:Value} (h:IRep w ok (.lst n f) v):∃a c,v= .slice a n c:=by
 cases h with
 |lst0 a=>exact⟨_,_,rfl⟩
 |lst b o n cap sz f g=>exact⟨_,_,rfl⟩
theorem qCG {w w':World} {X X':Nat->Prop} {s:Scan} {v:Value} (h:qQ w (Mem.of X) (.agg (qX s)) v) (hx:∀b,X b->b<w.heap.size->w'.heap[b]? =w.heap[b]? /\X' b):qQ w' (Mem.of X') (.agg (qX s)) v:=by
 obtain⟨vs,rfl,hsz,hc⟩:=h;refine⟨vs,rfl,hsz,λj hj=>?_⟩;have hmv:∀{c:C} {u:Value},IRep w (Mem.of X).imm c u->IRep w' (Mem.of X').imm c u:=λh=>h.move (λb hb hlt=>(hx b (EX.1 hb) hlt).1) λb hb hlt=>EX.2 (hx b (EX.1 hb) hlt).2
 match j,hj with
 |0,_=>exact hmv (hc 0 (by simp[qX]))
 |1,_=>exact hmv (hc 1 (by simp[qX]))
theorem qDh {w:World} {b o:Nat} {cs:Array Value} {T:TypeId} {fr:Nat×Nat} {v:Value} (hb:w.heap[b]? =some (.cells cs T fr)):(w.setCell ⟨b,o,none⟩ v).heap[b]? =some (.cells (cs.setIfInBounds o v) T fr):=by
 simp[World.setCell,gG,hb]
theorem jR {w:World} {b c o:Nat} {v:Value} (h:c≠b):(w.setCell ⟨b,o,none⟩ v).heap[c]? =w.heap[c]? :=by
 simp[World.setCell,gG,Ne.symm h]
theorem qDI {w:World} {b o:Nat} {v:Value}:(w.setCell ⟨b,o,none⟩ v).heap.size=w.heap.size:=by simp[World.setCell]
theorem awGL (i:Nat) (hi:i<8) (h1:i≠1):awG.getD i dd=awL.getD i dd:=by
 match i,hi with
 |0,_=>rfl
 |1,_=>exact absurd rfl h1
 |2,_=>rfl
 |3,_=>rfl
 |4,_=>rfl
 |5,_=>rfl
 |6,_=>rfl
 |7,_=>rfl
theorem set3 {a:Array Value} {n:Nat} {x y z:Value} (h3:n≠3) (h4:n≠4) (h5:n≠5):(((a.setIfInBounds 3 x).setIfInBounds 4 y).setIfInBounds 5 z).getD n undef=a.getD n undef:=by
 simp only[kq];rw[ud (Ne.symm h5),ud (Ne.symm h4),ud (Ne.symm h3)]
theorem ScM.gap {w W:World} {bR cR b0 c0 b1 c1:Nat} {aR a0 a1:Array Value} (h:ScM w bR cR b0 c0 b1 c1 aR a0 a1 awL) (nR:bR≠b0) (n1:b1≠b0)
  (hW:W=((w.setCell ⟨b0,3,none⟩ (Value.int .i64 0)).setCell ⟨b0,4,none⟩ (Value.int .i64 0)).setCell ⟨b0,5,none⟩ (Value.bool false)):
  ScM W bR cR b0 c0 b1 c1 aR (((a0.setIfInBounds 3 (.int .i64 0)).setIfInBounds 4 (.int .i64 0)).setIfInBounds 5 (.bool false)) a1 awG:=by
 have hs:24<=a0.size:=by have:=h.s0;have:=h.k0;omega
 subst hW;refine⟨h.kR,by rw[jR nR,jR nR,jR nR];exact h.hR,h.sR,h.r0,h.r1,h.r2,h.r3,qDh (qDh (qDh h.h0)),by rw[jR n1,jR n1,jR n1];exact h.h1,h.k0,h.k1,by simpa using h.s0,h.s1,λi j hi hj=>?_,λi j hi hj=>SH hj (h.i1 i j hi hj)⟩;by_cases h1:i=1
 ·subst h1
  match j,hj with
  |0,_=>
   have:(((a0.setIfInBounds 3 (.int .i64 0)).setIfInBounds 4 (.int .i64 0)).setIfInBounds 5 (.bool false)).getD 3 undef= .int .i64 0:=by
    simp only[kq];rw[ud (by omega),ud (by omega),gc (by omega)];rfl
   show IRep _ _ (ci 0) (Array.getD _ 3 undef);rw[this];exact .val _ rfl
  |1,_=>
   have:(((a0.setIfInBounds 3 (.int .i64 0)).setIfInBounds 4 (.int .i64 0)).setIfInBounds 5 (.bool false)).getD 4 undef= .int .i64 0:=by
    simp only[kq];rw[ud (by omega),gc (by simp;omega)];rfl
   show IRep _ _ (ci 0) (Array.getD _ 4 undef);rw[this];exact .val _ rfl
  |2,_=>
   have:(((a0.setIfInBounds 3 (.int .i64 0)).setIfInBounds 4 (.int .i64 0)).setIfInBounds 5 (.bool false)).getD 5 undef= .bool false:=by
    simp only[kq];rw[gc (by simp;omega)];rfl
   show IRep _ _ (cb false) (Array.getD _ 5 undef);rw[this];exact .val _ rfl
 ·rw[set3 (by omega) (by omega) (by omega),awGL i hi h1];exact SH hj (h.i0 i j hi hj)
def yH (w w':World):Prop:=w.heap.size<=w'.heap.size/\∀b,b<w.heap.size->w'.heap[b]? =w.heap[b]?
theorem yH.trans {a b c:World} (h:yH a b) (k:yH b c):yH a c:=⟨ug h.1 k.1,λx hx=>(k.2 x (kH hx h.1)).trans (h.2 x hx)⟩
theorem yH.of {w w':World} (h:Below w.heap.size w w'):yH w w':=⟨h.size,h.block⟩
theorem yH.alloc (w:World) (o:Obj):yH w (w.alloc o):=⟨by simp,λb hb=>Lib.alloc_old w o b hb⟩
theorem yH.cell {w w':World} (h:yH w w') {b o:Nat} {v:Value} (hc:w.cell? ⟨b,o,none⟩=some v):w'.cell? ⟨b,o,none⟩=some v:=by
 rw[<-hc];exact World.cell?_of_block (h.2 b (World.block_lt_of_cell? w _ hc))
theorem aw_run (w:World) (A:Nat->Prop) (hg:zR globs w A):Calls Tryz.prog 15 #[] w λe w'=>e= .returned (.bool true)/\Below w.heap.size w w':=by
 obtain⟨sB,hB,hB1,hB2,hB3⟩:=awB;obtain⟨tE,hE,hD⟩:=awE;obtain⟨⟨l5,e5⟩,hB5,hBe⟩:=kB.1 aw5;simp only at hBe;subst hBe;obtain⟨⟨m6,e6⟩,hB6,hm6⟩:=qE aw6;obtain⟨v6,hV6,hv6⟩:=kB.1 hm6;simp only[Prod.mk.injEq] at hv6;obtain⟨rfl,rfl⟩:=hv6;obtain⟨⟨xD,eD⟩,hD0,hDe⟩:=kB.1 aw3;simp only at hDe;subst hDe;have HG:=zI (zR.more (A':=λb=>A b/\b<w.heap.size) hg (λ_ _=>rfl) (λb h1 h2=>⟨h1,h2⟩));clear hg
 go_enter Tryz.func15,Tryz.ntmps15
 go_wp2_with fail
 refine(sq_run w _ HG.out).mono ?_;rintro e w1 ⟨v,bR,cR,b0,c0,b1,c1,ad,aR,a0,a1,rfl,S⟩;obtain rfl:=S.val;have HS:=zI S;clear S
 go_wp2_with fail
 -- the scan, from now on
 have k2:=yH.alloc w1 (Obj.cells #[Value.slice (some {block:=bR,off:=0}) 2 cR,Value.slice ad 0 0] 25);have hw1:=HS.out.below.size;have M1:ScM w1 bR cR b0 c0 b1 c1 aR a0 a1 awL:=⟨HS.out.kR,HS.out.hR,HS.out.sR,HS.out.r0,HS.out.r1,HS.out.r2,HS.out.r3,HS.out.h0,HS.out.h1,HS.out.k0,HS.out.k1,HS.out.s0,HS.out.s1,HS.out.i0,HS.out.i1⟩
 have lt0:b0<w1.heap.size:=(kC.1 M1.h0).1;have lt1:b1<w1.heap.size:=(kC.1 M1.h1).1;have ltR:bR<w1.heap.size:=(kC.1 M1.hR).1;have d0:(w1.alloc (Obj.cells #[Value.slice (some {block:=bR,off:=0}) 2 cR,Value.slice ad 0 0] 25)).cell? ⟨w1.heap.size,0,none⟩=some (Value.slice (some {block:=bR,off:=0}) 2 cR):=by rw[Lib.cell_of_heap (heap_alloc_new w1 _)];rfl
 have d1:(w1.alloc (Obj.cells #[Value.slice (some {block:=bR,off:=0}) 2 cR,Value.slice ad 0 0] 25)).cell? ⟨w1.heap.size,1,none⟩=some (Value.slice ad 0 0):=by rw[Lib.cell_of_heap (heap_alloc_new w1 _)];rfl
 have bl2:Below w.heap.size w (w1.alloc (Obj.cells #[Value.slice (some {block:=bR,off:=0}) 2 cR,Value.slice ad 0 0] 25)):=HS.out.below.alloc hw1 _;have hG2:zR globs (w1.alloc (Obj.cells #[Value.slice (some {block:=bR,off:=0}) 2 cR,Value.slice ad 0 0] 25)) (λb=>(A b/\b<w.heap.size)\/b=bR\/b=b0\/b=b1):=zR.more HG.out (λb (hb:b<w.heap.size)=>((yH.of HS.out.below).trans k2).2 b hb) (λb h _=> .inl h);have hs2:(w1.alloc (Obj.cells #[Value.slice (some {block:=bR,off:=0}) 2 cR,Value.slice ad 0 0] 25)).heap.size=w1.heap.size+1:=by simp
 have M2:=M1.move k2.2;generalize hW2:w1.alloc (Obj.cells #[Value.slice (some {block:=bR,off:=0}) 2 cR,Value.slice ad 0 0] 25)=W2 at*;refine(qGJ (awS awL) (-1) 0 _ hB W2 _ hG2 _ (M2.rep rfl ⟨.inr (.inl rfl),.inr (.inr (.inl rfl)),.inr (.inr (.inr rfl))⟩ ad)).mono ?_;rintro e w2 ⟨sl,rfl,hb2,hsl⟩;obtain⟨bl,cl,ao,cp,rfl,hbl,hbl2,hcl,q0,q1,q2⟩:=slF1 hsl;rw[hB1] at q0;rw[hB2] at q1;rw[hB3] at q2;have k3:=yH.of hb2;replace d0:=k3.cell d0;replace d1:=k3.cell d1;have M3:=M2.move k3.2;have bl3:=bl2.trans ⟨hb2.os,hb2.tape,hb2.output,hb2.size,λb hb=>hb2.block b (kH hb bl2.size)⟩
 have hG3:=zR.more hG2 k3.2 (λb h _=>h);clear hsl hb2;have Q0:=zI q0;have Q1:=zI q1;have Q2:=zI q2;have HM3:=zI M3;have HG3:=zI hG3;have HB3:=zI bl3;clear q0 q1 q2 M1 M2 M3 hG2 hG3 bl2 bl3
 go_wp2_with fail
 refine(qQe (awS awL) _ hE w2 _ HG3.out _ (HM3.out.rep rfl ⟨.inr (.inl rfl),.inr (.inr (.inl rfl)),.inr (.inr (.inr rfl))⟩ ad)).mono ?_;rintro e w3 ⟨rfl,hb3⟩;have k4:=yH.of hb3;replace d0:=k4.cell d0;replace d1:=k4.cell d1;have HM4:=zI (HM3.out.move k4.2);have HB4:=zI (HB3.out.trans ⟨hb3.os,hb3.tape,hb3.output,hb3.size,λb hb=>hb3.block b (kH hb HB3.out.size)⟩);have Q04:=zI (k4.cell Q0.out);have Q14:=zI (k4.cell Q1.out);have Q24:=zI (k4.cell Q2.out);clear hb3
 go_wp2_with fail
 have HGw:=zI (zR.more (A':=λb=>(A b/\b<w.heap.size)) HG.out (λb (hb:b<w.heap.size)=>HB4.out.block b hb) (λb h _=>h));refine(qJ0 tE _ hD w3 _ HGw.out).mono ?_;rintro e w4 ⟨xa,xb,rfl,hb4,hx4⟩;have k5:=yH.of hb4;replace d0:=k5.cell d0;replace d1:=k5.cell d1;have HM5:=zI (HM4.out.move k5.2);have HB5:=zI (HB4.out.trans ⟨hb4.os,hb4.tape,hb4.output,hb4.size,λb hb=>hb4.block b (kH hb HB4.out.size)⟩);have Q05:=zI (k5.cell Q04.out);have Q15:=zI (k5.cell Q14.out);have Q25:=zI (k5.cell Q24.out);have HX4:=zI hx4;have L3:w1.heap.size<w3.heap.size:=by have:=k4.1;have:=k3.1;omega
 clear hb4 hx4;obtain⟨ya,yb,hy,hya,hyb⟩:=agg2 HX4.out;obtain⟨rfl,rfl⟩:ya=xa/\yb=xb:=by
  have h1:=Value.agg.inj hy;have h2:=congrArg (λq:Array Value=>q.getD 0 undef) h1;have h3:=congrArg (λq:Array Value=>q.getD 1 undef) h1;exact⟨h2.symm,h3.symm⟩
 obtain⟨pa,pc,rfl⟩:=qC5 (n:=2) (f:=rf qM (awS awL).Rings) hya;obtain⟨pa2,pc2,rfl⟩:=qC5 (n:=0) (f:=rf qJ (awS awL).Defects) hyb;clear hy hya hyb
 go_wp2_with fail
 have k6:=yH.alloc w4 (Obj.cells #[Value.slice pa 2 pc,Value.slice pa2 0 pc2] 25);have x0:(w4.alloc (Obj.cells #[Value.slice pa 2 pc,Value.slice pa2 0 pc2] 25)).cell? ⟨w4.heap.size,0,none⟩=some (Value.slice pa 2 pc):=by rw[Lib.cell_of_heap (heap_alloc_new w4 _)];rfl
 have x1:(w4.alloc (Obj.cells #[Value.slice pa 2 pc,Value.slice pa2 0 pc2] 25)).cell? ⟨w4.heap.size,1,none⟩=some (Value.slice pa2 0 pc2):=by rw[Lib.cell_of_heap (heap_alloc_new w4 _)];rfl
 have b6:Below w.heap.size w (w4.alloc (Obj.cells #[Value.slice pa 2 pc,Value.slice pa2 0 pc2] 25)):=HB5.out.alloc HB5.out.size _;generalize hW6:w4.alloc (Obj.cells #[Value.slice pa 2 pc,Value.slice pa2 0 pc2] 25)=W6 at*;have HGx:=zI (zR.more (A':=λb=>(A b/\b<w.heap.size)) HG.out (λb (hb:b<w.heap.size)=>b6.block b hb) (λb h _=>h));refine(qJ0 ⟨#[]⟩ _ hD0 W6 _ HGx.out).mono ?_;rintro e w5 ⟨za,zb,rfl,hb5,hz5⟩;have k7:=k6.trans (yH.of hb5);replace d0:=k7.cell d0;replace d1:=k7.cell d1;replace x0:=(yH.of hb5).cell x0;replace x1:=(yH.of hb5).cell x1;obtain⟨ya,yb,hy,hya,hyb⟩:=agg2 hz5
 obtain⟨rfl,rfl⟩:ya=za/\yb=zb:=by
  have h1:=Value.agg.inj hy;have h2:=congrArg (λq:Array Value=>q.getD 0 undef) h1;have h3:=congrArg (λq:Array Value=>q.getD 1 undef) h1;exact⟨h2.symm,h3.symm⟩
 obtain⟨ra,rc,rfl⟩:=qC5 (n:=xD.Rings.length) (f:=rf qM xD.Rings) hya;obtain⟨ra2,rc2,rfl⟩:=qC5 (n:=xD.Defects.length) (f:=rf qJ xD.Defects) hyb;have HB7:=zI (b6.trans ⟨hb5.os,hb5.tape,hb5.output,hb5.size,λb hb=>hb5.block b (kH hb b6.size)⟩);have HK7:=zI k7;clear hy hya hyb hz5 hb5 k6 k7 b6 HGx;have k8:=yH.alloc w5 (Obj.cells #[Value.slice ra xD.Rings.length rc,Value.slice ra2 xD.Defects.length rc2] 25);replace d0:=k8.cell d0;replace d1:=k8.cell d1;replace x0:=k8.cell x0;replace x1:=k8.cell x1
 have HB8:=zI (HB7.out.alloc HB7.out.size (Obj.cells #[Value.slice ra xD.Rings.length rc,Value.slice ra2 xD.Defects.length rc2] 25));have HK8:=zI (HK7.out.trans k8);clear k8
 go_wp2_with fail
 have hgk:∀b,b<w.heap.size->(w5.alloc (Obj.cells #[Value.slice ra xD.Rings.length rc,Value.slice ra2 xD.Defects.length rc2] 25)).heap[b]? =w.heap[b]? :=λb hb=>HB8.out.block b hb;refine(qOj (awS awL) (awS awL) true aw4 _ (λb=>(A b/\b<w.heap.size)\/(b=bR\/b=b0\/b=b1)\/w3.heap.size<=b) (zR.more HG.out hgk (λb h _=> .inl h)) _ _ (qCG HX4.out (λb hb hlt=>⟨HK8.out.2 b hlt,hb.imp id .inr⟩)) ((HM5.out.move HK8.out.2).rep rfl ⟨.inr (.inl (.inl rfl)),.inr (.inl (.inr (.inl rfl))),.inr (.inl (.inr (.inr rfl)))⟩ ad)).mono ?_;rintro e w9 ⟨rfl,hb9⟩;have k9:=yH.of hb9;replace d0:=k9.cell d0
 replace d1:=k9.cell d1;replace x0:=k9.cell x0;replace x1:=k9.cell x1;have HK9:=zI (HK8.out.trans k9);have HM9:=HM5.out.move HK9.out.2;have r1:w9.cell? ⟨bR,1,none⟩=some (.slice (some ⟨b0,0,none⟩) 8 c0):=by
  have hlt:1<aR.size:=by have:=HM9.sR;omega
  rw[<-HM9.r1];simp only[World.cell?,HM9.hR];rw[kv hlt,kq,kv hlt];rfl
 have HB9:=zI (HB8.out.trans ⟨hb9.os,hb9.tape,hb9.output,hb9.size,λb hb=>hb9.block b (kH hb HB8.out.size)⟩);have HM9':=zI HM9;have cb:∀q,q<24->w9.cell? ⟨b0,q,none⟩=some (a0.getD q undef):=λq hq=>by
  have hlt:q<a0.size:=by have:=HM9.s0;have:=HM9.k0;omega
  simp only[World.cell?,HM9.h0];rw[kv hlt,kq,kv hlt];rfl
 have fb:∀q,w9.frozen? ⟨b0,q,none⟩=false:=λq=>Lib.frozen_of_heap HM9.h0 q;have g3:=cb 3 (by omega);have g4:=cb 4 (by omega);have g5:=cb 5 (by omega);have f3:=fb 3;have f4:=fb 4;have f5:=fb 5;clear hb9 k9 HM9 cb fb
 go_wp2_with fail
 have nR:bR≠b0:=HS.out.nR0;have n1:b1≠b0:=Ne.symm HS.out.n01;have g0:w.heap.size<=b0:=HS.out.g0;generalize hW10:((w9.setCell {block:=b0,off:=3} (Value.int IntKind.i64 0)).setCell {block:=b0,off:=4} (Value.int IntKind.i64 0)).setCell {block:=b0,off:=5} (Value.bool false)=W10 at*;have M10:=HM9'.out.gap nR n1 hW10.symm;have o10:∀b,b≠b0->W10.heap[b]? =w9.heap[b]? :=λb hb=>by rw[<-hW10,jR hb,jR hb,jR hb]
 have z10:W10.heap.size=w9.heap.size:=by rw[<-hW10,qDI,qDI,qDI]
 have B10:Below w.heap.size w W10:=by rw[<-hW10];exact((HB9.out.setCell (p:=⟨b0,3,none⟩) g0 _).setCell (p:=⟨b0,4,none⟩) g0 _).setCell (p:=⟨b0,5,none⟩) g0 _
 have c10:∀b o v,b≠b0->w9.cell? ⟨b,o,none⟩=some v->W10.cell? ⟨b,o,none⟩=some v:=λb o v hb hc=>by rw[<-hc];exact World.cell?_of_block (o10 b hb)
 have hb0:b0<w1.heap.size:=lt0;replace d0:=c10 _ _ _ (by omega) d0;replace d1:=c10 _ _ _ (by omega) d1;have L4:w1.heap.size<w4.heap.size:=kH L3 k5.1;replace x0:=c10 _ _ _ (by omega) x0;replace x1:=c10 _ _ _ (by omega) x1;have nbl:bl≠b0:=by omega
 have l0:=c10 _ _ _ nbl (HK9.out.cell Q05.out);have l1:=c10 _ _ _ nbl (HK9.out.cell Q15.out);have l2:=c10 _ _ _ nbl (HK9.out.cell Q25.out);have HX10:=zI (qCG (X':=λb=>(A b/\b<w.heap.size)\/w3.heap.size<=b) (w':=W10) HX4.out (λb hb hlt=>⟨(o10 b (by rcases hb with⟨_,h⟩|h<;>omega)).trans (HK9.out.2 b hlt),hb⟩));have HM10:=zI M10;have HB10:=zI B10;clear M10 o10 B10 c10 g3 g4 g5 f3 f4 f5 r1
 refine(qGJ (awS awG) (-1) 0 _ hB5 W10 (λb=>(A b/\b<w.heap.size)\/b=bR\/b=b0\/b=b1) (zR.more HG.out (λb (hb:b<w.heap.size)=>HB10.out.block b hb) (λb h _=> .inl h)) _ (HM10.out.rep rfl ⟨.inr (.inl rfl),.inr (.inr (.inl rfl)),.inr (.inr (.inr rfl))⟩ ad)).mono ?_;rintro e w11 ⟨s5,rfl,hb11,hs5⟩;have k11:=yH.of hb11;replace d0:=k11.cell d0;replace d1:=k11.cell d1;replace x0:=k11.cell x0;replace x1:=k11.cell x1;replace l0:=k11.cell l0;replace l1:=k11.cell l1;replace l2:=k11.cell l2;have HM11:=zI (HM10.out.move k11.2)
 have HX11:=zI (qCG (X':=λb=>(A b/\b<w.heap.size)\/w3.heap.size<=b) (w':=w11) HX10.out (λb hb hlt=>⟨k11.2 b hlt,hb⟩));have HB11:=zI (HB10.out.trans ⟨hb11.os,hb11.tape,hb11.output,hb11.size,λb hb=>hb11.block b (kH hb HB10.out.size)⟩);clear hs5 hb11 k11
 go_wp2_with fail
 refine(qGJ (awS awG) (-1) 1 _ hB6 w11 (λb=>(A b/\b<w.heap.size)\/b=bR\/b=b0\/b=b1) (zR.more HG.out (λb (hb:b<w.heap.size)=>HB11.out.block b hb) (λb h _=> .inl h)) _ (HM11.out.rep rfl ⟨.inr (.inl rfl),.inr (.inr (.inl rfl)),.inr (.inr (.inr rfl))⟩ ad)).mono ?_;rintro e w12 ⟨s6,rfl,hb12,hs6⟩;have k12:=yH.of hb12;replace d0:=k12.cell d0;replace d1:=k12.cell d1;replace x0:=k12.cell x0;replace x1:=k12.cell x1;replace l0:=k12.cell l0;replace l1:=k12.cell l1;replace l2:=k12.cell l2;have HM12:=zI (HM11.out.move k12.2)
 have HX12:=zI (qCG (X':=λb=>(A b/\b<w.heap.size)\/w3.heap.size<=b) (w':=w12) HX11.out (λb hb hlt=>⟨k12.2 b hlt,hb⟩));have HB12:=zI (HB11.out.trans ⟨hb12.os,hb12.tape,hb12.output,hb12.size,λb hb=>hb12.block b (kH hb HB11.out.size)⟩);have HS6:=zI hs6.1;clear hs6 hb12 k12
 go_wp2_with fail
 refine(qPv m6 4000000 hV6 w12 (λb=>((A b/\b<w.heap.size)\/b=bR\/b=b0\/b=b1)\/w11.heap.size<=b) (zR.more HG.out (λb (hb:b<w.heap.size)=>HB12.out.block b hb) (λb h _=> .inl (.inl h))) _ HS6.out).mono ?_;rintro e w13 ⟨rfl,hb13⟩;have k13:=yH.of hb13;replace d0:=k13.cell d0;replace d1:=k13.cell d1;replace x0:=k13.cell x0;replace x1:=k13.cell x1;replace l0:=k13.cell l0;replace l1:=k13.cell l1;replace l2:=k13.cell l2;have HM13:=zI (HM12.out.move k13.2);have HX13:=zI (qCG (X':=λb=>(A b/\b<w.heap.size)\/w3.heap.size<=b) (w':=w13) HX12.out (λb hb hlt=>⟨k13.2 b hlt,hb⟩))
 have HB13:=zI (HB12.out.trans ⟨hb13.os,hb13.tape,hb13.output,hb13.size,λb hb=>hb13.block b (kH hb HB12.out.size)⟩);clear hb13 k13
 go_wp2_with fail
 refine(qOj (awS awL) (awS awG) false aw4b w13 (λb=>(A b/\b<w.heap.size)\/(b=bR\/b=b0\/b=b1)\/w3.heap.size<=b) (zR.more HG.out (λb (hb:b<w.heap.size)=>HB13.out.block b hb) (λb h _=> .inl h)) _ _ (qCG HX13.out (λb hb hlt=>⟨rfl,hb.imp id .inr⟩)) (HM13.out.rep rfl ⟨.inr (.inl (.inl rfl)),.inr (.inl (.inr (.inl rfl))),.inr (.inl (.inr (.inr rfl)))⟩ ad)).mono ?_;rintro e w14 ⟨rfl,hb14⟩;have HB14:=zI (HB13.out.trans ⟨hb14.os,hb14.tape,hb14.output,hb14.size,λb hb=>hb14.block b (kH hb HB13.out.size)⟩);clear hb14
 go_wp2_with fail
 refine(qQV ⟨[],[]⟩ 3 aw7 w14 _ (zR.more HG.out (λb (hb:b<w.heap.size)=>HB14.out.block b hb) (λb h _=>h)) _ (qNW (IRep.lst0 _ _) (IRep.lst0 _ _))).mono ?_;rintro e w15 ⟨rfl,hb15⟩;have HB15:=zI (HB14.out.trans ⟨hb15.os,hb15.tape,hb15.output,hb15.size,λb hb=>hb15.block b (kH hb HB14.out.size)⟩);clear hb15
 go_wp2
 go_ret
 exact⟨rfl,HB15.out⟩
end Saw
end Go.SL
