import Derived.Test.YthbamnkheinbgaaGreatDoorSBase
import Derived.Test.YthbamnkheinbgaaGreatDoorYa6
import Derived.Shelf.Strings.Builder1
import Derived.WalkKit
import Derived.Lib.Walk
import Derived.Lib.AppendStr
import Derived.Shelf.Lay
import Derived.Ground.NamesProg
import Derived.Test.YthbamnkheinbgaaGreatDoorSFa4
import Derived.Test.YthbamnkheinbgaaGreatDoorSFa2
set_option linter.unusedVariables false
set_option linter.unusedSimpArgs false
namespace Go.SL
namespace Saw
open Go.Proofs
set_option maxHeartbeats 4000000
set_option maxRecDepth 100000
def ML (r:ByteArray):V:=vc (cs r)
def VW (r:ByteArray):List (Nat×(Nat×O)):=[]
theorem qAz (r:ByteArray):yX (VW r):=by
 intro i k o h;cases h
open Go.RowKit
theorem wi_used (b:Nat) (w:World) (h0:w.cell? ⟨b,0,none⟩=some (.pointer (some ⟨b,0,none⟩))):
  Calls Tryz.prog 158 #[.pointer (some ⟨b,0,none⟩)] w λe w'=>e= .returned (.tuple #[])/\w'=w:=by
 obtain⟨j,hj,_⟩:=kD.1 (show(Tryz.prog.info? 120).map (·.size)=some 2 by kernel_rfl)
 go_enter Tryz.func158,Tryz.ntmps158
 go_wp2
 rw[Lib.run_neq_ptr_same w _ (show Tryz.prog.underlying 117=some (.pointer 120) by kernel_rfl) hj]
 go_wp2
 go_end0
 exact⟨rfl,rfl⟩
theorem qOG (b:Nat) (w:World) (h0:w.cell? ⟨b,0,none⟩=some (.pointer none)) (hsh:w.shape? b=some (120,2)) (hfz:w.frozen? ⟨b,0,none⟩=false):
  Calls Tryz.prog 158 #[.pointer (some ⟨b,0,none⟩)] w λe w'=>e= .returned (.tuple #[])/\w'=w.setCell ⟨b,0,none⟩ (.pointer (some ⟨b,0,none⟩)):=by
 obtain⟨j,hj,hjs⟩:=kD.1 (show(Tryz.prog.info? 120).map (·.size)=some 2 by kernel_rfl);have u1:Tryz.prog.underlying 117=some (.pointer 120):=by kernel_rfl
 have u2:Tryz.prog.underlying 194=some .unsafePointer:=by kernel_rfl
 have hlies:liesAt Tryz.prog Tryz.prog.depth 120 (2/Tryz.prog.cellsOf 120) 0 120 1=true:=by kernel_rfl
 go_enter Tryz.func158,Tryz.ntmps158
 go_wp2
 rw[Lib.run_to_unsafe w ⟨b,0,none⟩ u1 u2 hj (by rw[hjs];decide) hsh (Nat.zero_lt_succ 1)];simp only[Result.andThen];rw[Oper.upon_value]
 go_wp2
 rw[run_callFunc_extern Tryz.func184 (by kernel_rfl) (by kernel_rfl) (by kernel_rfl) (e:=Extern.AbiNoEscape.same) (by kernel_rfl)];rw[Lib.run_noEscape];simp only[Result.andThen];rw[Oper.upon_value]
 go_wp2
 rw[Lib.run_from_unsafe w ⟨b,0,none⟩ u2 u1 hj hsh hlies];simp only[Result.andThen];rw[Oper.upon_value]
 go_wp2
 go_end0
 exact⟨rfl,rfl⟩
theorem wi_cc (B b:Nat) (bs:List Value) (w:World) (h:Lib.IsBuilder 120 5 B b bs w):
  Calls Tryz.prog 158 #[.pointer (some ⟨b,0,none⟩)] w λe w'=>e= .returned (.tuple #[])/\Lib.BuilderAt 120 5 B b (.pointer (some ⟨b,0,none⟩)) bs w'/\Below B w w':=by
 rcases h with h|h
 ·exact(qOG b w h.cell0 h.shape h.frozen0).mono λe w' ⟨h1,h2⟩=>⟨h1,by rw[h2];exact h.used _,by rw[h2];exact(Below.refl B w).setCell (p:=⟨b,0,none⟩) h.1 _⟩
 ·exact(wi_used b w h.cell0).mono λe w' ⟨h1,h2⟩=>⟨h1,by rw[h2];exact h,by rw[h2];exact Below.refl B w⟩
theorem wi_u8 :∃i,Tryz.prog.info? 5=some i/\i.zero=some (.int .u8 0)/\i.size=1/\i.bytes=1:=by
 obtain⟨i,h1,h2⟩:=kD.1 (show(Tryz.prog.info? 5).map (λi=>(i.zero,i.size,i.bytes))=some (some (.int .u8 0),1,1) by kernel_rfl);exact⟨i,h1,by simpa using congrArg (·.1) h2,by simpa using congrArg (·.2.1) h2,by simpa using congrArg (·.2.2) h2⟩
theorem wi_ws (B b:Nat) (bs:List Value) (s:ByteArray) (w:World) (h:Lib.IsBuilder 120 5 B b bs w) (hlen:bs.length+s.size<=140737488355328) (hBw:B<=w.heap.size):
  Calls Tryz.prog 101 #[.pointer (some ⟨b,0,none⟩),.string s] w λe w'=>e= .returned (.tuple #[.int .i64 s.size,.nilIface])/\Lib.BuilderAt 120 5 B b (.pointer (some ⟨b,0,none⟩)) (bs++Lib.strCells s) w'/\Below B w w':=by
 obtain⟨i0,hi,hz0,hz1,hz2⟩:=wi_u8;have e_fc:∀args w,(callFunc 158 args).run Tryz.prog w= .ok (.enter 158 args) w:=enters_of Tryz.func158 (by kernel_rfl) rfl
 go_enter Tryz.func101,Tryz.ntmps101
 go_wp2_with (go_at_fn 158;refine(wi_cc B b bs _ h).mono ?_)
 rintro e w1 ⟨rfl,h1,hb1⟩;obtain⟨hB,v,hbk,hown,hne⟩:=h1;have c1:w1.cell? ⟨b,1,none⟩=some v:=by rw[Lib.cell_of_heap hbk];rfl
 go_wp2_with (at_builtin;refine Lib.wpList_append_own_string _ rfl _ _ 118 9 rfl B 5 i0 (by kernel_rfl) (by kernel_rfl) hi hz0 hz1 hz2 _ _ _ rfl hown s rfl ?c3 ?c4 ?c5 ?_)
 case c3=>unfold maxLen;omega
 case c4=>omega
 case c5=>have:=hb1.size;omega
 intro v' w2 hown' hgrow _;have hlt:b<w1.heap.size:=(kE.1 hbk).1;have hb2:w2.heap[b]? =some (.cells #[.pointer (some ⟨b,0,none⟩),v] 120 (0,0)):=by
  rw[hgrow.block b hlt (λe=>hne e.symm)];exact hbk
 have d1:w2.cell? ⟨b,1,none⟩=some v:=by rw[Lib.cell_of_heap hb2];rfl
 have f1:w2.frozen? ⟨b,1,none⟩=false:=Lib.frozen_of_heap hb2 1;obtain⟨ao,n',cap,rfl⟩:∃ao n' cap,v'= .slice ao n' cap:=by
  rcases hown'.2 with⟨hv,_⟩|⟨g,cap,cur,hv,_⟩
  ·exact⟨_,_,_,hv⟩
  ·exact⟨_,_,_,hv⟩
 go_wp2
 go_ret2
 refine⟨rfl,?_,?_⟩
 ·exact Lib.BuilderAt.put (T:=120) (e:=5) hB hb2 (bs':=bs++Lib.strCells s) (by simpa[Lib.strCells_length] using hown') (by decide)
 ·exact(hb1.grown hgrow (by have:=hb1.size;omega) (λk hk=>(hown.lt k hk).1)).setCell (p:=⟨b,1,none⟩) hB _
theorem lfC {α:Type} {o:Option α} {a b:α} (h:o=some a) (e:a=b:=by kernel_rfl):o=some b:=h.trans (congrArg some e)
def wi_l9_ren :Go.Shelf.Ren:=⟨fun |169=>104|n=>n,fun |70=>117|9=>9|0=>0|72=>120|37=>118|127=>169|3=>3|5=>5|n=>n,fun n=>n⟩
theorem wi_l9 : Go.Proofs.Lays.n169 Tryz.prog wi_l9_ren :={mixed:=by kernel_rfl,f169:=lfC Tryz.func104,t0:=Tryz.underlying0,a0:=Tryz.isAgg0,z0:=Tryz.sizeOf0,v0:=Tryz.zeroValue0,t3:=Tryz.underlying3,a3:=Tryz.isAgg3,z3:=Tryz.sizeOf3,v3:=Tryz.zeroValue3,t9:=Tryz.underlying9,a9:=Tryz.isAgg9,z9:=Tryz.sizeOf9,v9:=Tryz.zeroValue9,t37:=Tryz.underlying118,a37:=Tryz.isAgg118,z37:=Tryz.sizeOf118,v37:=Tryz.zeroValue118,t70:=Tryz.underlying117,a70:=Tryz.isAgg117,z70:=Tryz.sizeOf117,v70:=Tryz.zeroValue117,t72:=Tryz.underlying120,a72:=Tryz.isAgg120,z72:=Tryz.sizeOf120,v72:=Tryz.zeroValue120,t127:=Tryz.underlying169,a127:=Tryz.isAgg169,z127:=Tryz.sizeOf169,v127:=Tryz.zeroValue169}
theorem wi_x9 :Builder.Extra Tryz.prog wi_l9_ren where
 sizeBuilder:=by kernel_rfl
 liesBuilder:=by kernel_rfl
 t5:=Tryz.underlying5
 a5:=Tryz.isAgg5
 z5:=Tryz.sizeOf5
 v5:=Tryz.zeroValue5
 infoByte:=by kernel_rfl
 cellsByte:=by kernel_rfl
 sizeByte:=by kernel_rfl
 neB5:=by decide
theorem wi_st (B b:Nat) (l:List UInt8) (w:World) (h:Lib.IsBuilder 120 5 B b (Lib.byteCells l) w) (hBw:B<=w.heap.size):
  Calls Tryz.prog 104 #[.pointer (some ⟨b,0,none⟩)] w λe w'=>e= .returned (.string ⟨l.toArray⟩)/\Below B w w':=
 Any.Builder_String_any wi_l9 wi_x9 B b l w h hBw
theorem qN3 (B b:Nat) (a s:ByteArray) (w:World) (h:Lib.IsBuilder 120 5 B b (Lib.strCells a) w) (hlen:a.size+s.size<=140737488355328) (hBw:B<=w.heap.size):
  Calls Tryz.prog 101 #[.pointer (some ⟨b,0,none⟩),.string s] w λe w'=>e= .returned (.tuple #[.int .i64 s.size,.nilIface])/\Lib.IsBuilder 120 5 B b (Lib.strCells (a++s)) w'/\Below B w w':=
 (wi_ws B b _ s w h (by rw[Lib.strCells_length];exact hlen) hBw).mono λe w' ⟨h1,h2,h3⟩=>⟨h1,.inr (by
  have:Lib.strCells (a++s)=Lib.strCells a++Lib.strCells s:=by
   unfold Lib.strCells;rw[<-List.map_append]
   congr 1
  rw[this];exact h2),h3⟩
theorem wi_st2 (B b:Nat) (a:ByteArray) (w:World) (h:Lib.IsBuilder 120 5 B b (Lib.strCells a) w) (hBw:B<=w.heap.size):
  Calls Tryz.prog 104 #[.pointer (some ⟨b,0,none⟩)] w λe w'=>e= .returned (.string a)/\Below B w w':=
 (wi_st B b a.data.toList w (by rw[<-Lib.strCells_eq];exact h) hBw).mono λe w' ⟨h1,h2⟩=>⟨by rw[h1],h2⟩
theorem JR {p:Prop} (h:p):Hid p:=h
theorem qNG {f:Int->Option ByteArray} {n:Int} {l:List Int} {s r:ByteArray} (h:qDS f (n::l) s=some r):∃t,f n=some t/\s.size+t.size<=140737488355328/\qDS f l (s++t)=some r:=by
 unfold qDS at h;obtain⟨t,h1,h2⟩:=qE h;obtain⟨h3,h4⟩:=qH h2;exact⟨t,h1,kX h3,h4⟩
theorem qL3 (a1:List Int) (r:ByteArray) (hm:intsM DV OG a1=some r) (w:World) (A:Nat->Prop) (hg:zL globs w A) (ao:Option Addr) (cap:Nat) (hl:a1.length<=9223372036854775807)
  (hc:∀i,i<a1.length->∃b o,ao=some ⟨b,o,none⟩/\b<w.heap.size/\w.cell? ⟨b,o+i,none⟩=some (.int .i64 (a1.getD i dd))):
  Calls Tryz.prog 49 #[.slice ao a1.length cap] w λe w'=>e= .returned (.string r)/\Below w.heap.size w w':=by
 obtain⟨h0,hu,hm⟩:=qE hm;obtain⟨hs,hm⟩:=qH hm;have hs:=kX hs;have e_fw:∀args w,(callFunc 101 args).run Tryz.prog w= .ok (.enter 101 args) w:=enters_of Tryz.func101 (by kernel_rfl) rfl;have e_fu:∀args w,(callFunc 102 args).run Tryz.prog w= .ok (.enter 102 args) w:=enters_of Tryz.func102 (by kernel_rfl) rfl;have e_fi:∀args w,(callFunc 103 args).run Tryz.prog w= .ok (.enter 103 args) w:=enters_of Tryz.func103 (by kernel_rfl) rfl;have e_fs:∀args w,(callFunc 104 args).run Tryz.prog w= .ok (.enter 104 args) w:=enters_of Tryz.func104 (by kernel_rfl) rfl;have HC:=JR hc;have HM:=JR hm;have HG:=JR hg
 clear hc hm hg;have hu0:IntKind.u64.wrap (a1.length:Int)=(a1.length:Int):=by
  simp[IntKind.wrap,IntKind.bits,IntKind.signed];omega
 rw[hu0] at hu
 go_enter Tryz.func49,Tryz.ntmps49
 go_wp2_with fail
 have hb0:Below w.heap.size w (w.alloc (Obj.cells #[Value.pointer none,Value.slice none 0 0] 120)):=(Below.refl _ w).alloc (kr _) _;refine((CtX.call1 (IF _ _ hu) rfl _ A (HG.out.later hb0))).mono ?_;rintro e w1 ⟨rfl,hb1⟩;have hsz:(w.alloc (Obj.cells #[Value.pointer none,Value.slice none 0 0] 120)).heap.size=w.heap.size+1:=by simp
 have hib1:Lib.IsBuilder 120 5 w.heap.size w.heap.size (Lib.strCells ⟨#[]⟩) w1:= .inl ⟨kr _,.slice none 0 0,by rw[hb1.block _ (by rw[hsz];omega)];exact heap_alloc_new w _,World.ownsRow_nil _ _ _ _,by simp[Value.ownBlock]⟩;have hb1':Below w.heap.size w w1:=hb0.trans ⟨hb1.os,hb1.tape,hb1.output,hb1.size,λb hb=>hb1.block b (by rw[hsz];omega)⟩;have HI1:=JR hib1;have HB1:=JR hb1';clear hib1 hb1' hb1
 go_wp2_with fail
 refine(qN3 w.heap.size w.heap.size ⟨#[]⟩ h0 w1 HI1.out (by show 0+h0.size<=_;omega) HB1.out.size).mono ?_;rintro e w2 ⟨rfl,hib2,hb2⟩;have he0:(⟨#[]⟩:ByteArray)++h0=h0:=by
  apply ByteArray.ext;simp
 rw[he0] at hib2;have HI2:=JR hib2;have HB2:=JR (HB1.out.trans hb2);clear hib2 hb2
 go_wp2_with fail
 go_loopw [13] (λi wr=>∃(k:Nat) (acc:ByteArray),k<=a1.length/\i= .int .i64 k/\Hid (qDS OG (a1.drop k) acc=some r)/\Hid (Lib.IsBuilder 120 5 w.heap.size w.heap.size (Lib.strCells acc) wr)/\Hid (Below w.heap.size w wr)) (λi _=>a1.length-(RowKit.intOf i).toNat)
 case atStart=>exact⟨0,h0,kY _,rfl,HM,HI2,HB2⟩
 case round=>
  obtain⟨k,acc,hk,rfl,HJ,HB,HW⟩:=hrel;by_cases hlt:k<a1.length
  ·obtain⟨b,o,rfl,hbw,hcell⟩:=HC.out k hlt;have hd:a1.drop k=a1.getD k dd::a1.drop (k+1):=by
    rw[gu hlt,ka,kq hlt];rfl
   have hj:=HJ.out;rw[hd] at hj;obtain⟨t,ht,hr1,hj'⟩:=qNG hj;have hcw:wr.cell? ⟨b,o+k,none⟩=some (.int .i64 (a1.getD k dd)):=by
    rw[<-hcell];exact World.cell?_of_block (HW.out.block b hbw)
   generalize a1.getD k dd=z at hd ht hcw hcell;have HJ':=JR hj';have HT:=JR ht;clear hj hj' hd hcell ht
   go_wp2_with fail
   refine((CtX.call1 (qLx _ _ HT.out) rfl _ A (HG.out.later HW.out))).mono ?_;rintro e w3 ⟨rfl,hb3⟩;have hib3:Lib.IsBuilder 120 5 w.heap.size w.heap.size (Lib.strCells acc) w3:=by
    refine HB.out.imp ?_ ?_
    ·rintro⟨q1,v,q2,q3,q4⟩;exact⟨q1,v,by rw[hb3.block _ (kE.1 q2).1];exact q2,q3.kept (row:=none) ⟨hb3.os,hb3.tape,hb3.output,hb3.size,λj hj _=>hb3.block j hj⟩ (by cases v.ownBlock<;>simp),q4⟩
    ·rintro⟨q1,v,q2,q3,q4⟩;exact⟨q1,v,by rw[hb3.block _ (kE.1 q2).1];exact q2,q3.kept (row:=none) ⟨hb3.os,hb3.tape,hb3.output,hb3.size,λj hj _=>hb3.block j hj⟩ (by cases v.ownBlock<;>simp),q4⟩
   have HI3:=JR hib3;have HB3:=JR (HW.out.trans ⟨hb3.os,hb3.tape,hb3.output,hb3.size,λj hj=>hb3.block j (kL hj HW.out.size)⟩);clear hib3 hb3
   go_wp2_with fail
   refine(qN3 w.heap.size w.heap.size acc t w3 HI3.out hr1 HB3.out.size).mono ?_;rintro e w4 ⟨rfl,hib4,hb4⟩;have HI4:=JR hib4;have HB4:=JR (HB3.out.trans hb4);clear hib4 hb4
   go_wp2
   exact⟨⟨k+1,acc++t,by omega,by go_num,HJ',HI4,HB4⟩,by simp[RowKit.intOf];omega⟩
  ·have hke:k=a1.length:=by omega
   subst hke;have hj:=HJ.out;rw[List.drop_length] at hj;obtain rfl:=oi hj;clear hj
   go_wp2_with fail
   refine(wi_st2 w.heap.size w.heap.size acc wr HB.out HW.out.size).mono ?_;rintro e w5 ⟨rfl,hb5⟩;have HB5:=JR (HW.out.trans hb5);clear hb5
   go_wp2
   go_ret
   exact⟨rfl,HB5.out⟩
theorem IW (a1:List Int) (r:ByteArray) (hm:qAc a1=some r):CtX Tryz.prog globs 49 0 0 [.one (tl qK dd a1)] [] (ML r) (VW r):=by
 refine qKs rfl rfl λw A v hg hv=>?_;have hv':IRep w A (.lst a1.length (rf qK a1)) v:=hv;clear hv;generalize hq:a1.length=q at hv';cases hv' with
 |lst0 a=>
  have:=qL3 a1 r hm w A hg a 0 (by omega) (λi hi=>by omega);rw[hq] at this;exact this
 |lst b o n cap sz f g hn hmx hl hb hc hr=>
  have:=qL3 a1 r hm w A hg (some ⟨b,o,none⟩) cap (by unfold maxLen at hmx;omega) (λi hi=>by
   have hi':i<q:=by omega
   have hs:1=sz:=hl i hi';subst hs;have h1:=hc i 0 hi' (by omega);have h2:=(hr i 0 hi' (by omega)).val_eq;rw[h2,Nat.mul_one,kV] at h1;exact⟨b,o,rfl,World.block_lt_of_cell? w _ h1,h1⟩)
  rw[hq] at this;exact this
open Go.Proofs Go.Proofs.Tryz
def qDI (r:(List Int)):V:=vo 0 0 1 r.length
def qDk (r:(List Int)):List (Nat×(Nat×O)):=[(0,ro 0 3 1 r.length (rf qK r))]
def XK (a1:List qL) (l2:List Int) (l2n:Nat) (x3:Int):St:=
 ⟨[(3,vo 0 0 1 l2n),(7,vc (tl qO dd a1)),(8,vi (a1.length:Int)),(9,vi x3)],[(0,ro 0 3 1 l2n (rf qK l2))]⟩
def BK (l7:List Int):St:=
 ⟨[(3,vo 0 0 1 l7.length)],[(0,ro 0 3 1 l7.length (rf qK l7))]⟩
theorem qAO (E:Env 0) (a1:List qL):∀(n:Nat) (l2:List Int) (l2n:Nat) (x3:Int) (res:(List Int)),l2.length=l2n->PT a1 n l2 x3=some res->HL (kx E 40 0) (nd f51 116) (zW 0 BK res) n (XK a1 l2 l2n x3):=by
 intro n
 induction n with
 |zero=>
  intro l2 l2n x3 res hl0 hm;cases hm
 |succ n ih=>
  intro l2 l2n x3 res hl0 hm;subst hl0;refine qU (s_va 1 [(10,vb (decide (x3<(a1.length:Int))))] ?_);refine q_sq (q_cq hm (λhm=>?_) (λhm=>?_))
  ·refine q_sk (q_sq ?_);refine q_bk 1 ?_;obtain⟨g5,hm⟩:=qH hm;refine s_vu [qi 0 g5] 1 [10] [(5,vp 1 0)] [] [(1,bx 68 (qO (a1.getD x3.toNat dd)))] (s_vu [] 2 [] [(6,vp 2 0)] [] [(2,bx 66 (qGT ((a1.getD x3.toNat dd).Box)))] ?_);obtain⟨g6,hm⟩:=qH hm
   refine q_vu [qd 21 (drw 3 0 (rf qK [(a1.getD x3.toNat dd).Kind,(((a1.getD x3.toNat dd).Box).X).A,(((a1.getD x3.toNat dd).Box).X).B,(((a1.getD x3.toNat dd).Box).Y).A,(((a1.getD x3.toNat dd).Box).Y).B,(((a1.getD x3.toNat dd).Box).Z).A,(((a1.getD x3.toNat dd).Box).Z).B])) (litP qK dd 1 (λ_=>rfl) ([(a1.getD x3.toNat dd).Kind,(((a1.getD x3.toNat dd).Box).X).A,(((a1.getD x3.toNat dd).Box).X).B,(((a1.getD x3.toNat dd).Box).Y).A,(((a1.getD x3.toNat dd).Box).Y).B,(((a1.getD x3.toNat dd).Box).Z).A,(((a1.getD x3.toNat dd).Box).Z).B]:List Int) 7 rfl),qd 22 (drw 0 1 (rf qK (l2++[(a1.getD x3.toNat dd).Kind,(((a1.getD x3.toNat dd).Box).X).A,(((a1.getD x3.toNat dd).Box).X).B,(((a1.getD x3.toNat dd).Box).Y).A,(((a1.getD x3.toNat dd).Box).Y).B,(((a1.getD x3.toNat dd).Box).Z).A,(((a1.getD x3.toNat dd).Box).Z).B]))) (apP qK dd l2 ([(a1.getD x3.toNat dd).Kind,(((a1.getD x3.toNat dd).Box).X).A,(((a1.getD x3.toNat dd).Box).X).B,(((a1.getD x3.toNat dd).Box).Y).A,(((a1.getD x3.toNat dd).Box).Y).B,(((a1.getD x3.toNat dd).Box).Z).A,(((a1.getD x3.toNat dd).Box).Z).B]:List Int) l2.length 7 1 8 (7<=7) (kr _) rfl rfl (λ_=>rfl) (wE g6))] 3 [3,5,6] [(3,vo 0 1 1 (l2.length+7))] [0,1,2] [(0,ro 1 3 1 (l2.length+7) (rf qK (l2++[(a1.getD x3.toNat dd).Kind,(((a1.getD x3.toNat dd).Box).X).A,(((a1.getD x3.toNat dd).Box).X).B,(((a1.getD x3.toNat dd).Box).Y).A,(((a1.getD x3.toNat dd).Box).Y).B,(((a1.getD x3.toNat dd).Box).Z).A,(((a1.getD x3.toNat dd).Box).Z).B])))] ?_
   exact q_vv [] 4 [9] [(9,vi (w64 (x3+1)))] (q_hl (XK a1 (l2++[(a1.getD x3.toNat dd).Kind,(((a1.getD x3.toNat dd).Box).X).A,(((a1.getD x3.toNat dd).Box).X).B,(((a1.getD x3.toNat dd).Box).Y).A,(((a1.getD x3.toNat dd).Box).Y).B,(((a1.getD x3.toNat dd).Box).Z).A,(((a1.getD x3.toNat dd).Box).Z).B]) (l2.length+7) (w64 (x3+1))) (ih (l2++[(a1.getD x3.toNat dd).Kind,(((a1.getD x3.toNat dd).Box).X).A,(((a1.getD x3.toNat dd).Box).X).B,(((a1.getD x3.toNat dd).Box).Y).A,(((a1.getD x3.toNat dd).Box).Y).B,(((a1.getD x3.toNat dd).Box).Z).A,(((a1.getD x3.toNat dd).Box).Z).B]) (l2.length+7) (w64 (x3+1)) _ (wS rfl rfl) hm))
  ·refine q_ex 0 ?_;obtain rfl:=oi hm;exact q_l0
theorem qCH (a1:List qL) (r:(List Int)) (hm:DF a1=some r):CtX Tryz.prog globs 51 0 0 [.one (tl qO dd a1)] [] (qDI r) (qDk r):=by
 unfold DF at hm;refine q_E f51 40 λE=>?_;refine s_vn [] 0 ⟨[(0,vc (tl qO dd a1))],[]⟩ (s_va 0 [(3,vc (.emp))] ?_);refine q_sq (s_vv [] 0 [0] [(7,vc (tl qO dd a1)),(8,vi (a1.length:Int)),(9,vi 0)] ?_);refine q_fo 3 0 3 1 qK ?_;obtain⟨o8,h9,hm⟩:=qE hm;refine zU (nd f51 116) 0 (by kernel_rfl) FUEL BK o8 (q_hl (XK a1 ([]:List Int) 0 0) (qAO E a1 FUEL ([]:List Int) 0 0 o8 rfl h9)) (s_vv [] 1 [3] [(2,vo 0 0 1 o8.length)] ?_);obtain rfl:=oi hm;exact q_rt q_rm
def qJa (r:ByteArray×Int):V:= .tup [.one (cs r.1),.one (ci r.2)]
def qIO (r:ByteArray×Int):List (Nat×(Nat×O)):=[]
def DE (a1:Scan) (l5:List Int) (l5n:Nat) (x6:ByteArray) (x7:Int):St:=
 ⟨[(1,vp 0 0),(5,vo 1 0 1 l5n),(6,vc (cs x6)),(15,vi (a1.Rings.length:Int)),(16,vi x7)],[(0,bx 25 (qZ a1)),(1,ro 0 3 1 l5n (rf qK l5))]⟩
def IU (a1:Scan) (l16:List Int) (x17:ByteArray):St:=
 ⟨[(1,vp 0 0),(5,vo 1 0 1 l16.length),(6,vc (cs x17))],[(0,bx 25 (qZ a1)),(1,ro 0 3 1 l16.length (rf qK l16))]⟩
theorem qEi (E:Env 0) (a1:Scan):∀(n:Nat) (l5:List Int) (l5n:Nat) (x6:ByteArray) (x7:Int) (res:(List Int)×ByteArray),l5.length=l5n->LM a1 n l5 x6 x7=some res->HL (kx E 48 0) (nd f19 500) (zW 0 (λo=>IU a1 o.1 o.2) res) n (DE a1 l5 l5n x6 x7):=by
 intro n
 induction n with
 |zero=>
  intro l5 l5n x6 x7 res hl0 hm;cases hm
 |succ n ih=>
  intro l5 l5n x6 x7 res hl0 hm;subst hl0;refine qU (s_va 2 [(17,vb (decide (x7<(a1.Rings.length:Int))))] ?_);refine q_sq (q_cq hm (λhm=>?_) (λhm=>?_))
  ·refine q_sk (q_sq ?_);refine q_bk 1 (s_vv [] 2 [17] [(7,vi x7)] ?_);obtain⟨g9,hm⟩:=qH hm;obtain⟨g10,hm⟩:=qH hm;refine s_vu [qi 4 g9,qd 7 (drw 2 0 (rf qK [(a1.Rings.getD x7.toNat dd).Z])) (litP qK dd 1 (λ_=>rfl) ([(a1.Rings.getD x7.toNat dd).Z]:List Int) 1 rfl),qd 8 (drw 1 1 (rf qK (l5++[(a1.Rings.getD x7.toNat dd).Z]))) (apP qK dd l5 ([(a1.Rings.getD x7.toNat dd).Z]:List Int) l5.length 1 1 8 (1<=1) (kr _) rfl rfl (λ_=>rfl) (wE g10))] 2 [5] [(5,vo 1 1 1 (l5.length+1))] [1] [(1,ro 1 3 1 (l5.length+1) (rf qK (l5++[(a1.Rings.getD x7.toNat dd).Z])))] ?_;obtain⟨v11,h12,hm⟩:=qE hm
   obtain⟨v13,h14,hm⟩:=qE hm;obtain⟨g15,hm⟩:=qH hm;refine q_vv [qi 4 g9,qc 7 [34] 3 (qBQ ((a1.Rings.getD x7.toNat dd).Read) v11 h12),qd 8 (dex (cen [] [] 4 0 (ML v13) (VW v13) [35] [3])) (zI (K:=(kx E 48 0)) (b:=false) ⟨[(35,vo 3 0 1 v11.length)],[(3,ro 0 3 1 v11.length (rf qK v11))]⟩ (opAt (rg f19 32051) 8) [] [] 4 (o1 (kr v11.length)) rfl (IW v11 v13 h14) (.inr ⟨(by kernel_rfl),qAz v13⟩) (by kernel_rfl)),qd 9 dN (qBO g15)] 3 [6,7] [(6,vc (cs (x6++v13)))] (q_vv [] 4 [16] [(16,vi (w64 (x7+1)))] ?_)
   exact q_hl (DE a1 (l5++[(a1.Rings.getD x7.toNat dd).Z]) (l5.length+1) (x6++v13) (w64 (x7+1))) (ih (l5++[(a1.Rings.getD x7.toNat dd).Z]) (l5.length+1) (x6++v13) (w64 (x7+1)) _ (wS rfl rfl) hm)
  ·refine q_ex 0 ?_;obtain rfl:=oi hm;exact q_l0
theorem qHC (a1:Scan) (r:ByteArray×Int) (hm:PM a1=some r):CtX Tryz.prog globs 19 0 0 [.agg (qZ a1)] [] (qJa r) (qIO r):=by
 unfold PM at hm;refine q_E f19 48 λE=>?_;refine s_vn [] 0 ⟨[(1,vp 0 0)],[(0,bx 25 (qZ a1))]⟩ (q_sq ?_);obtain⟨v2,h3,hm⟩:=qE hm;refine s_vv [qc 1 [8] 1 (KT a1 v2 h3)] 1 [] [(4,vi v2)] (s_va 1 [(11,vb (v2 !=0))] ?_);refine q_cq hm (λhm=>?_) (λhm=>?_)
 ·refine s_vn [] 1 ⟨[(2,vc (cs (ByteArray.mk #[]))),(3,vi v2)],[]⟩ ?_;obtain rfl:=oi hm;exact q_rt q_rm
 ·refine q_sk (s_vv [] 1 [4,11] [(5,vc (.emp))] ?_);refine s_va 1 [(6,vc (cs (ByteArray.mk #[])))] (q_sq ?_);refine s_va 1 [(15,vi (a1.Rings.length:Int)),(16,vi 0)] (q_fo 5 1 3 1 qK ?_);obtain⟨o18,h19,hm⟩:=qE hm;refine zU (nd f19 500) 0 (by kernel_rfl) FUEL (λo=>IU a1 o.1 o.2) o18 (q_hl (DE a1 ([]:List Int) 0 (ByteArray.mk #[]) 0) (qEi E a1 FUEL ([]:List Int) 0 (ByteArray.mk #[]) 0 o18 rfl h19)) ?_;obtain⟨v20,h21,hm⟩:=qE hm;obtain⟨g22,hm⟩:=qH hm;obtain⟨v23,h24,hm⟩:=qE hm;obtain⟨v25,h26,hm⟩:=qE hm;obtain⟨g27,hm⟩:=qH hm
  refine s_dn [qd 1 (dex (cen [] [] 2 0 (ML v20) (VW v20) [39] [1])) (zI (K:=(kx E 48 0)) (b:=false) ⟨[(39,vo 1 0 1 o18.1.length)],[(1,ro 0 3 1 o18.1.length (rf qK o18.1))]⟩ (opAt (rg f19 126) 1) [] [] 2 (o1 (kr o18.1.length)) rfl (IW o18.1 v20 h21) (.inr ⟨(by kernel_rfl),qAz v20⟩) (by kernel_rfl)),qd 3 dN (qBO g22),qc 6 [44] 2 (qCH a1.Defects v23 h24),qd 7 (dex (cen [] [] 3 0 (ML v25) (VW v25) [45] [2])) (zI (K:=(kx E 48 0)) (b:=false) ⟨[(45,vo 2 0 1 v23.length)],[(2,ro 0 3 1 v23.length (rf qK v23))]⟩ (opAt (rg f19 126) 7) [] [] 3 (o1 (kr v23.length)) rfl (IW v23 v25 h26) (.inr ⟨(by kernel_rfl),qAz v25⟩) (by kernel_rfl)),qd 8 dN (qBO g27)] [0,1,0,7,0,16,51,115,255,511,1023] 2 ⟨[(2,vc (cs ((v20++o18.2)++v25))),(3,vi 0)],[]⟩ ?_
  obtain rfl:=oi hm;exact q_rt q_rm
open Go.Proofs Go.Proofs.Tryz
def yD (a1:Int) (a2:qF) (r:Int×Int×Int):V:= .tup [.one (.val (.int .u64 r.1)),.one (ci r.2.1),.one (ci r.2.2)]
def yF (a1:Int) (a2:qF) (r:Int×Int×Int):List (Nat×(Nat×O)):=[(0,bx 172 (qJ a2))]
def OP (a1:Int) (a2:qF) (x3:Int) (x4:Int) (x13:Bool):St:=
 ⟨[(1,vi a1),(7,vc (.val (.int .u64 (orI .u64 x3 (shlI .u64 (IntKind.u64.wrap (andI .u8 (WO a2.s ((w64 (a1+x4)).toNat)) 127)) (w64 (7*x4))))))),(8,vi x4),(50,vb x13)],[(0,bx 172 (qJ a2))]⟩
def OQ (a1:Int) (a2:qF) (x3:Int) (x4:Int) (x8:Bool):St:=
 ⟨[(0,vp 0 0),(1,vi a1),(7,vc (.val (.int .u64 x3))),(8,vi x4),(9,vc (.val (.int .u8 (WO a2.s ((w64 (a1+x4)).toNat))))),(34,vb x8)],[(0,bx 172 (qJ a2))]⟩
def WS (a1:Int) (a2:qF) (x3:Int) (x4:Int):St:=
 ⟨[(0,vp 0 0),(1,vi a1),(7,vc (.val (.int .u64 x3))),(8,vi x4)],[(0,bx 172 (qJ a2))]⟩
def UW :St:=
 ⟨[],[]⟩
theorem IC (E:Env 1) (a1:Int) (a2:qF):∀(n:Nat) (x3:Int) (x4:Int) (res:(Int×Int×Int)⊕Unit),jN a1 a2 n x3 x4=some res->HL (kx E 56 1) (nd f185 60) (jJ 0 (λo=>UW) (λv st=>RetQ Tryz.prog f185 (yD a1 a2 v) (yF a1 a2 v) .ret st) res) n (WS a1 a2 x3 x4):=by
 intro n
 induction n with
 |zero=>
  intro x3 x4 res hm;cases hm
 |succ n ih=>
  intro x3 x4 res hm;refine qU (q_sq ?_);refine q_bk 1 (q_sq ?_);refine s_va 1 [(20,vb (decide ((w64 (a1+x4))≥(a2.s.size:Int))))] (q_cq hm (λhm=>?_) (λhm=>?_))
  ·refine s_vv [] 1 [0,1,7,8,20] [(4,vc (.val (.int .u64 0))),(5,vi 0),(6,vi 3)] ?_;obtain rfl:=oi hm;refine q_rt (zR (0,0,3) ?_);exact q_rm
  ·refine q_sk ?_;obtain⟨g6,hm⟩:=qH hm;refine s_vv [qi 7 g6] 1 [20] [(9,vc (.val (.int .u8 (WO a2.s ((w64 (a1+x4)).toNat)))))] (q_sq ?_);refine q_jn (OQ a1 a2 x3 x4) (λp=>YO a1 a2 x3 x4 (jN a1 a2 n) p=some res) ?_ ?_
   ·rintro x8 hm;refine q_cq hm (λhm=>?_) (λhm=>?_)
    ·refine s_vv [] 1 [0,1,7,8,9,34] [(4,vc (.val (.int .u64 0))),(5,vi 0),(6,vi 5)] ?_;obtain rfl:=oi hm;refine q_rt (zR (0,0,5) ?_);exact q_rm
    ·refine q_sk ?_;obtain⟨g10,hm⟩:=qH hm;refine s_vv [qd 6 dN (nneg_of g10)] 1 [7,34] [(7,vc (.val (.int .u64 (orI .u64 x3 (shlI .u64 (IntKind.u64.wrap (andI .u8 (WO a2.s ((w64 (a1+x4)).toNat)) 127)) (w64 (7*x4)))))))] (q_sq ?_);refine s_va 1 [(44,vb (decide ((WO a2.s ((w64 (a1+x4)).toNat))≥128)))] (q_cq hm (λhm=>?_) (λhm=>?_))
     ·refine q_ex 1 (q_vv [] 1 [8,9,44] [(8,vi (w64 (x4+1)))] ?_);exact q_hl (WS a1 a2 (orI .u64 x3 (shlI .u64 (IntKind.u64.wrap (andI .u8 (WO a2.s ((w64 (a1+x4)).toNat)) 127)) (w64 (7*x4)))) (w64 (x4+1))) (ih (orI .u64 x3 (shlI .u64 (IntKind.u64.wrap (andI .u8 (WO a2.s ((w64 (a1+x4)).toNat)) 127)) (w64 (7*x4)))) (w64 (x4+1)) _ hm)
     ·refine q_sk (q_sq ?_);refine q_jn (OP a1 a2 x3 x4) (λp=>XI a1 a2 x3 x4 p=some res) ?_ ?_
      ·rintro x13 hm;refine q_cq hm (λhm=>?_) (λhm=>?_)
       ·refine s_vv [] 1 [1,7,8,50] [(4,vc (.val (.int .u64 0))),(5,vi 0),(6,vi 5)] ?_;obtain rfl:=oi hm;refine q_rt (zR (0,0,5) ?_);exact q_rm
       ·refine q_sk (s_vv [] 1 [1,7,8,50] [(4,vc (.val (.int .u64 (orI .u64 x3 (shlI .u64 (IntKind.u64.wrap (andI .u8 (WO a2.s ((w64 (a1+x4)).toNat)) 127)) (w64 (7*x4))))))),(5,vi (w64 ((w64 (a1+x4))+1))),(6,vi 0)] ?_);obtain rfl:=oi hm;refine q_rt (zR (orI .u64 x3 (shlI .u64 (IntKind.u64.wrap (andI .u8 (WO a2.s ((w64 (a1+x4)).toNat)) 127)) (w64 (7*x4))),w64 ((w64 (a1+x4))+1),0) ?_);exact q_rm
      ·rcases bif_c hm with⟨b12,hm⟩|⟨b12,hm⟩
       ·exact q_vv [qf 2 b12] 1 [0,9,44] [(50,vb (decide (x4>0)))] (q_J (decide (x4>0)) hm)
       ·exact q_vv [qf 2 b12] 1 [0,9,44] [(50,vb false)] (q_J (false) hm)
   ·rcases bif_c hm with⟨b7,hm⟩|⟨b7,hm⟩
    ·exact q_vv [qf 2 b7] 1 [] [(34,vb (decide ((WO a2.s ((w64 (a1+x4)).toNat))>1)))] (q_J (decide ((WO a2.s ((w64 (a1+x4)).toNat))>1)) hm)
    ·exact q_vv [qf 2 b7] 1 [] [(34,vb false)] (q_J (false) hm)
theorem BB (a1:Int) (a2:qF) (r:Int×Int×Int) (hm:JP a1 a2=some r):CtX Tryz.prog globs 185 1 1 [.one (.bptr 0 0 0),.one (ci a1)] [(0,bx 172 (qJ a2))] (yD a1 a2 r) (yF a1 a2 r):=by
 unfold JP at hm;refine q_E f185 56 λE=>?_;refine s_vn [] 1 ⟨[(0,vp 0 0),(1,vi a1)],[(0,bx 172 (qJ a2))]⟩ (s_va 1 [(7,vc (.val (.int .u64 0)))] ?_);refine s_va 1 [(8,vi 0)] ?_;obtain⟨u17,h16,hm⟩:=qE hm;refine zZ (nd f185 60) 0 (by kernel_rfl) FUEL (λo=>UW) (λv st=>RetQ Tryz.prog f185 (yD a1 a2 v) (yF a1 a2 v) .ret st) u17 (q_hl (WS a1 a2 0 0) (IC E a1 a2 FUEL 0 0 u17 h16)) ?_ ?_
 ·rintro v18 rfl st hr;obtain rfl:=oi hm;exact hr
 ·rintro o15 rfl;replace hm:_=some r:=hm;cases hm
def NI (a1:Int) (a2:Int) (a3:Int) (a4:qF) (r:Int×Int×Int):V:= .tup [.one (ci r.1),.one (ci r.2.1),.one (ci r.2.2)]
def NS (a1:Int) (a2:Int) (a3:Int) (a4:qF) (r:Int×Int×Int):List (Nat×(Nat×O)):=[(0,bx 172 (qJ a4))]
def OS (a4:qF) (v5:Int×Int×Int) (x9:Int) (x11:Bool):St:=
 ⟨[(12,vi v5.2.1),(14,vi x9),(40,vb x11)],[(0,bx 172 (qJ a4))]⟩
def OR (a2:Int) (a3:Int) (a4:qF) (v5:Int×Int×Int) (x9:Int):St:=
 ⟨[(2,vi a2),(3,vi a3),(12,vi v5.2.1),(14,vi x9)],[(0,bx 172 (qJ a4))]⟩
theorem qA7 (a1:Int) (a2:Int) (a3:Int) (a4:qF) (r:Int×Int×Int) (hm:TJ a1 a2 a3 a4=some r):CtX Tryz.prog globs 162 1 1 [.one (.bptr 0 0 0),.one (ci a1),.one (ci a2),.one (ci a3)] [(0,bx 172 (qJ a4))] (NI a1 a2 a3 a4 r) (NS a1 a2 a3 a4 r):=by
 unfold TJ at hm;refine q_E f162 43 λE=>?_;refine s_vn [] 1 ⟨[(0,vp 0 0),(1,vi a1),(2,vi a2),(3,vi a3)],[(0,bx 172 (qJ a4))]⟩ ?_;obtain⟨v5,h6,hm⟩:=qE hm;refine s_vv [qd 2 (dex (cen [(0,0)] [0] 0 1 (yD a1 a4 v5) (yF a1 a4 v5) [16,17] [0])) (zI (K:=(kx E 43 1)) ⟨[(16,vp 0 0),(17,vi a1)],[(0,bx 172 (qJ a4))]⟩ (opAt (rg f162 6) 2) [(0,0)] [0] 0 o0 rfl (BB a1 a4 v5 h6) (.inl rfl) (by kernel_rfl))] 1 [0,1] [(11,vc (.val (.int .u64 v5.1))),(12,vi v5.2.1),(13,vi v5.2.2)] (q_sq ?_);refine s_va 1 [(23,vb (v5.2.2 !=0))] (q_cq hm (λhm=>?_) (λhm=>?_))
 ·refine s_vv [] 1 [2,3,11,12,13,23] [(8,vi 0),(9,vi 0),(10,vi v5.2.2)] ?_;obtain rfl:=oi hm;exact q_rt q_rm
 ·refine q_sk (s_vv [qd 1 dN (show¬(1:Int)<0 by decide)] 1 [13,23] [(14,vi (w64 (shrI .u64 v5.1 1)))] ?_);refine q_jn (OR a2 a3 a4 v5) (λp=>YT a2 a3 v5 p=some r) ?_ ?_
  ·rintro x9 hm;refine q_sq (q_jn (OS a4 v5 x9) (λp=>XN v5 x9 p=some r) ?_ ?_)
   ·rintro x11 hm;refine q_cq hm (λhm=>?_) (λhm=>?_)
    ·refine s_vv [] 1 [12,14,40] [(8,vi 0),(9,vi 0),(10,vi 9)] ?_;obtain rfl:=oi hm;exact q_rt q_rm
    ·refine q_sk (s_vv [] 1 [12,14,40] [(8,vi x9),(9,vi v5.2.1),(10,vi 0)] ?_);obtain rfl:=oi hm;exact q_rt q_rm
   ·rcases bif_c hm with⟨b10,hm⟩|⟨b10,hm⟩
    ·exact q_vv [qf 3 b10] 1 [2,3] [(40,vb true)] (q_J (true) hm)
    ·exact q_vv [qf 3 b10] 1 [2,3] [(40,vb (decide (x9>a3)))] (q_J (decide (x9>a3)) hm)
  ·refine s_vv [] 1 [11] [(30,vb ((andI .u64 v5.1 1)==1))] (q_cq hm (λhm=>?_) (λhm=>?_))
   ·exact q_vv [] 1 [14,30] [(14,vi (notI .i64 (w64 (shrI .u64 v5.1 1))))] (q_J (notI .i64 (w64 (shrI .u64 v5.1 1))) hm)
   ·exact q_sk (q_J (w64 (shrI .u64 v5.1 1)) hm)
def BD (a1:qF) (r:Bool):V:=vb r
def DS (a1:qF) (r:Bool):List (Nat×(Nat×O)):=[(0,bx 172 (qJ a1))]
theorem qAF (a1:qF) (r:Bool) (hm:PR a1=some r):CtX Tryz.prog globs 160 1 1 [.one (.bptr 0 0 0)] [(0,bx 172 (qJ a1))] (BD a1 r) (DS a1 r):=by
 unfold PR at hm;refine q_E f160 12 λE=>?_;refine s_vn [] 1 ⟨[(0,vp 0 0)],[(0,bx 172 (qJ a1))]⟩ (s_vv [] 1 [0] [(2,vb (a1.e !=0))] ?_);obtain rfl:=oi hm;exact q_rt q_rm
open Go.Proofs Go.Proofs.Tryz
def DY (a1:Int) (a2:Int) (a3:qF) (r:Int×Int×Int):V:= .tup [.one (.val (.int .u64 r.1)),.one (ci r.2.1),.one (ci r.2.2)]
def DZ (a1:Int) (a2:Int) (a3:qF) (r:Int×Int×Int):List (Nat×(Nat×O)):=[(0,bx 172 (qJ a3))]
def OB (a3:qF) (v4:Int×Int×Int) (x8:Bool):St:=
 ⟨[(9,vc (.val (.int .u64 v4.1))),(10,vi v4.2.1),(29,vb x8)],[(0,bx 172 (qJ a3))]⟩
theorem qAN (a1:Int) (a2:Int) (a3:qF) (r:Int×Int×Int) (hm:PQ a1 a2 a3=some r):CtX Tryz.prog globs 161 1 1 [.one (.bptr 0 0 0),.one (ci a1),.one (ci a2)] [(0,bx 172 (qJ a3))] (DY a1 a2 a3 r) (DZ a1 a2 a3 r):=by
 unfold PQ at hm;refine q_E f161 32 λE=>?_;refine s_vn [] 1 ⟨[(0,vp 0 0),(1,vi a1),(2,vi a2)],[(0,bx 172 (qJ a3))]⟩ ?_;obtain⟨v4,h5,hm⟩:=qE hm;refine s_vv [qd 2 (dex (cen [(0,0)] [0] 0 1 (yD a1 a3 v4) (yF a1 a3 v4) [13,14] [0])) (zI (K:=(kx E 32 1)) ⟨[(13,vp 0 0),(14,vi a1)],[(0,bx 172 (qJ a3))]⟩ (opAt (rg f161 6) 2) [(0,0)] [0] 0 o0 rfl (BB a1 a3 v4 h5) (.inl rfl) (by kernel_rfl))] 1 [0,1] [(9,vc (.val (.int .u64 v4.1))),(10,vi v4.2.1),(11,vi v4.2.2)] (q_sq ?_);refine s_va 1 [(20,vb (v4.2.2 !=0))] (q_cq hm (λhm=>?_) (λhm=>?_))
 ·refine s_vv [] 1 [2,9,10,11,20] [(6,vc (.val (.int .u64 0))),(7,vi 0),(8,vi v4.2.2)] ?_;obtain rfl:=oi hm;exact q_rt q_rm
 ·refine q_sk (q_sq ?_);refine q_jn (OB a3 v4) (λp=>YF v4 p=some r) ?_ ?_
  ·rintro x8 hm;refine q_cq hm (λhm=>?_) (λhm=>?_)
   ·refine s_vv [] 1 [9,10,29] [(6,vc (.val (.int .u64 0))),(7,vi 0),(8,vi 4)] ?_;obtain rfl:=oi hm;exact q_rt q_rm
   ·refine q_sk (s_vv [] 1 [9,10,29] [(6,vc (.val (.int .u64 v4.1))),(7,vi v4.2.1),(8,vi 0)] ?_);obtain rfl:=oi hm;exact q_rt q_rm
  ·rcases bif_c hm with⟨b7,hm⟩|⟨b7,hm⟩
   ·exact q_vv [qf 2 b7] 1 [2,11,20] [(29,vb true)] (q_J (true) hm)
   ·exact q_vv [qf 2 b7] 1 [2,11,20] [(29,vb (decide (v4.1>(IntKind.u64.wrap (a2)))))] (q_J (decide (v4.1>(IntKind.u64.wrap (a2)))) hm)
def HI (a1:Int) (a2:Int) (a3:qF) (r:Int×Int):V:= .undef
def SD (a1:Int) (a2:Int) (a3:qF) (r:Int×Int):List (Nat×(Nat×O)):=[(0,bx 172 [cs a3.s,ci r.1,ci r.2])]
theorem qCz (a1:Int) (a2:Int) (a3:qF) (r:Int×Int) (hm:DB a1 a2 a3=some r):CtX Tryz.prog globs 163 1 1 [.one (.bptr 0 0 0),.one (ci a1),.one (ci a2)] [(0,bx 172 (qJ a3))] (HI a1 a2 a3 r) (SD a1 a2 a3 r):=by
 unfold DB at hm;refine q_E f163 16 λE=>?_;refine q_sq (s_va 1 [(7,vb (a2 !=0))] ?_);refine q_cq hm (λhm=>?_) (λhm=>?_)
 ·refine s_vn [] 1 ⟨[],[(0,bx 172 [cs a3.s,ci a3.at_,ci a2])]⟩ ?_;obtain rfl:=oi hm;exact q_rt q_rm
 ·refine q_sk (q_vn [] 1 ⟨[],[(0,bx 172 [cs a3.s,ci a1,ci a3.e])]⟩ ?_);obtain rfl:=oi hm;exact q_rm
def HP (a1:Int) (a2:Int) (a3:Int) (a4:qF) (r:(List Int)×Int×Int):V:=vo 1 0 1 r.1.length
def SK (a1:Int) (a2:Int) (a3:Int) (a4:qF) (r:(List Int)×Int×Int):List (Nat×(Nat×O)):=[(0,bx 172 [cs a4.s,ci r.2.1,ci r.2.2]),(1,ro 0 3 1 r.1.length (rf qK r.1))]
def qAS (a2:Int) (a3:Int) (a4:qF) (v8:Int×Int×Int) (x10:Int) (x11:Int) (l12:List Int) (x13:Int) (x15:Bool):St:=
 ⟨[(0,vp 0 0),(2,vi a2),(3,vi a3),(9,vc (.val (.int .u64 v8.1))),(10,vi x10),(11,vi x11),(12,vo 1 0 1 l12.length),(13,vc (.val (.int .u64 x13))),(34,vb x15)],[(0,bx 172 (qJ a4)),(1,ro 0 3 1 l12.length (rf qK l12))]⟩
def XO (a2:Int) (a3:Int) (a4:qF) (v8:Int×Int×Int) (x10:Int) (x11:Int) (l12:List Int) (l12n:Nat) (x13:Int):St:=
 ⟨[(0,vp 0 0),(2,vi a2),(3,vi a3),(9,vc (.val (.int .u64 v8.1))),(10,vi x10),(11,vi x11),(12,vo 1 0 1 l12n),(13,vc (.val (.int .u64 x13)))],[(0,bx 172 (qJ a4)),(1,ro 0 3 1 l12n (rf qK l12))]⟩
def BC (a4:qF) (x20:Int) (x21:Int) (l22:List Int):St:=
 ⟨[(0,vp 0 0),(10,vi x20),(11,vi x21),(12,vo 1 0 1 l22.length)],[(0,bx 172 (qJ a4)),(1,ro 0 3 1 l22.length (rf qK l22))]⟩
theorem qAG (E:Env 1) (a2:Int) (a3:Int) (a4:qF) (v8:Int×Int×Int):∀(n:Nat) (x10:Int) (x11:Int) (l12:List Int) (l12n:Nat) (x13:Int) (res:Int×Int×(List Int)),l12.length=l12n->yW a2 a3 a4 v8 n x10 x11 l12 x13=some res->HL (kx E 57 1) (nd f109 500) (zW 0 (λo=>BC a4 o.1 o.2.1 o.2.2) res) n (XO a2 a3 a4 v8 x10 x11 l12 l12n x13):=by
 intro n
 induction n with
 |zero=>
  intro x10 x11 l12 l12n x13 res hl0 hm;cases hm
 |succ n ih=>
  intro x10 x11 l12 l12n x13 res hl0 hm;subst hl0;refine qU (q_sq ?_);refine q_jn (qAS a2 a3 a4 v8 x10 x11 l12 x13) (λp=>PS a2 a3 a4 x10 x11 l12 x13 (yW a2 a3 a4 v8 n) p=some res) ?_ ?_
  ·rintro x15 hm;refine q_cq hm (λhm=>?_) (λhm=>?_)
   ·refine q_sk (q_sq ?_);refine q_bk 1 (s_vv [] 2 [11,34] [] ?_);obtain⟨v17,h18,hm⟩:=qE hm;refine s_vv [qd 4 (dex (cen [(0,0)] [0] 1 1 (NI x10 a2 a3 a4 v17) (NS x10 a2 a3 a4 v17) [38,39,40,41] [0])) (zI (K:=(kx E 57 1)) ⟨[(38,vp 0 0),(39,vi x10),(40,vi a2),(41,vi a3)],[(0,bx 172 (qJ a4))]⟩ (opAt (rg f109 16018) 4) [(0,0)] [0] 1 o0 rfl (qA7 x10 a2 a3 a4 v17 h18) (.inl rfl) (by kernel_rfl))] 2 [10] [(10,vi v17.2.1),(11,vi v17.2.2),(14,vi v17.1)] ?_;obtain⟨g19,hm⟩:=qH hm
    refine q_vu [qd 2 (drw 2 0 (rf qK [v17.1])) (litP qK dd 1 (λ_=>rfl) ([v17.1]:List Int) 1 rfl),qd 3 (drw 1 1 (rf qK (l12++[v17.1]))) (apP qK dd l12 ([v17.1]:List Int) l12.length 1 1 8 (1<=1) (kr _) rfl rfl (λ_=>rfl) (wE g19))] 2 [12,14] [(12,vo 1 1 1 (l12.length+1))] [1] [(1,ro 1 3 1 (l12.length+1) (rf qK (l12++[v17.1])))] (q_vv [] 3 [13] [(13,vc (.val (.int .u64 (IntKind.u64.wrap (x13+1)))))] ?_)
    exact q_hl (XO a2 a3 a4 v8 v17.2.1 v17.2.2 (l12++[v17.1]) (l12.length+1) (IntKind.u64.wrap (x13+1))) (ih v17.2.1 v17.2.2 (l12++[v17.1]) (l12.length+1) (IntKind.u64.wrap (x13+1)) _ (wS rfl rfl) hm)
   ·refine q_ex 0 ?_;obtain rfl:=oi hm;exact q_l0
  ·rcases bif_c hm with⟨b14,hm⟩|⟨b14,hm⟩
   ·exact q_vv [qf 3 b14] 2 [] [(34,vb (x11==0))] (q_J (x11==0) hm)
   ·exact q_vv [qf 3 b14] 2 [] [(34,vb false)] (q_J (false) hm)
theorem qCB (a1:Int) (a2:Int) (a3:Int) (a4:qF) (r:(List Int)×Int×Int) (hm:DK a1 a2 a3 a4=some r):CtX Tryz.prog globs 109 1 1 [.one (.bptr 0 0 0),.one (ci a1),.one (ci a2),.one (ci a3)] [(0,bx 172 (qJ a4))] (HP a1 a2 a3 a4 r) (SK a1 a2 a3 a4 r):=by
 unfold DK at hm;refine q_E f109 57 λE=>?_;refine s_vn [] 1 ⟨[(0,vp 0 0),(1,vi a1),(2,vi a2),(3,vi a3)],[(0,bx 172 (qJ a4))]⟩ (q_sq ?_);obtain⟨v5,h6,hm⟩:=qE hm;refine s_vv [qd 1 (dex (cen [(0,0)] [0] 0 1 (BD a4 v5) (DS a4 v5) [15] [0])) (zI (K:=(kx E 57 1)) ⟨[(15,vp 0 0)],[(0,bx 172 (qJ a4))]⟩ (opAt (rg f109 12) 1) [(0,0)] [0] 0 o0 rfl (qAF a4 v5 h6) (.inl rfl) (by kernel_rfl))] 1 [] [(16,vb v5)] (q_cq hm (λhm=>?_) (λhm=>?_))
 ·refine s_vv [] 1 [0,1,2,3,16] [(8,vc (.emp))] (q_fo 8 1 3 1 qK ?_);refine q_fl 8 1 3 1 qK ?_;obtain rfl:=oi hm;exact q_rt q_rm
 ·refine q_sk ?_;obtain⟨v8,h9,hm⟩:=qE hm;refine s_vv [qd 6 (dex (cen [(0,0)] [0] 0 1 (DY a4.at_ a1 a4 v8) (DZ a4.at_ a1 a4 v8) [18,22,23] [0])) (zI (K:=(kx E 57 1)) ⟨[(18,vp 0 0),(22,vi a4.at_),(23,vi a1)],[(0,bx 172 (qJ a4))]⟩ (opAt (rg f109 14) 6) [(0,0)] [0] 0 o0 rfl (qAN a4.at_ a1 a4 v8 h9) (.inl rfl) (by kernel_rfl))] 1 [1,16] [(9,vc (.val (.int .u64 v8.1))),(10,vi v8.2.1),(11,vi v8.2.2)] (s_va 1 [(12,vc (.emp))] ?_);refine q_sq (s_va 1 [(13,vc (.val (.int .u64 0)))] ?_);refine q_fo 12 1 3 1 qK ?_;obtain⟨o23,h24,hm⟩:=qE hm
  refine zU (nd f109 500) 0 (by kernel_rfl) FUEL (λo=>BC a4 o.1 o.2.1 o.2.2) o23 (q_hl (XO a2 a3 a4 v8 v8.2.1 v8.2.2 ([]:List Int) 0 0) (qAG E a2 a3 a4 v8 FUEL v8.2.1 v8.2.2 ([]:List Int) 0 0 o23 rfl h24)) ?_;obtain⟨v25,h26,hm⟩:=qE hm
  refine s_vu [qd 3 (dex (cen [(0,0)] [0] 1 1 (HI o23.1 o23.2.1 a4 v25) (SD o23.1 o23.2.1 a4 v25) [50,51,52] [0])) (zI (K:=(kx E 57 1)) ⟨[(50,vp 0 0),(51,vi o23.1),(52,vi o23.2.1)],[(0,bx 172 (qJ a4))]⟩ (opAt (rg f109 126) 3) [(0,0)] [0] 1 o0 rfl (qCz o23.1 o23.2.1 a4 v25 h26) (.inl rfl) (by kernel_rfl))] 2 [0,10] [] [0] [(0,bx 172 [cs a4.s,ci v25.1,ci v25.2])] (q_sq ?_);refine s_vv [] 2 [11] [(55,vb (o23.2.1 !=0))] (q_cq hm (λhm=>?_) (λhm=>?_))
  ·refine s_vu [] 2 [12,55] [(8,vc (.emp))] [1] [] (q_fo 8 2 3 1 qK ?_);refine q_fl 8 2 3 1 qK ?_;obtain rfl:=oi hm;exact q_sw 2 1 (q_rt q_rm)
  ·refine q_sk (s_vv [] 2 [12,55] [(8,vo 1 0 1 o23.2.2.length)] ?_);obtain rfl:=oi hm;exact q_rt q_rm
open Go.Proofs Go.Proofs.Tryz
def TR (a1:Int) (a2:qF) (r:(List Int)×Int×Int):V:=vo 2 0 1 r.1.length
def UO (a1:Int) (a2:qF) (r:(List Int)×Int×Int):List (Nat×(Nat×O)):=[(0,bx 129 [.bptr 1 0 0]),(1,bx 172 [cs a2.s,ci r.2.1,ci r.2.2]),(2,ro 0 3 1 r.1.length (rf qK r.1))]
theorem FC (a1:Int) (a2:qF) (r:(List Int)×Int×Int) (hm:RQ a1 a2=some r):CtX Tryz.prog globs 108 2 2 [.one (ci a1),.one (.bptr 0 0 0)] [(0,bx 129 [.bptr 1 0 0]),(1,bx 172 (qJ a2))] (TR a1 a2 r) (UO a1 a2 r):=by
 unfold RQ at hm;refine q_E f108 7 λE=>?_;refine s_vn [] 2 ⟨[(0,vi a1),(1,vp 0 0)],[(0,bx 129 [.bptr 1 0 0]),(1,bx 172 (qJ a2))]⟩ ?_;obtain⟨v3,h4,hm⟩:=qE hm
 refine s_vu [qd 2 (dex (cen [(1,0)] [0] 1 1 (HP a1 (-1099511627776) 1099511627776 a2 v3) (SK a1 (-1099511627776) 1099511627776 a2 v3) [4,5] [1])) (zI (K:=(kx E 7 2)) ⟨[(4,vp 1 0),(5,vi a1)],[(1,bx 172 (qJ a2))]⟩ (opAt (rg f108 6) 2) [(1,0)] [0] 1 o0 rfl (qCB a1 (-1099511627776) 1099511627776 a2 v3 h4) (.inl rfl) (by kernel_rfl))] 2 [0,1] [(3,vo 2 0 1 v3.1.length)] [1] [(1,bx 172 [cs a2.s,ci v3.2.1,ci v3.2.2]),(2,ro 0 3 1 v3.1.length (rf qK v3.1))] ?_;obtain rfl:=oi hm;exact q_rt q_rm
end Saw
end Go.SL
