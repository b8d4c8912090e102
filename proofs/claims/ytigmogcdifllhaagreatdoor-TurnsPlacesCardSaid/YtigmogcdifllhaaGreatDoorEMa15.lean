/- The example of the chapter: the second plan line. -/
import Derived.Test.YtigmogcdifllhaaGreatDoorEMa11
import Derived.Test.YtigmogcdifllhaaGreatDoorEMa14
import Derived.Test.YtigmogcdifllhaaGreatDoorTAwE
import Derived.Test.YtigmogcdifllhaaGreatDoorEMa3
import Derived.Test.YtigmogcdifllhaaGreatDoorEMa13
import Derived.Test.YtigmogcdifllhaaGreatDoorTAwD
set_option linter.unusedVariables false
set_option linter.unusedSimpArgs false
namespace Go.SL.Saw
def HG (G:Nat->Int×List Node) (x:Nat):Int×List Node:=if x % 10=0 then G (x/10) else(-1,[])
theorem qPl {a1:List qM} {a3:List qK} {a4:Rect} {a5:Saw} {a6:Rates} {v7:List Int} {x10:Int} (N:Nat) (G:Nat->Int×List Node) (hN:N<=1000) (hp:a5.Pitch=10)
  (hc:∀x:Nat,x<N->decide (w64 ((x:Int)+v7.getD x10.toNat dd)<=w64 (a4.Y.B-a4.Y.A))=true) (he:decide (w64 ((N:Int)+v7.getD x10.toNat dd)<=w64 (a4.Y.B-a4.Y.A))=false)
  (hs:∀k:Nat,10*k<N->∃r nd v y,HM a4 ((10*k:Nat):Int) (w64 (((10*k:Nat):Int)+v7.getD x10.toNat dd))=some r/\wV a1 [] a3 r a5 a6=some (nd,v,0)/\AM nd=some y/\(bif y then(v,nd) else(-1,[]))=G k):
  wA a1 [] a3 a4 a5 a6 v7 x10 FUEL [] [] 0=some (qJT (λx s=>(s.1++[(HG G x).1],s.2++[(HG G x).2])) 0 N (([]:List Int),([]:List (List Node)))):=by
 have h:=(MC N (λn (t:List Int×List (List Node)) i=>wA a1 [] a3 a4 a5 a6 v7 x10 n t.1 t.2 i) (λx s=>(s.1++[(HG G x).1],s.2++[(HG G x).2])) id (λx s=>s.1.length=x/\s.2.length=x) 0 (kS _) (by omega) (λn x s hx hi=>⟨by
  show wA a1 [] a3 a4 a5 a6 v7 x10 (n+1) s.1 s.2 (x:Int)=_;have k4:∀(g:Int) (b:List Node),UH s.1 s.2 (x:Int) (wA a1 [] a3 a4 a5 a6 v7 x10 n) g b=wA a1 [] a3 a4 a5 a6 v7 x10 n (s.1++[g]) (s.2++[b]) ((x+1:Nat):Int):=λg b=>by
   unfold UH;rw[QI (by omega),QI (by omega),wE (by omega)];rfl
  rw[wA,hc x hx,hp,show nz 10=true from rfl];unfold HG;by_cases c:x % 10=0
  ·obtain⟨k,rfl⟩:∃k,x=10*k:=⟨x/10,by omega⟩
   obtain⟨r,nd,v,y,e1,e2,e3,e4⟩:=hs k hx;have e4':G (10*k/10)=(bif y then(v,nd) else(-1,[])):=by rw[Nat.mul_div_cancel_left k (by decide)];exact e4.symm
   rw[if_pos c,e4',show(Int.tmod ((10*k:Nat):Int) 10==0)=true by rw[Int.tmod_eq_emod_of_nonneg (by omega),beq_iff_eq];omega];simp only[ko,e1,ke,e2,gv,e3,qAN,k4];cases y<;>rfl
  ·rw[if_neg c,show(Int.tmod (x:Int) 10==0)=false by rw[Int.tmod_eq_emod_of_nonneg (by omega),kU];omega];simp only[ko,ku,k4],by simp[hi.1],by simp[hi.2]⟩) (λn s hi=>by
  show wA a1 [] a3 a4 a5 a6 v7 x10 (n+1) s.1 s.2 (N:Int)=_;rw[wA,he];rfl) (([]:List Int),([]:List (List Node))) ⟨rfl,rfl⟩).1
 exact h
theorem w50 {x:Nat} (h:x<=1000) (c:Int) (h1:0<=c) (h2:c<=1000):w64 ((x:Int)+c)=(x:Int)+c:=zK (by omega)
theorem row_50 :wA sl1 [] c25 f1 w25 r25 [50,100] 0 FUEL [] [] 0=some (List.replicate 71 (-1),List.replicate 71 []):=
 (qPl 71 (λ_=>(-1,[])) (by decide) rfl (λx hx=>by
  show decide (w64 ((x:Int)+50)<=120)=true;rw[w50 (by omega) 50 (by decide) (by decide)];exact kf (by omega)) rfl (λk hk=>by
  rcases(show k=0\/k=1\/k=2\/k=3\/k=4\/k=5\/k=6\/k=7 by omega) with rfl|rfl|rfl|rfl|rfl|rfl|rfl|rfl
  ·exact⟨_,_,_,false,rfl,eb50_0,by kernel_rfl,rfl⟩
  ·exact⟨_,_,_,false,rfl,eb50_1,by kernel_rfl,rfl⟩
  ·exact⟨_,_,_,false,rfl,eb50_2,by kernel_rfl,rfl⟩
  ·exact⟨_,_,_,false,rfl,eb50_3,by kernel_rfl,rfl⟩
  ·exact⟨_,_,_,false,rfl,eb50_4,by kernel_rfl,rfl⟩
  ·exact⟨_,_,_,false,rfl,eb50_5,by kernel_rfl,rfl⟩
  ·exact⟨_,_,_,false,rfl,eb50_6,by kernel_rfl,rfl⟩
  ·exact⟨_,_,_,false,rfl,eb50_7,by kernel_rfl,rfl⟩)).trans (by kernel_rfl)
theorem row_100 :wA sl1 [] c25 f1 w25 r25 [50,100] 1 FUEL [] [] 0=some (g1r,[nd1,[],[],[],[],[],[],[],[],[],nd1,[],[],[],[],[],[],[],[],[],nd1]):=
 (qPl 21 (λ_=>(80000000,nd1)) (by decide) rfl (λx hx=>by
  show decide (w64 ((x:Int)+100)<=120)=true;rw[w50 (by omega) 100 (by decide) (by decide)];exact kf (by omega)) rfl (λk hk=>by
  rcases(show k=0\/k=1\/k=2 by omega) with rfl|rfl|rfl
  ·exact⟨_,_,_,true,rfl,eb100_0,by kernel_rfl,rfl⟩
  ·exact⟨_,_,_,true,rfl,eb100_1,by kernel_rfl,rfl⟩
  ·exact⟨_,_,_,true,rfl,eb100_2,by kernel_rfl,rfl⟩)).trans (by kernel_rfl)
theorem qTU {a1:List qM} {a3:List qK} {a4:Rect} {a5:Saw} {a6:Rates} {v7 g:List Int} {b:List (List Node)} {k k':Int} (h0:decide (k<(v7.length:Nat))=true) (hi:inb k v7.length=true) (hk:w64 (k+1)=k') (h:wA a1 [] a3 a4 a5 a6 v7 k FUEL [] [] 0=some (g,b)) (n:Nat) (l9:List (List (List Node))) (l11:List (List Int)) (hr1:room (l11.length+1) 24=true) (hr2:room (l9.length+1) 24=true):ZT a1 [] a3 a4 a5 a6 v7 (n+1) l9 k l11=ZT a1 [] a3 a4 a5 a6 v7 n (l9++[b]) k' (l11++[g]):=by
 rw[ZT,h0,hi,h];simp only[ko,ke,hr1,hr2,hk]
theorem q2c {a1:List qM} {a3:List qK} {a4:Rect} {a5:Saw} {a6:Rates} {v7:List Int} {k:Int} (h0:decide (k<(v7.length:Nat))=false) (n:Nat) (l9:List (List (List Node))) (l11:List (List Int)):ZT a1 [] a3 a4 a5 a6 v7 (n+1) l9 k l11=some (l9,l11):=by
 rw[ZT,h0];rfl
theorem qZB {a1:List qM} {a3:List qK} {a4:Rect} {a5:Saw} {a6:Rates} {g1 g2 c d:List Int} {b1 b2:List (List Node)} (hh:qBt a3=some [50,100]) (h1:wA a1 [] a3 a4 a5 a6 [50,100] 0 FUEL [] [] 0=some (g1,b1)) (h2:wA a1 [] a3 a4 a5 a6 [50,100] 1 FUEL [] [] 0=some (g2,b2)) (h5:qBm a1 a4 a6 FUEL 0 [] []=some (c,d)):VE a1 [] a3 a4 a5 a6=some (⟨w64 (a4.Y.B-a4.Y.A),a5.Kerf,1,[50,100],[g1,g2],c,d⟩,[b1,b2]):=by
 unfold VE;have e:ZT a1 [] a3 a4 a5 a6 [50,100] FUEL [] 0 []=some ([b1,b2],[g1,g2]):=by
  have hf:FUEL=9223372036854775805+1+1+1:=FUEL_eq;generalize 9223372036854775805=m at hf;rw[hf] at h1 h2⊢;rw[qTU (k:=0) (k':=1) rfl rfl rfl (by rw[hf];exact h1) _ _ _ rfl rfl,qTU (k:=1) (k':=2) rfl rfl rfl (by rw[hf];exact h2) _ _ _ rfl rfl,q2c rfl];rfl
 rw[hh];simp only[ke,e,h5]
theorem eb_0 :wV sl0 [] c25 ⟨⟨-60,60⟩,⟨-30,20⟩⟩ w25 r25=some (nd0,80000000,0):=KC (L:=LG) (sz:=([100],[0])) (at_:=[⟨-60,40⟩]) (ps:=[[⟨1,0⟩]]) (by kernel_rfl) cut_G (by kernel_rfl) (by kernel_rfl) (by kernel_rfl)
theorem eb_1 :wV sl0 [] c25 ⟨⟨-60,60⟩,⟨-20,30⟩⟩ w25 r25=some (nd0,80000000,0):=KC (L:=LG) (sz:=([100],[0])) (at_:=[⟨-60,40⟩]) (ps:=[[⟨1,0⟩]]) (by kernel_rfl) cut_G (by kernel_rfl) (by kernel_rfl) (by kernel_rfl)
theorem row0_50 :wA sl0 [] c25 f0 w25 r25 [50,100] 0 FUEL [] [] 0=some (g0r,[nd0,[],[],[],[],[],[],[],[],[],nd0]):=
 (qPl 11 (λ_=>(80000000,nd0)) (by decide) rfl (λx hx=>by
  show decide (w64 ((x:Int)+50)<=60)=true;rw[w50 (by omega) 50 (by decide) (by decide)];exact kf (by omega)) rfl (λk hk=>by
  rcases(show k=0\/k=1 by omega) with rfl|rfl
  ·exact⟨_,_,_,true,rfl,eb_0,by kernel_rfl,rfl⟩
  ·exact⟨_,_,_,true,rfl,eb_1,by kernel_rfl,rfl⟩)).trans (by kernel_rfl)
theorem line_0 :VE sl0 [] c25 f0 w25 r25=some (LP0,[[nd0,[],[],[],[],[],[],[],[],[],nd0],[]]):=qZB (by kernel_rfl) row0_50 (show _=some (([]:List Int),([]:List (List Node))) by kernel_rfl) (show _=some (z60,z60) by kernel_rfl)
theorem line_1 :VE sl1 [] c25 f1 w25 r25=some (LP1,[List.replicate 71 [],[nd1,[],[],[],[],[],[],[],[],[],nd1,[],[],[],[],[],[],[],[],[],nd1]]):=qZB (by kernel_rfl) row_50 row_100 (show _=some (z120,z120) by kernel_rfl)
end Go.SL.Saw

namespace Go.SL.Saw
theorem qZU {a1:List qM} {a3:List qK} {a4:Rect} {a5:Saw} {a6:Rates} {LP:Line} {st:List (List (List Node))} {pc:List zX} {v x y:Int} {at_:List Span} {ps:List (List Node)} {nd:List Node} (ck:MQ a1 [] a3 a4 a5 a6=some 0) (ln:VE a1 [] a3 a4 a5 a6=some (LP,st)) (cb:yT LP=some (pc,v,0)) (l1:UX a4 (LP,st) (pc,v,0) FUEL [] [] 0=some (at_,ps)) (rw_:XS a4 3 a5.Kerf at_ ps=some (nd,0)) (hx:TY a1=some x) (hy:TE a1 a4=some y):VF a1 [] a3 a4 a5 a6=some (⟨a4,nd⟩,w64 (v+w64 (a6.Chip*w64 (x-y))),0):=by
 unfold VF;rw[ck];simp only[ke,kL,ku,ln,cb,l1,rw_,hx,hy]
theorem q1p :VF sl0 [] c25 f0 w25 r25=some (⟨f0,pt0⟩,80000000,0):=qZU ck_0 line_0 cut_0 rest_0 row_0 vol_0 whole_0
theorem q0K :VF sl1 [] c25 f1 w25 r25=some (⟨f1,pt1⟩,80000000,0):=qZU ck_1 line_1 cut_1 rest_1 row_1 vol_1 whole_1
theorem qJJ {x:Scan} {c:List qK} {s:Saw} {r:Rates} {l m k k' v:Int} {sl:List qM} {f:Rect} {p:Pattern} (h0:decide (k<4)=true) (hk:w64 (k+1)=k') (hp:jT x k l m=some (sl,[],0)) (hf:HQ sl=some f) (hb:VF sl [] c f s r=some (p,v,0)) (n:Nat) (out:List qP) (hr:room (out.length+1) 72=true):JN x c s r l m (n+1) out k=JN x c s r l m n (out++[⟨k,p,v⟩]) k':=by
 rw[JN,h0,hp];simp only[ko,ke,kL,ku,hf,hb,hr,hk]
def all4 :List qP:=[⟨0,⟨f0,pt0⟩,80000000⟩,⟨1,⟨f1,pt1⟩,80000000⟩,⟨2,⟨f0,pt0⟩,80000000⟩,⟨3,⟨f1,pt1⟩,80000000⟩]
theorem all_end {x:Scan} {c:List qK} {s:Saw} {r:Rates} {l m:Int} (n:Nat) (out:List qP):JN x c s r l m (n+1) out 4=some (.inr out):=by
 rw[JN,show decide ((4:Int)<4)=false from rfl];rfl
theorem q0M :VC bm c25 w25 r25 200 2=some (all4,0):=by
 unfold VC;have hf:FUEL=9223372036854775803+1+1+1+1+1:=FUEL_eq;generalize 9223372036854775803=m at hf;rw[hf,qJJ (k':=1) rfl rfl place_0 fr_0 q1p _ [] rfl,qJJ (k:=1) (k':=2) rfl rfl qZJ fr_1 q0K _ _ rfl,qJJ (k:=2) (k':=3) rfl rfl place_2 fr_0 q1p _ _ rfl,qJJ (k:=3) (k':=4) rfl rfl place_3 fr_1 q0K _ _ rfl,all_end];rfl
theorem qY9 {x:Scan} {c:List qK} {s:Saw} {r:Rates} {l m:Int} (h:VC x c s r l m=some (all4,0)):RD x c s r l m=some (⟨0,⟨f0,pt0⟩,80000000⟩,0):=by
 unfold RD;rw[h];simp only[ke,kL,ku]
 kernel_rfl
theorem q1K :(bif (sl1.length:Int) !=1 then WY (sl1,[],0) (all4,0) (⟨0,⟨f0,pt0⟩,80000000⟩,0) (⟨0,⟨⟨⟨0,0⟩,⟨0,0⟩⟩,[]⟩,0⟩,3) true else WY (sl1,[],0) (all4,0) (⟨0,⟨f0,pt0⟩,80000000⟩,0) (⟨0,⟨⟨⟨0,0⟩,⟨0,0⟩⟩,[]⟩,0⟩,3) ((all4.length:Int) !=4))=some true:=by kernel_rfl
def awA (fb:Option Scan) (fp:Scan->Int->Int->Int->Option (List qM×List qH×Int)) (fa:Scan->Option (List qP×Int)) (fB:Scan->Option (qP×Int)):Option Bool:=
 fb.bind λv1=>
 (fp v1 1 200 2).bind λv3=>
 fb.bind λv9=>
 (fa v9).bind λv11=>
 fb.bind λv15=>
 (fB v15).bind λv17=>
 (fB (Scan.mk ([]:List Ring) ([]:List qH))).bind λv19=>
 bif (v3.1.length:Int) !=1 then
  WY v3 v11 v17 v19 true
 else
  WY v3 v11 v17 v19 ((v11.1.length:Int) !=4)
theorem q2n {fb:Option Scan} {fp:Scan->Int->Int->Int->Option (List qM×List qH×Int)} {fa:Scan->Option (List qP×Int)} {fB:Scan->Option (qP×Int)} (h1:fb=some bm) (h2:fp bm 1 200 2=some (sl1,[],0)) (h3:fa bm=some (all4,0)) (h4:fB bm=some (⟨0,⟨f0,pt0⟩,80000000⟩,0)) (h5:fB ⟨[],[]⟩=some (⟨0,⟨⟨⟨0,0⟩,⟨0,0⟩⟩,[]⟩,0⟩,3)):awA fb fp fa fB=some true:=by
 subst h1;unfold awA;simp only[ke];rw[h2];simp only[ke];rw[h3];simp only[ke];rw[h4];simp only[ke];rw[h5];exact q1K
theorem q1U :TB=awA GK jT (λv=>VC v c25 w25 r25 200 2) (λv=>RD v c25 w25 r25 200 2):=rfl
theorem qYb :TB=some true:=q1U.trans (q2n beam_eq qZJ q0M (qY9 q0M) short_0)
end Go.SL.Saw

namespace Go.SL.Saw
theorem qPY (a:XT) (q:Int) {P1 P2 P3 Q:Prop} (h:((a.Scan.Rings.length<=maxLen/\P1)/\P2)/\P3) (_:Q):XG a q=some true:=qSm qYb a q (by have:=h.1.1.1;unfold maxLen at this;omega)
end Go.SL.Saw
