import Derived.Test.YtigmogcdifllhaaGreatDoorEMa6
import Derived.Test.YtigmogcdifllhaaGreatDoorEMa9
import Derived.Test.YtigmogcdifllhaaGreatDoorTAwE
import Derived.Test.YtigmogcdifllhaaGreatDoorEMa1
import Derived.Test.YtigmogcdifllhaaGreatDoorEMa8
import Derived.Test.YtigmogcdifllhaaGreatDoorTAwD
set_option linter.unusedVariables false
set_option linter.unusedSimpArgs false
namespace Go.SL
namespace Saw
def HG (G:Nat->Int×List Node) (x:Nat):Int×List Node:=if x % 10=0 then G (x/10) else(-1,[])
theorem qOe {a1:List qO} {a3:List qD} {a4:Rect} {a5:Saw} {a6:Rates} {v7:List Int} {x10:Int} (N:Nat) (G:Nat->Int×List Node) (hN:N<=1000) (hp:a5.Pitch=10)
  (hc:∀x:Nat,x<N->decide (w64 ((x:Int)+v7.getD x10.toNat du)<=w64 (a4.Y.B-a4.Y.A))=true) (he:decide (w64 ((N:Int)+v7.getD x10.toNat du)<=w64 (a4.Y.B-a4.Y.A))=false)
  (hs:∀k:Nat,10*k<N->∃r nd v y,PH a4 ((10*k:Nat):Int) (w64 (((10*k:Nat):Int)+v7.getD x10.toNat du))=some r/\jC a1 [] a3 r a5 a6=some (nd,v,0)/\TR nd=some y/\(bif y then(v,nd) else(-1,[]))=G k):
  zS a1 [] a3 a4 a5 a6 v7 x10 FUEL [] [] 0=some (qI3 (λx s=>(s.1++[(HG G x).1],s.2++[(HG G x).2])) 0 N (([]:List Int),([]:List (List Node)))):=by
 have h:=(EG N (λn (t:List Int×List (List Node)) i=>zS a1 [] a3 a4 a5 a6 v7 x10 n t.1 t.2 i) (λx s=>(s.1++[(HG G x).1],s.2++[(HG G x).2])) id (λx s=>s.1.length=x/\s.2.length=x) 0 (kw _) (by omega) (λn x s hx hi=>⟨by
  show zS a1 [] a3 a4 a5 a6 v7 x10 (n+1) s.1 s.2 (x:Int)=_;have k4:∀(g:Int) (b:List Node),XN s.1 s.2 (x:Int) (zS a1 [] a3 a4 a5 a6 v7 x10 n) g b=zS a1 [] a3 a4 a5 a6 v7 x10 n (s.1++[g]) (s.2++[b]) ((x+1:Nat):Int):=λg b=>by
   unfold XN;rw[yC (by omega),yC (by omega),wH (by omega)];rfl
  rw[zS,hc x hx,hp,show nz 10=true from rfl];unfold HG;by_cases c:x % 10=0
  ·obtain⟨k,rfl⟩:∃k,x=10*k:=⟨x/10,by omega⟩
   obtain⟨r,nd,v,y,e1,e2,e3,e4⟩:=hs k hx;have e4':G (10*k/10)=(bif y then(v,nd) else(-1,[])):=by rw[Nat.mul_div_cancel_left k (by decide)];exact e4.symm
   rw[if_pos c,e4',show(Int.tmod ((10*k:Nat):Int) 10==0)=true by rw[Int.tmod_eq_emod_of_nonneg (by omega),beq_iff_eq];omega];simp only[kp,e1,kd,e2,gC,e3,MM,k4];cases y<;>rfl
  ·rw[if_neg c,show(Int.tmod (x:Int) 10==0)=false by rw[Int.tmod_eq_emod_of_nonneg (by omega),kT];omega];simp only[kp,kv,k4],by simp[hi.1],by simp[hi.2]⟩) (λn s hi=>by
  show zS a1 [] a3 a4 a5 a6 v7 x10 (n+1) s.1 s.2 (N:Int)=_;rw[zS,he];rfl) (([]:List Int),([]:List (List Node))) ⟨rfl,rfl⟩).1
 exact h
theorem w50 {x:Nat} (h:x<=1000) (c:Int) (h1:0<=c) (h2:c<=1000):w64 ((x:Int)+c)=(x:Int)+c:=w64_o (by omega)
theorem row_50 :zS sl1 [] c25 f1 w25 r25 [50,100] 0 FUEL [] [] 0=some (List.replicate 71 (-1),List.replicate 71 []):=
 (qOe 71 (λ_=>(-1,[])) (by decide) rfl (λx hx=>by
  show decide (w64 ((x:Int)+50)<=120)=true;rw[w50 (by omega) 50 (by decide) (by decide)];exact ki (by omega)) rfl (λk hk=>by
  rcases(show k=0\/k=1\/k=2\/k=3\/k=4\/k=5\/k=6\/k=7 by omega) with rfl|rfl|rfl|rfl|rfl|rfl|rfl|rfl
  ·exact⟨_,_,_,false,rfl,eb50_0,by kernel_rfl,rfl⟩
  ·exact⟨_,_,_,false,rfl,eb50_1,by kernel_rfl,rfl⟩
  ·exact⟨_,_,_,false,rfl,eb50_2,by kernel_rfl,rfl⟩
  ·exact⟨_,_,_,false,rfl,eb50_3,by kernel_rfl,rfl⟩
  ·exact⟨_,_,_,false,rfl,eb50_4,by kernel_rfl,rfl⟩
  ·exact⟨_,_,_,false,rfl,eb50_5,by kernel_rfl,rfl⟩
  ·exact⟨_,_,_,false,rfl,eb50_6,by kernel_rfl,rfl⟩
  ·exact⟨_,_,_,false,rfl,eb50_7,by kernel_rfl,rfl⟩)).trans (by kernel_rfl)
theorem row_100 :zS sl1 [] c25 f1 w25 r25 [50,100] 1 FUEL [] [] 0=some (g1r,[nd1,[],[],[],[],[],[],[],[],[],nd1,[],[],[],[],[],[],[],[],[],nd1]):=
 (qOe 21 (λ_=>(80000000,nd1)) (by decide) rfl (λx hx=>by
  show decide (w64 ((x:Int)+100)<=120)=true;rw[w50 (by omega) 100 (by decide) (by decide)];exact ki (by omega)) rfl (λk hk=>by
  rcases(show k=0\/k=1\/k=2 by omega) with rfl|rfl|rfl
  ·exact⟨_,_,_,true,rfl,eb100_0,by kernel_rfl,rfl⟩
  ·exact⟨_,_,_,true,rfl,eb100_1,by kernel_rfl,rfl⟩
  ·exact⟨_,_,_,true,rfl,eb100_2,by kernel_rfl,rfl⟩)).trans (by kernel_rfl)
theorem qSe {a1:List qO} {a3:List qD} {a4:Rect} {a5:Saw} {a6:Rates} {v7 g:List Int} {b:List (List Node)} {k k':Int} (h0:decide (k<(v7.length:Nat))=true) (hi:inb k v7.length=true) (hk:w64 (k+1)=k') (h:zS a1 [] a3 a4 a5 a6 v7 k FUEL [] [] 0=some (g,b)) (n:Nat) (l9:List (List (List Node))) (l11:List (List Int)) (hr1:room (l11.length+1) 24=true) (hr2:room (l9.length+1) 24=true):yO a1 [] a3 a4 a5 a6 v7 (n+1) l9 k l11=yO a1 [] a3 a4 a5 a6 v7 n (l9++[b]) k' (l11++[g]):=by
 rw[yO,h0,hi,h];simp only[kp,kd,hr1,hr2,hk]
theorem q0c {a1:List qO} {a3:List qD} {a4:Rect} {a5:Saw} {a6:Rates} {v7:List Int} {k:Int} (h0:decide (k<(v7.length:Nat))=false) (n:Nat) (l9:List (List (List Node))) (l11:List (List Int)):yO a1 [] a3 a4 a5 a6 v7 (n+1) l9 k l11=some (l9,l11):=by
 rw[yO,h0];rfl
theorem qWZ {a1:List qO} {a3:List qD} {a4:Rect} {a5:Saw} {a6:Rates} {g1 g2 c d:List Int} {b1 b2:List (List Node)} (hh:DM a3=some [50,100]) (h1:zS a1 [] a3 a4 a5 a6 [50,100] 0 FUEL [] [] 0=some (g1,b1)) (h2:zS a1 [] a3 a4 a5 a6 [50,100] 1 FUEL [] [] 0=some (g2,b2)) (h5:RO a1 a4 a6 FUEL 0 [] []=some (c,d)):PQ a1 [] a3 a4 a5 a6=some (⟨w64 (a4.Y.B-a4.Y.A),a5.Kerf,1,[50,100],[g1,g2],c,d⟩,[b1,b2]):=by
 unfold PQ;have e:yO a1 [] a3 a4 a5 a6 [50,100] FUEL [] 0 []=some ([b1,b2],[g1,g2]):=by
  have hf:FUEL=9223372036854775805+1+1+1:=FUEL_eq;generalize 9223372036854775805=m at hf;rw[hf] at h1 h2⊢;rw[qSe (k:=0) (k':=1) rfl rfl rfl (by rw[hf];exact h1) _ _ _ rfl rfl,qSe (k:=1) (k':=2) rfl rfl rfl (by rw[hf];exact h2) _ _ _ rfl rfl,q0c rfl];rfl
 rw[hh];simp only[kd,e,h5]
theorem eb_0 :jC sl0 [] c25 ⟨⟨-60,60⟩,⟨-30,20⟩⟩ w25 r25=some (nd0,80000000,0):=RC (L:=LG) (sz:=([100],[0])) (at_:=[⟨-60,40⟩]) (ps:=[[⟨1,0⟩]]) (by kernel_rfl) cut_G (by kernel_rfl) (by kernel_rfl) (by kernel_rfl)
theorem eb_1 :jC sl0 [] c25 ⟨⟨-60,60⟩,⟨-20,30⟩⟩ w25 r25=some (nd0,80000000,0):=RC (L:=LG) (sz:=([100],[0])) (at_:=[⟨-60,40⟩]) (ps:=[[⟨1,0⟩]]) (by kernel_rfl) cut_G (by kernel_rfl) (by kernel_rfl) (by kernel_rfl)
theorem row0_50 :zS sl0 [] c25 f0 w25 r25 [50,100] 0 FUEL [] [] 0=some (g0r,[nd0,[],[],[],[],[],[],[],[],[],nd0]):=
 (qOe 11 (λ_=>(80000000,nd0)) (by decide) rfl (λx hx=>by
  show decide (w64 ((x:Int)+50)<=60)=true;rw[w50 (by omega) 50 (by decide) (by decide)];exact ki (by omega)) rfl (λk hk=>by
  rcases(show k=0\/k=1 by omega) with rfl|rfl
  ·exact⟨_,_,_,true,rfl,eb_0,by kernel_rfl,rfl⟩
  ·exact⟨_,_,_,true,rfl,eb_1,by kernel_rfl,rfl⟩)).trans (by kernel_rfl)
theorem line_0 :PQ sl0 [] c25 f0 w25 r25=some (LP0,[[nd0,[],[],[],[],[],[],[],[],[],nd0],[]]):=qWZ (by kernel_rfl) row0_50 (show _=some (([]:List Int),([]:List (List Node))) by kernel_rfl) (show _=some (z60,z60) by kernel_rfl)
theorem line_1 :PQ sl1 [] c25 f1 w25 r25=some (LP1,[List.replicate 71 [],[nd1,[],[],[],[],[],[],[],[],[],nd1,[],[],[],[],[],[],[],[],[],nd1]]):=qWZ (by kernel_rfl) row_50 row_100 (show _=some (z120,z120) by kernel_rfl)
theorem qXm {a1:List qO} {a3:List qD} {a4:Rect} {a5:Saw} {a6:Rates} {LP:Line} {st:List (List (List Node))} {pc:List zV} {v x y:Int} {at_:List Span} {ps:List (List Node)} {nd:List Node} (ck:UH a1 [] a3 a4 a5 a6=some 0) (ln:PQ a1 [] a3 a4 a5 a6=some (LP,st)) (cb:jY LP=some (pc,v,0)) (l1:JA a4 (LP,st) (pc,v,0) FUEL [] [] 0=some (at_,ps)) (rw_:WO a4 3 a5.Kerf at_ ps=some (nd,0)) (hx:XM a1=some x) (hy:PO a1 a4=some y):JL a1 [] a3 a4 a5 a6=some (⟨a4,nd⟩,w64 (v+w64 (a6.Chip*w64 (x-y))),0):=by
 unfold JL;rw[ck];simp only[kd,kQ,kv,ln,cb,l1,rw_,hx,hy]
theorem qZf :JL sl0 [] c25 f0 w25 r25=some (⟨f0,pt0⟩,80000000,0):=qXm ck_0 line_0 cut_0 rest_0 row_0 vol_0 whole_0
theorem qZq :JL sl1 [] c25 f1 w25 r25=some (⟨f1,pt1⟩,80000000,0):=qXm ck_1 line_1 cut_1 rest_1 row_1 vol_1 whole_1
theorem qIz {x:Scan} {c:List qD} {s:Saw} {r:Rates} {l m k k' v:Int} {sl:List qO} {f:Rect} {p:Pattern} (h0:decide (k<4)=true) (hk:w64 (k+1)=k') (hp:wU x k l m=some (sl,[],0)) (hf:PK sl=some f) (hb:JL sl [] c f s r=some (p,v,0)) (n:Nat) (out:List qI) (hr:room (out.length+1) 72=true):jW x c s r l m (n+1) out k=jW x c s r l m n (out++[⟨k,p,v⟩]) k':=by
 rw[jW,h0,hp];simp only[kp,kd,kQ,kv,hf,hb,hr,hk]
def all4 :List qI:=[⟨0,⟨f0,pt0⟩,80000000⟩,⟨1,⟨f1,pt1⟩,80000000⟩,⟨2,⟨f0,pt0⟩,80000000⟩,⟨3,⟨f1,pt1⟩,80000000⟩]
theorem all_end {x:Scan} {c:List qD} {s:Saw} {r:Rates} {l m:Int} (n:Nat) (out:List qI):jW x c s r l m (n+1) out 4=some (.inr out):=by
 rw[jW,show decide ((4:Int)<4)=false from rfl];rfl
theorem qYB :WA bm c25 w25 r25 200 2=some (all4,0):=by
 unfold WA;have hf:FUEL=9223372036854775803+1+1+1+1+1:=FUEL_eq;generalize 9223372036854775803=m at hf;rw[hf,qIz (k':=1) rfl rfl place_0 fr_0 qZf _ [] rfl,qIz (k:=1) (k':=2) rfl rfl qXu fr_1 qZq _ _ rfl,qIz (k:=2) (k':=3) rfl rfl place_2 fr_0 qZf _ _ rfl,qIz (k:=3) (k':=4) rfl rfl place_3 fr_1 qZq _ _ rfl,all_end];rfl
theorem qWV {x:Scan} {c:List qD} {s:Saw} {r:Rates} {l m:Int} (h:WA x c s r l m=some (all4,0)):ZT x c s r l m=some (⟨0,⟨f0,pt0⟩,80000000⟩,0):=by
 unfold ZT;rw[h];simp only[kd,kQ,kv]
 kernel_rfl
theorem qY9 :(bif (sl1.length:Int) !=1 then YM (sl1,[],0) (all4,0) (⟨0,⟨f0,pt0⟩,80000000⟩,0) (⟨0,⟨⟨⟨0,0⟩,⟨0,0⟩⟩,[]⟩,0⟩,3) true else YM (sl1,[],0) (all4,0) (⟨0,⟨f0,pt0⟩,80000000⟩,0) (⟨0,⟨⟨⟨0,0⟩,⟨0,0⟩⟩,[]⟩,0⟩,3) ((all4.length:Int) !=4))=some true:=by kernel_rfl
def awA (fb:Option Scan) (fp:Scan->Int->Int->Int->Option (List qO×List qH×Int)) (fa:Scan->Option (List qI×Int)) (fB:Scan->Option (qI×Int)):Option Bool:=
 fb.bind λv1=>
 (fp v1 1 200 2).bind λv3=>
 fb.bind λv9=>
 (fa v9).bind λv11=>
 fb.bind λv15=>
 (fB v15).bind λv17=>
 (fB (Scan.mk ([]:List Ring) ([]:List qH))).bind λv19=>
 bif (v3.1.length:Int) !=1 then
  YM v3 v11 v17 v19 true
 else
  YM v3 v11 v17 v19 ((v11.1.length:Int) !=4)
theorem qZI {fb:Option Scan} {fp:Scan->Int->Int->Int->Option (List qO×List qH×Int)} {fa:Scan->Option (List qI×Int)} {fB:Scan->Option (qI×Int)} (h1:fb=some bm) (h2:fp bm 1 200 2=some (sl1,[],0)) (h3:fa bm=some (all4,0)) (h4:fB bm=some (⟨0,⟨f0,pt0⟩,80000000⟩,0)) (h5:fB ⟨[],[]⟩=some (⟨0,⟨⟨⟨0,0⟩,⟨0,0⟩⟩,[]⟩,0⟩,3)):awA fb fp fa fB=some true:=by
 subst h1;unfold awA;simp only[kd];rw[h2];simp only[kd];rw[h3];simp only[kd];rw[h4];simp only[kd];rw[h5];exact qY9
theorem qZr :WL=awA NH wU (λv=>WA v c25 w25 r25 200 2) (λv=>ZT v c25 w25 r25 200 2):=rfl
theorem qT5 :WL=some true:=qZr.trans (qZI beam_eq qXu qYB (qWV qYB) short_0)
theorem TB_L3 {m:zH} {A:List qI×Int} {x:qI×Int} (hA:A.1.length=4) {i:Nat} (hq:x.1.Quarters=i) (h:∀j:Nat,j<4->(A.1.getD j du).Quarters=j/\QW (A.1.getD j du).Pattern m.Products m.Saw.Kerf=some 0/\(A.1.getD j du).Value<=x.1.Value/\(j<i->(A.1.getD j du).Value<x.1.Value)):wL m A x FUEL 0=some (.inr ()):=by
 obtain⟨o,e,h⟩:=T.lp (Q:=λu:Bool⊕Unit=>u= .inr ()) 4 (by decide) (λn (_:Unit) i=>wL m A x n i) (λ_ _=>True) (kw _) (λn k s hk _ ih=>by
  show T _ (wL m A x (n+1) k);rw[wL];refine T.cp (λhk'=>T.gi (by omega) ?_) λ_=>T.rt rfl;obtain⟨h1,h2,h3,h4⟩:=h k (by omega);rw[kg,h1,h2];simp only[kQ,kv,kd];refine T.cp (λq=>absurd q (by omega)) λ_=>T.cp (λq=>?_) λ_=>ih () (by omega) trivial;rw[show((A.1.getD k du).Value==x.1.Value)=false from kT.2 (by have:=h4 (by omega);omega)];exact ih () (by omega) trivial) (s:=()) trivial
 rw[h] at e;exact e
theorem TB_ok (aw:WL=some true) {m:zH} {A:List qI×Int} {x:qI×Int} (hA:A.1.length=4) {i:Nat} (hi:i<4) (hx:x.1=A.1.getD i du) (hn:(A.1.getD i du).Pattern.Nodes.length<=127) (h:∀j:Nat,j<4->(A.1.getD j du).Quarters=j/\QW (A.1.getD j du).Pattern m.Products m.Saw.Kerf=some 0/\(A.1.getD j du).Value<=x.1.Value/\(j<i->(A.1.getD j du).Value<x.1.Value)):QL m A x false=some true:=by
 have hq:x.1.Quarters=i:=by rw[hx];exact(h i hi).1
 unfold QL;rw[TB_L3 hA hq h];simp only[kv,kd,Sum.elim_inr];rw[hq,hA,zR (by omega),kg,hx,qMW _ hn];simp only[kp,kd,aw,VF]
theorem TB_end (aw:WL=some true) {a:wF} {m:zH} {A:List qI×Int} {x:qI×Int} (hl:FY a m=some true) (hA:WA a.Scan m.Products m.Saw m.Rates a.Limit a.Most=some A) (hx:ZT a.Scan m.Products m.Saw m.Rates a.Limit a.Most=some x) (x1:x.2=A.2)
  (h:(A.2≠0/\A.1=[]/\x.1=⟨0,⟨⟨⟨0,0⟩,⟨0,0⟩⟩,[]⟩,0⟩)\/(A.2=0/\A.1.length=4/\(0<=x.1.Quarters/\x.1.Quarters<=3)/\QL m A x false=some true)):WP a m=some true:=by
 unfold WP;rw[hl];simp only[ue,kv,kd,hA,hx,x1,kQ];rcases h with⟨h1,h2,h3⟩|⟨h1,h2,h3,h4⟩
 ·rw[show(A.2 !=0)=true from gg.2 h1,h2,h3];have:=qMW ⟨0,⟨⟨⟨0,0⟩,⟨0,0⟩⟩,[]⟩,0⟩ (by simp);simp only at this;simp only[kp,gJ,this,kd,aw,XJ];rfl
 ·rw[h1,h2,kf (show¬x.1.Quarters<0 by omega),kf (show¬x.1.Quarters>3 by omega)];exact h4
theorem qUp (aw:WL=some true) (a:wF) (m:zH):WP a m=some true:=by
 obtain⟨b,e,hb⟩:=tLight a m;cases b with
 |false=>
  unfold WP;rw[e];simp only[gT,kp,kd,aw]
 |true=>
  have hs:=hb rfl;obtain⟨u0,f0,_,w0⟩:=qLG a.Scan 0 hs;obtain⟨u1,f1,_,w1⟩:=qLG a.Scan 1 hs;obtain⟨u2,f2,_,w2⟩:=qLG a.Scan 2 hs;obtain⟨u3,f3,_,w3⟩:=qLG a.Scan 3 hs;have P0:=qI7 a.Limit a.Most _ f0 w0;have P1:=qI7 a.Limit a.Most _ f1 w1;have P2:=qI7 a.Limit a.Most _ f2 w2;have P3:=qI7 a.Limit a.Most _ f3 w3;obtain⟨o0,h0,d0⟩:=qTC (qEG u0 a.Limit a.Most) m.Products m.Saw m.Rates;obtain⟨o1,h1,d1⟩:=qTC (qEG u1 a.Limit a.Most) m.Products m.Saw m.Rates;obtain⟨o2,h2,d2⟩:=qTC (qEG u2 a.Limit a.Most) m.Products m.Saw m.Rates;obtain⟨o3,h3,d3⟩:=qTC (qEG u3 a.Limit a.Most) m.Products m.Saw m.Rates
  have A:=All_eq (by rw[P0];exact h0) (by rw[P1];exact h1) (by rw[P2];exact h2) (by rw[P3];exact h3);obtain⟨x,X,x1,x2,x3⟩:=Best_T A (all_len d0 d1 d2 d3);refine TB_end aw e A X x1 ?_;rcases all_bad d0 d1 d2 d3 with⟨p0,p1,p2,p3,rfl,rfl,rfl,rfl⟩|⟨q1,_,q3⟩
  ·obtain⟨i,hi,hx,hm,hf⟩:=x2 rfl;have g:∀j:Nat,j<4->((qEy (.inr p0) (.inr p1) (.inr p2) (.inr p3)).1.getD j du).Quarters=j/\QW ((qEy (.inr p0) (.inr p1) (.inr p2) (.inr p3)).1.getD j du).Pattern m.Products m.Saw.Kerf=some 0/\((qEy (.inr p0) (.inr p1) (.inr p2) (.inr p3)).1.getD j du).Pattern.Nodes.length<=127:=λj hj=>by
    match j,hj with
    |0,_=>exact⟨rfl,(d0.2 _ rfl).2,(d0.2 _ rfl).1⟩
    |1,_=>exact⟨rfl,(d1.2 _ rfl).2,(d1.2 _ rfl).1⟩
    |2,_=>exact⟨rfl,(d2.2 _ rfl).2,(d2.2 _ rfl).1⟩
    |3,_=>exact⟨rfl,(d3.2 _ rfl).2,(d3.2 _ rfl).1⟩
   have hQ:x.1.Quarters=i:=by rw[hx];exact(g i hi).1
   exact .inr ⟨rfl,rfl,by omega,TB_ok aw rfl hi hx (g i hi).2.2 λj hj=>⟨(g j hj).1,(g j hj).2.1,hm j hj,hf j⟩⟩
  ·exact .inl ⟨q1,q3,x3 q1⟩
theorem qRW (a:wF) (m:zH) {P Q:Prop} (_:P) (_:Q):WP a m=some true:=qUp qT5 a m
end Saw
end Go.SL
