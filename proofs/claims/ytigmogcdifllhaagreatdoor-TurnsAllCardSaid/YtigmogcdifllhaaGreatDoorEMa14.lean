/- The example of the chapter: the second plan line. -/
import Derived.Test.YtigmogcdifllhaaGreatDoorEMa1
import Derived.Test.YtigmogcdifllhaaGreatDoorEMa13
import Derived.Test.YtigmogcdifllhaaGreatDoorTAwE
import Derived.Test.YtigmogcdifllhaaGreatDoorEMa12
import Derived.Test.YtigmogcdifllhaaGreatDoorTAwD
set_option linter.unusedVariables false
set_option linter.unusedSimpArgs false
namespace Go.SL
namespace Saw
def HG (G:Nat->Int×List Node) (x:Nat):Int×List Node:=if x % 10=0 then G (x/10) else(-1,[])
theorem qLN {a1:List qB} {a3:List Product} {a4:Rect} {a5:Saw} {a6:Rates} {v7:List Int} {x10:Int} (N:Nat) (G:Nat->Int×List Node) (hN:N<=1000) (hp:a5.Pitch=10)
  (hc:∀x:Nat,x<N->decide (w64 ((x:Int)+v7.getD x10.toNat daa)<=w64 (a4.Y.B-a4.Y.A))=true) (he:decide (w64 ((N:Int)+v7.getD x10.toNat daa)<=w64 (a4.Y.B-a4.Y.A))=false)
  (hs:∀k:Nat,10*k<N->∃r nd v y,LV a4 ((10*k:Nat):Int) (w64 (((10*k:Nat):Int)+v7.getD x10.toNat daa))=some r/\wW a1 [] a3 r a5 a6=some (nd,v,0)/\MJ nd=some y/\(bif y then(v,nd) else(-1,[]))=G k):
  zU a1 [] a3 a4 a5 a6 v7 x10 FUEL [] [] 0=some (foldN (λx s=>(s.1++[(HG G x).1],s.2++[(HG G x).2])) 0 N (([]:List Int),([]:List (List Node)))):=by
 have h:=(zA N (λn (t:List Int×List (List Node)) i=>zU a1 [] a3 a4 a5 a6 v7 x10 n t.1 t.2 i) (λx s=>(s.1++[(HG G x).1],s.2++[(HG G x).2])) id (λx s=>s.1.length=x/\s.2.length=x) 0 (ud _) (by omega) (λn x s hx hi=>⟨by
  show zU a1 [] a3 a4 a5 a6 v7 x10 (n+1) s.1 s.2 (x:Int)=_;have k4:∀(g:Int) (b:List Node),UZ s.1 s.2 (x:Int) (zU a1 [] a3 a4 a5 a6 v7 x10 n) g b=zU a1 [] a3 a4 a5 a6 v7 x10 n (s.1++[g]) (s.2++[b]) ((x+1:Nat):Int):=λg b=>by
   unfold UZ;rw[QG (by omega),QG (by omega),qM (by omega)];rfl
  rw[zU,hc x hx,hp,show nz 10=true from rfl];unfold HG;by_cases c:x % 10=0
  ·obtain⟨k,rfl⟩:∃k,x=10*k:=⟨x/10,by omega⟩
   obtain⟨r,nd,v,y,e1,e2,e3,e4⟩:=hs k hx;have e4':G (10*k/10)=(bif y then(v,nd) else(-1,[])):=by rw[Nat.mul_div_cancel_left k (by decide)];exact e4.symm
   rw[if_pos c,e4',show(Int.tmod ((10*k:Nat):Int) 10==0)=true by rw[gc (by omega),gh];omega];simp only[kp,e1,kg,e2,uU,e3,EV,k4];cases y<;>rfl
  ·rw[if_neg c,show(Int.tmod (x:Int) 10==0)=false by rw[gc (by omega),kC];omega];simp only[kp,kr,k4],by simp[hi.1],by simp[hi.2]⟩) (λn s hi=>by
  show zU a1 [] a3 a4 a5 a6 v7 x10 (n+1) s.1 s.2 (N:Int)=_;rw[zU,he];rfl) (([]:List Int),([]:List (List Node))) ⟨rfl,rfl⟩).1
 exact h
theorem w50 {x:Nat} (h:x<=1000) (c:Int) (h1:0<=c) (h2:c<=1000):w64 ((x:Int)+c)=(x:Int)+c:=qD (by omega)
theorem row_50 :zU sl1 [] c25 f1 w25 r25 [50,100] 0 FUEL [] [] 0=some (List.replicate 71 (-1),List.replicate 71 []):=
 (qLN 71 (λ_=>(-1,[])) (by decide) rfl (λx hx=>by
  show decide (w64 ((x:Int)+50)<=120)=true;rw[w50 (by omega) 50 (by decide) (by decide)];exact ka (by omega)) rfl (λk hk=>by
  rcases(show k=0\/k=1\/k=2\/k=3\/k=4\/k=5\/k=6\/k=7 by omega) with rfl|rfl|rfl|rfl|rfl|rfl|rfl|rfl
  ·exact⟨_,_,_,false,rfl,eb50_0,by kernel_rfl,rfl⟩
  ·exact⟨_,_,_,false,rfl,eb50_1,by kernel_rfl,rfl⟩
  ·exact⟨_,_,_,false,rfl,eb50_2,by kernel_rfl,rfl⟩
  ·exact⟨_,_,_,false,rfl,eb50_3,by kernel_rfl,rfl⟩
  ·exact⟨_,_,_,false,rfl,eb50_4,by kernel_rfl,rfl⟩
  ·exact⟨_,_,_,false,rfl,eb50_5,by kernel_rfl,rfl⟩
  ·exact⟨_,_,_,false,rfl,eb50_6,by kernel_rfl,rfl⟩
  ·exact⟨_,_,_,false,rfl,eb50_7,by kernel_rfl,rfl⟩)).trans (by kernel_rfl)
theorem row_100 :zU sl1 [] c25 f1 w25 r25 [50,100] 1 FUEL [] [] 0=some (g1r,[nd1,[],[],[],[],[],[],[],[],[],nd1,[],[],[],[],[],[],[],[],[],nd1]):=
 (qLN 21 (λ_=>(80000000,nd1)) (by decide) rfl (λx hx=>by
  show decide (w64 ((x:Int)+100)<=120)=true;rw[w50 (by omega) 100 (by decide) (by decide)];exact ka (by omega)) rfl (λk hk=>by
  rcases(show k=0\/k=1\/k=2 by omega) with rfl|rfl|rfl
  ·exact⟨_,_,_,true,rfl,eb100_0,by kernel_rfl,rfl⟩
  ·exact⟨_,_,_,true,rfl,eb100_1,by kernel_rfl,rfl⟩
  ·exact⟨_,_,_,true,rfl,eb100_2,by kernel_rfl,rfl⟩)).trans (by kernel_rfl)
theorem qPu {a1:List qB} {a3:List Product} {a4:Rect} {a5:Saw} {a6:Rates} {v7 g:List Int} {b:List (List Node)} {k k':Int} (h0:decide (k<(v7.length:Nat))=true) (hi:inb k v7.length=true) (hk:w64 (k+1)=k') (h:zU a1 [] a3 a4 a5 a6 v7 k FUEL [] [] 0=some (g,b)) (n:Nat) (l9:List (List (List Node))) (l11:List (List Int)) (hr1:room (l11.length+1) 24=true) (hr2:room (l9.length+1) 24=true):yU a1 [] a3 a4 a5 a6 v7 (n+1) l9 k l11=yU a1 [] a3 a4 a5 a6 v7 n (l9++[b]) k' (l11++[g]):=by
 rw[yU,h0,hi,h];simp only[kp,kg,hr1,hr2,hk]
theorem qX6 {a1:List qB} {a3:List Product} {a4:Rect} {a5:Saw} {a6:Rates} {v7:List Int} {k:Int} (h0:decide (k<(v7.length:Nat))=false) (n:Nat) (l9:List (List (List Node))) (l11:List (List Int)):yU a1 [] a3 a4 a5 a6 v7 (n+1) l9 k l11=some (l9,l11):=by
 rw[yU,h0];rfl
theorem qUp {a1:List qB} {a3:List Product} {a4:Rect} {a5:Saw} {a6:Rates} {g1 g2 c d:List Int} {b1 b2:List (List Node)} (hh:EA a3=some [50,100]) (h1:zU a1 [] a3 a4 a5 a6 [50,100] 0 FUEL [] [] 0=some (g1,b1)) (h2:zU a1 [] a3 a4 a5 a6 [50,100] 1 FUEL [] [] 0=some (g2,b2)) (h5:UI a1 a4 a6 FUEL 0 [] []=some (c,d)):GQ a1 [] a3 a4 a5 a6=some (⟨w64 (a4.Y.B-a4.Y.A),a5.Kerf,1,[50,100],[g1,g2],c,d⟩,[b1,b2]):=by
 unfold GQ;have e:yU a1 [] a3 a4 a5 a6 [50,100] FUEL [] 0 []=some ([b1,b2],[g1,g2]):=by
  have hf:FUEL=4611686018427387901+1+1+1:=FUEL_eq;generalize 4611686018427387901=m at hf;rw[hf] at h1 h2⊢;rw[qPu (k:=0) (k':=1) rfl rfl rfl (by rw[hf];exact h1) _ _ _ rfl rfl,qPu (k:=1) (k':=2) rfl rfl rfl (by rw[hf];exact h2) _ _ _ rfl rfl,qX6 rfl];rfl
 rw[hh];simp only[kg,e,h5]
theorem eb_0 :wW sl0 [] c25 ⟨⟨-60,60⟩,⟨-30,20⟩⟩ w25 r25=some (nd0,80000000,0):=TP (L:=LG) (sz:=([100],[0])) (at_:=[⟨-60,40⟩]) (ps:=[[⟨1,0⟩]]) (by kernel_rfl) cut_G (by kernel_rfl) (by kernel_rfl) (by kernel_rfl)
theorem eb_1 :wW sl0 [] c25 ⟨⟨-60,60⟩,⟨-20,30⟩⟩ w25 r25=some (nd0,80000000,0):=TP (L:=LG) (sz:=([100],[0])) (at_:=[⟨-60,40⟩]) (ps:=[[⟨1,0⟩]]) (by kernel_rfl) cut_G (by kernel_rfl) (by kernel_rfl) (by kernel_rfl)
theorem row0_50 :zU sl0 [] c25 f0 w25 r25 [50,100] 0 FUEL [] [] 0=some (g0r,[nd0,[],[],[],[],[],[],[],[],[],nd0]):=
 (qLN 11 (λ_=>(80000000,nd0)) (by decide) rfl (λx hx=>by
  show decide (w64 ((x:Int)+50)<=60)=true;rw[w50 (by omega) 50 (by decide) (by decide)];exact ka (by omega)) rfl (λk hk=>by
  rcases(show k=0\/k=1 by omega) with rfl|rfl
  ·exact⟨_,_,_,true,rfl,eb_0,by kernel_rfl,rfl⟩
  ·exact⟨_,_,_,true,rfl,eb_1,by kernel_rfl,rfl⟩)).trans (by kernel_rfl)
theorem line_0 :GQ sl0 [] c25 f0 w25 r25=some (LP0,[[nd0,[],[],[],[],[],[],[],[],[],nd0],[]]):=qUp (by kernel_rfl) row0_50 (show _=some (([]:List Int),([]:List (List Node))) by kernel_rfl) (show _=some (z60,z60) by kernel_rfl)
theorem line_1 :GQ sl1 [] c25 f1 w25 r25=some (LP1,[List.replicate 71 [],[nd1,[],[],[],[],[],[],[],[],[],nd1,[],[],[],[],[],[],[],[],[],nd1]]):=qUp (by kernel_rfl) row_50 row_100 (show _=some (z120,z120) by kernel_rfl)
theorem qUh {a1:List qB} {a3:List Product} {a4:Rect} {a5:Saw} {a6:Rates} {LP:Line} {st:List (List (List Node))} {pc:List zR} {v x y:Int} {at_:List Span} {ps:List (List Node)} {nd:List Node} (ck:LO a1 [] a3 a4 a5 a6=some 0) (ln:GQ a1 [] a3 a4 a5 a6=some (LP,st)) (cb:yV LP=some (pc,v,0)) (l1:YM a4 (LP,st) (pc,v,0) FUEL [] [] 0=some (at_,ps)) (rw_:WD a4 3 a5.Kerf at_ ps=some (nd,0)) (hx:UU a1=some x) (hy:TJ a1 a4=some y):DL a1 [] a3 a4 a5 a6=some (⟨a4,nd⟩,w64 (v+w64 (a6.Chip*w64 (x-y))),0):=by
 unfold DL;rw[ck];simp only[kg,kA,kr,ln,cb,l1,rw_,hx,hy]
theorem qWf :DL sl0 [] c25 f0 w25 r25=some (⟨f0,pt0⟩,80000000,0):=qUh ck_0 line_0 cut_0 rest_0 row_0 vol_0 whole_0
theorem qV0 :DL sl1 [] c25 f1 w25 r25=some (⟨f1,pt1⟩,80000000,0):=qUh ck_1 line_1 cut_1 rest_1 row_1 vol_1 whole_1
theorem qHZ {x:Scan} {c:List Product} {s:Saw} {r:Rates} {l m k k' v:Int} {sl:List qB} {f:Rect} {p:Pattern} (h0:decide (k<4)=true) (hk:w64 (k+1)=k') (hp:QW x k l m=some (sl,[],0)) (hf:LK sl=some f) (hb:DL sl [] c f s r=some (p,v,0)) (n:Nat) (out:List qQ) (hr:room (out.length+1) 72=true):jR x c s r l m (n+1) out k=jR x c s r l m n (out++[⟨k,p,v⟩]) k':=by
 rw[jR,h0,hp];simp only[kp,kg,kA,kr,hf,hb,hr,hk]
def all4 :List qQ:=[⟨0,⟨f0,pt0⟩,80000000⟩,⟨1,⟨f1,pt1⟩,80000000⟩,⟨2,⟨f0,pt0⟩,80000000⟩,⟨3,⟨f1,pt1⟩,80000000⟩]
theorem all_end {x:Scan} {c:List Product} {s:Saw} {r:Rates} {l m:Int} (n:Nat) (out:List qQ):jR x c s r l m (n+1) out 4=some (.inr out):=by
 rw[jR,show decide ((4:Int)<4)=false from rfl];rfl
theorem qWL :TM bm c25 w25 r25 200 2=some (all4,0):=by
 unfold TM;have hf:FUEL=4611686018427387899+1+1+1+1+1:=FUEL_eq;generalize 4611686018427387899=m at hf;rw[hf,qHZ (k':=1) rfl rfl place_0 fr_0 qWf _ [] rfl,qHZ (k:=1) (k':=2) rfl rfl qUg fr_1 qV0 _ _ rfl,qHZ (k:=2) (k':=3) rfl rfl place_2 fr_0 qWf _ _ rfl,qHZ (k:=3) (k':=4) rfl rfl place_3 fr_1 qV0 _ _ rfl,all_end];rfl
theorem qTt {x:Scan} {c:List Product} {s:Saw} {r:Rates} {l m:Int} (h:TM x c s r l m=some (all4,0)):FN x c s r l m=some (⟨0,⟨f0,pt0⟩,80000000⟩,0):=by
 unfold FN;rw[h];simp only[kg,kA,kr]
 kernel_rfl
theorem qWd :(bif (sl1.length:Int) !=1 then XT (sl1,[],0) (all4,0) (⟨0,⟨f0,pt0⟩,80000000⟩,0) (⟨0,⟨⟨⟨0,0⟩,⟨0,0⟩⟩,[]⟩,0⟩,3) true else XT (sl1,[],0) (all4,0) (⟨0,⟨f0,pt0⟩,80000000⟩,0) (⟨0,⟨⟨⟨0,0⟩,⟨0,0⟩⟩,[]⟩,0⟩,3) ((all4.length:Int) !=4))=some true:=by kernel_rfl
def awA (fb:Option Scan) (fp:Scan->Int->Int->Int->Option (List qB×List qC×Int)) (fa:Scan->Option (List qQ×Int)) (fB:Scan->Option (qQ×Int)):Option Bool:=
 fb.bind λv1=>
 (fp v1 1 200 2).bind λv3=>
 fb.bind λv9=>
 (fa v9).bind λv11=>
 fb.bind λv15=>
 (fB v15).bind λv17=>
 (fB (Scan.mk ([]:List Ring) ([]:List qC))).bind λv19=>
 bif (v3.1.length:Int) !=1 then
  XT v3 v11 v17 v19 true
 else
  XT v3 v11 v17 v19 ((v11.1.length:Int) !=4)
theorem qXO {fb:Option Scan} {fp:Scan->Int->Int->Int->Option (List qB×List qC×Int)} {fa:Scan->Option (List qQ×Int)} {fB:Scan->Option (qQ×Int)} (h1:fb=some bm) (h2:fp bm 1 200 2=some (sl1,[],0)) (h3:fa bm=some (all4,0)) (h4:fB bm=some (⟨0,⟨f0,pt0⟩,80000000⟩,0)) (h5:fB ⟨[],[]⟩=some (⟨0,⟨⟨⟨0,0⟩,⟨0,0⟩⟩,[]⟩,0⟩,3)):awA fb fp fa fB=some true:=by
 subst h1;unfold awA;simp only[kg];rw[h2];simp only[kg];rw[h3];simp only[kg];rw[h4];simp only[kg];rw[h5];exact qWd
theorem qV1 :MZ=awA AL QW (λv=>TM v c25 w25 r25 200 2) (λv=>FN v c25 w25 r25 200 2):=rfl
theorem qS2 :MZ=some true:=qV1.trans (qXO beam_eq qUg qWL (qTt qWL) short_0)
theorem qP7 (a:jY) (b:yP) {P Q:Prop} (_:P) (_:Q):AZ a b=some true:=qTg qS2 a b
end Saw
end Go.SL
