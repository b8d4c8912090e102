/- The saw line: nothing goes back. -/
import Derived.Test.YtpommeghjpbepaaEMa7
set_option linter.unusedVariables false
set_option linter.unusedSimpArgs false
namespace Go.SL.Saw
variable {s :List qG} {d:List qH} {p:List Product} {pt:Pattern} {w:Saw} {t:Rates} {u:T} {N N':List qA} {ri ri':List Int} {S S' O O':List Rect} {B B':List qL}
structure On29 (s:List qG) (w:Saw) (e:Int) (ri ri':List Int) (S S' O O':List Rect) (B B':List qL):Prop where
 mem:∀c∈B,c∈B'
 b:sumL (brdV s) B<=sumL (brdV s) B'
 d:wC s S+sumL (trmV s w.Trim) B<=wC s S'+sumL (trmV s w.Trim) B'
 o:wC s O'<=wC s O
 u:wC s S'+wC s O'+(sumL (brdV s) B'+sumL (trmV s w.Trim) B')<=wC s S+wC s O+(sumL (brdV s) B+sumL (trmV s w.Trim) B)
 ne:e≠0->S'=S/\O'=O/\B'=B/\ri'.length=ri.length
 z:e=0->ri'.length<ri.length
theorem On29.rfl' {e:Int} (h:e≠0):On29 s w e ri ri S S O O B B:=⟨λ_ h=>h,kH _,kH _,kH _,kH _,λ_=>⟨rfl,rfl,rfl,rfl⟩,λc=>absurd c h⟩
theorem qBd {α:Type} {f:α->Int} (hf:∀x,0<=f x):∀{l m:List α},l.Sublist m->sumL f l<=sumL f m
 |_,_,.slnil=>kH _
 |_,_,.cons a h=>by
  rw[wV];have:=qBd hf h;have:=hf a;omega
 |_,_,.cons_cons a h=>by
  rw[wV,wV];have:=qBd hf h;omega
theorem trm_nn (s:List qG) (trim:Int) (c:qL):0<=trmV s trim c:=by
 unfold trmV;have:=DK s c.Box.X c.Box.Y (qAC c.Box.Z trim);have:=DK s c.Box.X c.Box.Y (qC2 c.Box.Z trim (qZ s));omega
def qFb (s:List qG) (d:List qH) (p:List Product) (pt:Pattern) (w:Saw) (t:Rates) (u:T) (e:Int) (N N':List qA) (ri ri':List Int) (S S':List Rect):Prop:=
 NW (gOf false s d p w t) u pt.Frame N' ri' S'/\∃O B O' B',IG s d p w t N ri S O B/\IG s d p w t N' ri' S' O' B'/\On29 s w e ri ri' S S' O O' B B'
theorem NW.onAbandon (h:VY s d p pt w t) (C:NW (gOf false s d p w t) u pt.Frame N ri S):∃e ri',QG s d p w.Kerf w.Trim w.Pitch w.Step t.Chip t.Dust t.Fine (qZ s) ri N S=some (e,ri')/\qFb s d p pt w t u e N N ri ri' S S:=by
 obtain⟨hh,L,e⟩:=C.ex;obtain⟨O,B,q,q1,q2⟩:=L.shows h;unfold QG;have hnil:ri=zs29 []->∃e ri',(bif (ri.length:Int)==0 then some (18,ri) else some (0,([]:List Int)))=some (e,ri')/\qFb s d p pt w t u e N N ri ri' S S:=λc=>by
  subst c;exact⟨18,zs29 [],rfl,⟨hh,L,.inr rfl⟩,[],B,[],B,q2,q2,On29.rfl' (by decide)⟩
 rcases e with e|e
 ·cases hr:restT hh u 0 with
  |nil=>exact hnil (by rw[e,hr])
  |cons j tl=>
   have hl:ri.length=tl.length+1:=by rw[e,FD,hr];rfl
   have:((ri.length:Int)==0)=false:=by rw[ua];omega
   rw[this];refine⟨0,[],rfl,⟨hh,L,.inr rfl⟩,O,B,[],B,by rw[e];exact q1,q2,λ_ h=>h,kH _,kH _,?_,?_,λc=>absurd rfl c,λ_=>by rw[hl];exact Nat.succ_pos _⟩
   ·exact qGO s O
   ·have:=qGO s O;have e0:wC s []=0:=rfl;omega
 ·exact hnil e
theorem NW.onCut (h:VY s d p pt w t) (C:NW (gOf false s d p w t) u pt.Frame N ri S) (sh:Int):∃e ri' N' S',cutL s d p w t sh ri N S=some (e,ri',N',S')/\qFb s d p pt w t u e N N' ri ri' S S':=by
 obtain⟨hh,L,e⟩:=C.ex;obtain⟨O,B,q,q1,q2⟩:=L.shows h;have hnil:ri=zs29 []->∃e ri' N' S',cutL s d p w t sh ri N S=some (e,ri',N',S')/\qFb s d p pt w t u e N N' ri ri' S S':=λc=>by
  subst c;exact⟨18,zs29 [],N,S,rfl,⟨hh,L,.inr rfl⟩,[],B,[],B,q2,q2,On29.rfl' (by decide)⟩
 rcases e with e|e
 ·cases hr:restT hh u 0 with
  |nil=>exact hnil (by rw[e,hr])
  |cons j tl=>
   have e':ri=zs29 (j::tl):=by rw[e,hr]
   rcases L.cut h hr q sh (λc=>by cases c) with⟨ec,_⟩|⟨N',c,O',B',ec,L',hr',q',bs,os,us⟩
   ·refine⟨9,zs29 (j::tl),N,S,by rw[e'];exact ec,⟨hh,L,.inl (by rw[hr])⟩,O,B,O,B,by rw[e];exact q1,by rw[<-hr];exact q1,?_⟩;rw[e'];exact On29.rfl' (by decide)
   ·obtain⟨O2,B2,q2',s1,_⟩:=L'.shows h;have eO:O2=O':=q2'.rl.symm.trans q'.rl;have eB:B2=B':=q2'.bl.symm.trans q'.bl;subst eO eB;rw[usedE,usedE] at us;have sb:=qBd (f:=brdV s) (λc=>DK _ _ _ _) bs;have st:=qBd (f:=trmV s w.Trim) (trm_nn s w.Trim) bs;have ec1:wC s (S++[c])=wC s S+QM s c:=by
     unfold wC;rw[RC,wV,UI];omega
    have wn:=qEH s c;refine⟨0,zs29 tl,N',S++[c],by rw[e'];exact ec,⟨j+1,L',.inl (by rw[hr'])⟩,O,B,O2,B2,by rw[e];exact q1,by rw[hr'] at s1;exact s1,λx hx=>bs.subset hx,sb,?_,os,us,λc=>absurd rfl c,λ_=>?_⟩
    ·rw[ec1];omega
    ·rw[e',FD,FD];exact Nat.lt_succ_self _
 ·exact hnil e
def sameC (x y:qL):Bool:=((((x).Leaf)==((y).Leaf))&&((((x).Product)==((y).Product))&&((((((((x).Box).X).A)==((((y).Box).X).A))&&((((((x).Box).X).B)==((((y).Box).X).B))&&true))&&(((((((x).Box).Y).A)==((((y).Box).Y).A))&&((((((x).Box).Y).B)==((((y).Box).Y).B))&&true))&&(((((((x).Box).Z).A)==((((y).Box).Z).A))&&((((((x).Box).Z).B)==((((y).Box).Z).B))&&true))&&true)))&&((((x).Worth)==((y).Worth))&&true))))
theorem qKS (x:qL):sameC x x=true:=by simp[sameC]
theorem on_L10 (v v':List qL) (hl:v'.length<=1000) (x:Nat) (hx:x<v.length) (hm:v.getD x du∈v'):zZ v v' (x:Int) FUEL false 0=some true:=by
 have key:∀(k i n:Nat) (f:Bool),i+k=v'.length->k<n->zZ v v' (x:Int) n f (i:Int)=some (f||(v'.drop i).any (λc=>sameC c (v.getD x du))):=by
  intro k
  induction k with
  |zero=>
   intro i n f hi hn;obtain⟨n,rfl⟩:∃m,n=m+1:=⟨n-1,by omega⟩
   rw[zZ,kd (by omega),uo (by omega)];simp
  |succ k ih=>
   intro i n f hi hn;obtain⟨n,rfl⟩:∃m,n=m+1:=⟨n-1,by omega⟩
   rw[zZ,ka (by omega),OG v' i (by omega),List.any_cons];unfold WT;rw[zM (by omega),ki];cases f with
   |true=>rw[ki,ih (i+1) n true (by omega) (by omega)];rfl
   |false=>
    rw[kp,zH (by omega),zH (by omega),ki,ki,ih (i+1) n _ (by omega) (by omega)];rw[ks,ks,ud];rfl
 have e:=key v'.length 0 FUEL false (by omega) (by rw[yT];omega);rw[show(0:Int)=((0:Nat):Int) from rfl,e,List.drop_zero,ud];exact congrArg some (uD.2 ⟨_,hm,qKS _⟩)
theorem on_L9 (v v':List qL) (hv:v.length<=1000) (hl:v'.length<=1000) (hm:∀c∈v,c∈v'):zV v v' FUEL 0=some (.inr ()):=by
 have h0:∀n i:Nat,i<v.length->zV v v' (n+1) (i:Int)=zV v v' n ((i+1:Nat):Int):=λn i hi=>by
  rw[zV,ka (by omega),on_L10 v v' hl i hi (hm _ (PH hi)),zM (by omega)];rfl
 have h1:∀n:Nat,zV v v' (n+1) (v.length:Int)=some (.inr ()):=λn=>by
  rw[zV,kd (by omega)];rfl
 exact qLh v.length (λn i=>zV v v' n i) (by omega) h0 h1
theorem qLG (s:List qG) (d:List qH) (p:List Product) (e1 e2 e3 e4 e5 e6 e7 e8:Int) (ri:List Int) (N:List qA) (S:List Rect):yK s d p e1 e2 e3 e4 e5 e6 e7 e8 ri N S=some (ri.length:Int):=rfl
theorem on_k7 (a:qQ) (h:VY a.Solid a.Defects a.Products a.Pattern a.Saw a.Rates) (N0:List qA) (ri0:List Int) (x:Nat) (hx:x<1000) (rec:Int->List qA->List Int->List Rect->Option (Bool⊕Unit)) {e:Int}
  (q:IG a.Solid a.Defects a.Products a.Saw a.Rates N ri S O B) (q':IG a.Solid a.Defects a.Products a.Saw a.Rates N' ri' S' O' B') (m:On29 a.Solid a.Saw e ri ri' S S' O O' B B'):
  QV ((⟨a.Solid,a.Defects,a.Products,a.Saw,a.Rates,qZ a.Solid,N0,ri0,[]⟩:qS),(0:Int)) (x:Int) rec (DV a.Solid a.Saw.Trim a.Rates.Chip a.Rates.Dust S O B,wC a.Solid O) B (ri.length:Int) e N' ri' S'=rec ((x+1:Nat):Int) N' ri' S':=by
 have e8:∀b,b=false->zI (x:Int) rec B N' ri' S' B' b=rec ((x+1:Nat):Int) N' ri' S':=λb hb=>by
  subst hb;unfold zI;rw[kp,on_L9 B B' (by have:=q.bl;omega) (by have:=q'.bl;omega) m.mem,zM (by omega)];rfl
 have mb:=m.b;have md:=m.d;have mo:=m.o;have mu:=m.u;unfold QV;simp only;rw[q'.yl,q'.bd];simp only[kg,qLG];have c1:decide ((DV a.Solid a.Saw.Trim a.Rates.Chip a.Rates.Dust S' O' B').Boards<(DV a.Solid a.Saw.Trim a.Rates.Chip a.Rates.Dust S O B).Boards)=false:=kd (by unfold DV;simp only;omega);have c2:decide ((DV a.Solid a.Saw.Trim a.Rates.Chip a.Rates.Dust S' O' B').Chips<(DV a.Solid a.Saw.Trim a.Rates.Chip a.Rates.Dust S O B).Chips)=false:=kd (by unfold DV;simp only;omega)
 have c3:decide ((DV a.Solid a.Saw.Trim a.Rates.Chip a.Rates.Dust S' O' B').Dust<(DV a.Solid a.Saw.Trim a.Rates.Chip a.Rates.Dust S O B).Dust)=false:=kd (by unfold DV;simp only;omega);have c4:decide (wC a.Solid O'>wC a.Solid O)=false:=kd (by omega);rw[c1,c2,c3,c4];simp only[kp];by_cases c:e=0
 ·have mz:=m.z c;rw[c];simp only[uM,kp,beq_self_eq_true,ki];exact e8 _ (kd (by omega))
 ·obtain⟨rfl,rfl,rfl,hl⟩:=m.ne c;have h1:(e !=0)=true:=by simpa using c
  have h2:(e==0)=false:=by simpa using c
  rw[h1,h2,hl];simp;exact e8 _ rfl
theorem on_L5 (a:qQ) (l:List zG) (h:VY a.Solid a.Defects a.Products a.Pattern a.Saw a.Rates) (N0:List qA) (ri0:List Int):∀(k i n:Nat) (N:List qA) (ri:List Int) (S:List Rect),i+k=24->k<n->NW (gOf false a.Solid a.Defects a.Products a.Saw a.Rates) u a.Pattern.Frame N ri S->
  zU l ((⟨a.Solid,a.Defects,a.Products,a.Saw,a.Rates,qZ a.Solid,N0,ri0,[]⟩:qS),(0:Int)) n (i:Int) N ri S=some (.inr ())
 |0,i,n,N,ri,S,hi,hn,C=>by
  obtain⟨n,rfl⟩:∃m,n=m+1:=⟨n-1,by omega⟩
  rw[zU,kd (show¬(i:Int)<24 by omega)];unfold QW;cases decide ((i:Int)<(l.length:Int))<;>rfl
 |k+1,i,n,N,ri,S,hi,hn,C=>by
  obtain⟨n,rfl⟩:∃m,n=m+1:=⟨n-1,by omega⟩
  rw[zU];unfold QW;by_cases c:i<l.length
  ·rw[ka (show(i:Int)<(l.length:Int) by omega),ka (show(i:Int)<24 by omega),zH (by omega)];simp only[ki,qLG,kg];cases (l.getD (i:Int).toNat du).Stop with
   |true=>
    obtain⟨e,ri',ea,C',O,B,O',B',q,q',m⟩:=C.onAbandon h;rw[q.yl,q.bd,ea];simp only[kg,ki];rw[on_k7 a h N0 ri0 i (by omega) _ q q' m];exact on_L5 a l h N0 ri0 k (i+1) n N ri' S (by omega) (by omega) C'
   |false=>
    obtain⟨e,ri',N',S',ea,C',O,B,O',B',q,q',m⟩:=C.onCut h (l.getD (i:Int).toNat du).Shift;unfold cutL at ea;rw[q.yl,q.bd,ea];simp only[kg,kp];rw[on_k7 a h N0 ri0 i (by omega) _ q q' m];exact on_L5 a l h N0 ri0 k (i+1) n N' ri' S' (by omega) (by omega) C'
  ·rw[kd (show¬(i:Int)<(l.length:Int) by omega)];rfl
theorem qCL (a:qQ) (l:List zG) {P Q:Prop} (_:P) (_:Q):KJ a l=some true:=by
 unfold KJ;obtain⟨b,hb⟩:=qK6 a;rw[hb];simp only[kg];cases b with
 |false=>rw[show(!false)=true from rfl,ki,IB];rfl
 |true=>
  rw[show(!true)=false from rfl,kp];by_cases h:VY a.Solid a.Defects a.Products a.Pattern a.Saw a.Rates
  ·obtain⟨u,N,hn,L,hl,e⟩:=qLR false a h;rw[e];simp only[kg,Sum.elim_inr,uM,kp];unfold JR;simp only[kp];have e5:=on_L5 a l h N (zs29 (ZU u 0)) 24 0 FUEL N (zs29 (restT 0 u 0)) [] rfl (by rw[yT];omega) ⟨0,L,.inl rfl⟩;rw[rest_lo (ko 0)] at e5;rw[show(0:Int)=((0:Nat):Int) from rfl] at e5⊢;rw[e5];simp only[kg,Sum.elim_inr,IB]
  ·obtain⟨e,hc,he,_⟩:=qLc a h;rw[he];simp only[kg,Sum.elim_inl];have e1:(e !=0)=true:=by simpa using hc
   have e2:(e==0)=false:=by simpa using hc
   unfold JK JP;rw[e1,e2];simp[IB]
end Go.SL.Saw
