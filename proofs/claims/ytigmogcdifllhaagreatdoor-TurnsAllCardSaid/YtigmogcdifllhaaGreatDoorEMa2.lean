/- Section's plain mathematics, part 3: sections built of rows. -/
import Derived.Test.YtigmogcdifllhaaGreatDoorEMa1
set_option linter.unusedVariables false
set_option linter.unusedSimpArgs false
namespace Go.SL
namespace Saw
def qFd (g:Nat->Span) (r:Int):Span:=if-60<=r/\r<60 then nrm (g (r+60).toNat) else⟨0,0⟩
structure BInv (g:Nat->Span) (k:Nat) (a u:Nat) (l:List Span):Prop where
 ak:a<k
 fa:empS (g a)=false
 bef:∀j,j<a->empS (g j)=true
 len:l.length=k-a
 el:∀i,i<k-a->l.getD i daa=nrm (g (a+i))
 u0:0<u
 uk:u<=k-a
 fu:empS (g (a+u-1))=false
 aft:∀i,u<=i->i<k-a->empS (g (a+i))=true
def BI (g:Nat->Span) (k:Nat) (s:Int×Int×List Span):Prop:=(s=(0,0,[])/\∀j,j<k->empS (g j)=true)\/∃a u:Nat,s.1=(u:Int)/\s.2.1=(a:Int)-60/\BInv g k a u s.2.2
def qEa (g:Nat->Span) (x:Nat) (s:Int×Int×List Span):Int×Int×List Span:=
 bif !empS (g x) then(((s.2.2.length+1:Nat):Int),(bif s.1==0 then(x:Int)-60 else s.2.1),s.2.2++[g x])
 else bif decide (s.1>0) then(s.1,s.2.1,s.2.2++[⟨0,0⟩]) else s
theorem qA8 {α:Type} [Inhabited α] {l:List α} {x:α} {i:Nat} (h:i<=l.length):(l++[x]).getD i daa=if i<l.length then l.getD i daa else x:=by
 rw[ki];by_cases hi:i<l.length
 ·rw[if_pos hi,kL hi,<-ki]
 ·rw[if_neg hi,kH (by omega),show i-l.length=0 by omega];rfl
theorem qT9 {g:Nat->Span} {k:Nat} {s:Int×Int×List Span} (h:BI g k s):BI g (k+1) (qEa g k s):=by
 unfold qEa;rcases h with⟨rfl,hall⟩|⟨a,u,e1,e2,hb⟩
 ·cases he:empS (g k) with
  |true=>
   refine .inl ⟨rfl,λj hj=>?_⟩;by_cases hjk:j=k
   ·rw[hjk];exact he
   ·exact hall j (by omega)
  |false=>
   refine .inr ⟨k,1,rfl,rfl,⟨by omega,he,hall,by simp,λi hi=>?_,by omega,by omega,by simpa using he,λi h1 h2=>by omega⟩⟩;obtain rfl:i=0:=by omega
   exact(qJK he).symm
 ·have hu:0<u:=hb.u0;have ak:=hb.ak;have hl:=hb.len;have e0:(s.1==0)=false:=by rw[e1,kC];omega
  have e0':decide (s.1>0)=true:=by rw[e1];exact ka (by omega)
  rw[e0,e0'];simp only[kr,kp];cases he:empS (g k) with
  |false=>
   refine .inr ⟨a,s.2.2.length+1,rfl,e2,⟨by omega,hb.fa,hb.bef,by simp;omega,λi hi=>?_,by omega,by omega,?_,λi h1 h2=>by omega⟩⟩
   ·simp only[uC,kp];rw[qA8 (by omega)];split
    ·exact hb.el i (by omega)
    ·rw[show a+i=k by omega];exact(qJK he).symm
   ·rw[hl,show a+(k-a+1)-1=k by omega];exact he
  |true=>
   refine .inr ⟨a,u,e1,e2,⟨by omega,hb.fa,hb.bef,by simp;omega,λi hi=>?_,hu,by have:=hb.uk;omega,hb.fu,λi h1 h2=>?_⟩⟩
   ·simp only[kG,kr];rw[qA8 (by omega)];split
    ·exact hb.el i (by omega)
    ·rw[show a+i=k by omega];exact(AS he).symm
   ·by_cases hik:i<k-a
    ·exact hb.aft i h1 hik
    ·rw[show a+i=k by omega];exact he
theorem qGv {α:Type} [Inhabited α] {l:List α} {u i:Nat}:(l.take u).getD i daa=if i<u then l.getD i daa else daa:=by
 rw[ki,uh];split
 ·rw[<-ki]
 ·rfl
theorem qXl {g:Nat->Span} {s:Int×Int×List Span} (h:BI g 120 s):slOk 0 s.1 s.2.2.length=true/\Trim ⟨s.2.1,s.2.2.take s.1.toNat⟩/\∀r,row ⟨s.2.1,s.2.2.take s.1.toNat⟩ r=qFd g r:=by
 rcases h with⟨rfl,hall⟩|⟨a,u,e1,e2,hb⟩
 ·refine⟨rfl,⟨λ_=>rfl,λh=>absurd rfl h,λh=>absurd rfl h⟩,λr=>?_⟩;have:row ⟨0,([]:List Span).take 0⟩ r=⟨0,0⟩:=by unfold row;split<;>rfl
  refine Eq.trans this ?_;unfold qFd;split
  ·rw[AS (hall _ (by omega))]
  ·rfl
 ·have hl:=hb.len;have uk:=hb.uk;have u0:=hb.u0;have ak:=hb.ak;have eu:s.1.toNat=u:=by rw[e1];simp
  rw[eu];have tl:(s.2.2.take u).length=u:=by rw[ur];omega
  refine⟨?_,⟨λh=>?_,λ_=>?_,λ_=>?_⟩,λr=>?_⟩
  ·unfold slOk;rw[e1];exact ka ⟨by omega,by omega,by omega⟩
  ·have h':s.2.2.take u=[]:=h;rw[h'] at tl;simp at tl;omega
  ·show empS ((s.2.2.take u).getD 0 daa)=false;rw[qGv,if_pos u0,hb.el 0 (by omega),qA6];exact hb.fa
  ·show empS ((s.2.2.take u).getD ((s.2.2.take u).length-1) daa)=false;rw[tl,qGv,if_pos (by omega),hb.el (u-1) (by omega),qA6,show a+(u-1)=a+u-1 by omega];exact hb.fu
  ·unfold row qFd;simp only[e2];by_cases h1:r<(a:Int)-60
   ·rw[if_pos h1];split
    ·rw[AS (hb.bef _ (by omega))]
    ·rfl
   ·rw[if_neg h1,qGv];have ei:(r-((a:Int)-60)).toNat+a=(r+60).toNat:=by omega
    by_cases h2:(r-((a:Int)-60)).toNat<u
    ·rw[if_pos h2,hb.el _ (by omega),if_pos (by omega),<-ei,dn]
    ·rw[if_neg h2];split
     ·rw[<-ei,dn];by_cases h3:(r-((a:Int)-60)).toNat<120-a
      ·rw[AS (hb.aft _ (by omega) h3)];rfl
      ·omega
     ·rfl
noncomputable def qBP (g:Nat->Span):qF:=⟨(foldi (λx (_:Nat) s=>qEa g x s) 0 (List.range 120) (0,0,[])).2.1,(foldi (λx (_:Nat) s=>qEa g x s) 0 (List.range 120) (0,0,[])).2.2.take (foldi (λx (_:Nat) s=>qEa g x s) 0 (List.range 120) (0,0,[])).1.toNat⟩
theorem qRN (g:Nat->Span):∀(l:List Nat) (x:Nat) (s:Int×Int×List Span),BI g x s->BI g (x+l.length) (foldi (λx (_:Nat) s=>qEa g x s) x l s)
 |[],x,s,h=>h
 |a::l,x,s,h=>by
  unfold foldi;have:=qRN g l (x+1) _ (qT9 h);rw[ue,show x+(l.length+1)=x+1+l.length by omega];exact this
theorem AX (g:Nat->Span):Trim (qBP g)/\∀r,row (qBP g) r=qFd g r:=by
 have:=qRN g (List.range 120) 0 (0,0,[]) (.inl ⟨rfl,λj hj=>by omega⟩);rw[uc] at this;exact(qXl this).2
theorem qX0 {g:Nat->Span} (h:∀j,j<120->rngS (nrm (g j))=true):VS (qBP g):=by
 obtain⟨h1,h2⟩:=AX g;refine VS_of h1 (λr=>g (r+60).toNat) (λr=>?_) (λr r1 r2=>h _ (by omega));rw[h2 r];rfl
theorem qPr (g:Nat->Span) (L:Nat->Int->Int->Int->List Span->Option (Int×Int×List Span))
  (h0:∀n (x:Nat) u w (l:List Span),x<120->L (n+1) u ((x:Int)-60) w l=bif !empS (g x) then(bif u==0 then(bif room (l.length+1) 16 then L n (((l.length+1):Nat):Int) (w64 ((x:Int)-60+1)) ((x:Int)-60) (l++([g x]:List Span)) else none) else(bif room (l.length+1) 16 then L n (((l.length+1):Nat):Int) (w64 ((x:Int)-60+1)) w (l++([g x]:List Span)) else none))
   else bif decide (u>0) then(bif room (l.length+1) 16 then L n u (w64 ((x:Int)-60+1)) w (l++([(Span.mk 0 0)]:List Span)) else none) else L n u (w64 ((x:Int)-60+1)) w l)
  (h1:∀n u w l,L (n+1) u 60 w l=some (u,w,l)):
  ((L FUEL 0 (-60) 0 []).bind λo=>bif slOk 0 o.1 o.2.2.length then some (qF.mk o.2.1 (o.2.2.take o.1.toNat)) else none)=some (qBP g):=by
 have k:=jJ (List.range 120) (λn (s:Int×Int×List Span) x=>L n s.1 x s.2.1 s.2.2) (λx=>(x:Int)-60) (λx (_:Nat) s=>qEa g x s) (λs=>s) (λx s=>BI g x s/\s.2.2.length<=x) (by simp)
  (λn x s hx hi=>by
   have hx':x<120:=by simpa using hx
   have hrm:room (s.2.2.length+1) 16=true:=QG (by omega);have e:w64 ((x:Int)-60+1)=((x+1:Nat):Int)-60:=by rw[qD (by omega)];omega
   refine⟨?_,qT9 hi.1,?_⟩
   ·rw[h0 n x _ _ _ hx',hrm,e];unfold qEa;cases empS (g x) with
    |false=>cases s.1==0<;>rfl
    |true=>cases decide (s.1>0)<;>rfl
   ·unfold qEa;cases empS (g x) with
    |false=>simp;omega
    |true=>cases decide (s.1>0)<;>simp<;>omega)
  (λn s hi=>by simpa using h1 n s.1 s.2.1 s.2.2) (i:= -60) rfl (0,0,[]) ⟨.inl ⟨rfl,λj hj=>by omega⟩,by simp⟩
 obtain⟨k1,k2,_⟩:=k;simp only at k1;rw[k1];simp only[kg];rw[uc] at k2;rw[(qXl k2).1];rfl
theorem qQP {s:qF} (h:VS s) {r:Int} (h1: -60<=r) (h2:r<60):qBH s r=some (row s r)/\qDr s r=some (row s r):=by
 have b1:=h.low;have b2:=h.high;unfold qBH qAo qDr qBJ row;by_cases hr:r<s.Low
 ·rw[ka hr,if_pos hr];exact⟨rfl,rfl⟩
 rw[ke hr,if_neg hr,qD (n:=s.Low+_) (by omega),qD (n:=r-s.Low) (by omega)];by_cases hr2:r<s.Low+s.Rows.length
 ·rw[ke (show¬r≥_ by omega),qJ (by omega)];exact⟨rfl,rfl⟩
 ·rw[ka (show r≥_ by omega),qCl (by omega)];exact⟨rfl,rfl⟩
theorem qF.eta (s:qF):qF.mk s.Low s.Rows=s:=rfl
def negS (x:Span):Span:=⟨-x.B,-x.A⟩
theorem neg_neg (x:Span):negS (negS x)=x:=by unfold negS;simp
def shS (dx:Int) (x:Span):Span:=bif empS x then x else⟨x.A+dx,x.B+dx⟩
theorem qNL (l:List Span) (hl:l.length<=1000):∀(n x:Nat),l.length<x+n->x<=l.length->(∀j,j<x->empS (l.getD j daa)=true)->
  ∃f:Nat,WW l n (x:Int)=some (f:Int)/\f<=l.length/\(∀j,j<f->empS (l.getD j daa)=true)/\(f<l.length->empS (l.getD f daa)=false)
 |0,x,h1,h2,_=>by omega
 |n+1,x,h1,h2,h3=>by
  rw[WW];by_cases hx:x<l.length
  ·rw[ka (show(x:Int)<_ by omega),qJ (by omega)];simp only[kp,ko,TY,kg,FQ,qM (show x<4611686018427387904 by omega)];cases he:empS (l.getD x daa) with
   |true=>
    exact qNL l hl n (x+1) (by omega) (by omega) (λj hj=>by
     by_cases hjx:j=x
     ·rw[hjx];exact he
     ·exact h3 j (by omega))
   |false=>exact⟨x,rfl,by omega,h3,λ_=>he⟩
  ·rw[ke (show¬(x:Int)<_ by omega)];exact⟨x,rfl,by omega,h3,λh=>absurd h hx⟩
theorem qLX (l:List Span) (hl:l.length<=1000) (f:Nat):∀(n x:Nat),x<n+f->f<=x->x<=l.length->(∀j,x<=j->j<l.length->empS (l.getD j daa)=true)->
  ∃t:Nat,KC l (f:Int) n (x:Int)=some (t:Int)/\f<=t/\t<=l.length/\(∀j,t<=j->j<l.length->empS (l.getD j daa)=true)/\(f<t->empS (l.getD (t-1) daa)=false)
 |0,x,h1,h2,_,_=>by omega
 |n+1,x,h1,h2,h3,h4=>by
  rw[KC];by_cases hx:f<x
  ·rw[ka (show(x:Int)>(f:Int) by omega),qD (by omega),qJ (by omega),show(x:Int)-1=((x-1:Nat):Int) by omega];simp only[kp,ko,TY,kg,LR];cases he:empS (l.getD (x-1) daa) with
   |true=>
    rw[qD (by omega),show(x:Int)-1=((x-1:Nat):Int) by omega];exact qLX l hl f n (x-1) (by omega) (by omega) (by omega) (λj h5 h6=>by
     by_cases hjx:j=x-1
     ·rw[hjx];exact he
     ·exact h4 j (by omega) h6)
   |false=>exact⟨x,rfl,by omega,by omega,h4,λ_=>he⟩
  ·rw[ke (show¬(x:Int)>(f:Int) by omega)];exact⟨x,rfl,by omega,by omega,h4,λh=>by omega⟩
theorem qMJ (l:List Span) (hl:l.length<=1000) (t:Nat) (ht:t<=l.length):∀(n x:Nat) (o:List Span),t<x+n->x<=t->o.length<=x->∃o',yM l (t:Int) n (x:Int) o=some (o++o')/\o'.length=t-x/\∀i,i<t-x->o'.getD i daa=nrm (l.getD (x+i) daa)
 |0,x,o,h1,h2,_=>by omega
 |n+1,x,o,h1,h2,h3=>by
  rw[yM];by_cases hx:x<t
  ·rw[ka (show(x:Int)<(t:Int) by omega),qJ (by omega)];have e:(bif empS (l.getD x daa) then XP (x:Int) o (yM l (t:Int) n) ⟨0,0⟩ else XP (x:Int) o (yM l (t:Int) n) (l.getD x daa))=yM l (t:Int) n ((x+1:Nat):Int) (o++[nrm (l.getD x daa)]):=by
    unfold XP nrm;rw[QG (by omega),qM (by omega)];cases empS (l.getD x daa)<;>rfl
   simp only[kp,ko,TY,kg];rw[e];obtain⟨o',k1,k2,k3⟩:=qMJ l hl t ht n (x+1) (o++[nrm (l.getD x daa)]) (by omega) (by omega) (by simp;omega);refine⟨nrm (l.getD x daa)::o',by rw[k1];simp,by simp;omega,λi hi=>?_⟩;cases i with
   |zero=>rfl
   |succ i=>
    have:=k3 i (by omega);rw[show x+(i+1)=x+1+i by omega];simpa using this
  ·rw[ke (show¬(x:Int)<(t:Int) by omega)];exact⟨[],by simp,by simp;omega,λi hi=>by omega⟩
theorem qNq (l:List Span) (hl:l.length=120):RM (-60) l=some (qBP λj=>l.getD j daa):=by
 obtain⟨f,f1,f2,f3,f4⟩:=qNL l (by omega) FUEL 0 (by rw[FUEL_eq];omega) (by omega) (λj hj=>by omega);obtain⟨t,t1,t2,t3,t4,t5⟩:=qLX l (by omega) f FUEL l.length (by rw[FUEL_eq];omega) f2 (kq _) (λj h1 h2=>by omega);have f1':WW l FUEL 0=some (f:Int):=f1;unfold RM;rw[f1'];simp only[kg];rw[t1];simp only[kg];obtain⟨g1,g2⟩:=AX (λj=>l.getD j daa);by_cases hft:f=t
 ·rw[show((f:Int)==(t:Int))=true by rw[hft];simp];simp only[kp]
  congr 1
  refine qN7 (s:=nilS) qJM.toTrim g1 (λr=>?_);have:row nilS r=⟨0,0⟩:=by unfold row nilS;split<;>rfl
  rw[this,g2 r];unfold qFd;split
  ·rw[AS];by_cases hj:(r+60).toNat<f
   ·exact f3 _ hj
   ·exact t4 _ (by omega) (by omega)
  ·rfl
 ·obtain⟨o,o1,o2,o3⟩:=qMJ l (by omega) t t3 FUEL f [] (by rw[FUEL_eq];omega) t2 (by simp);rw[show((f:Int)==(t:Int))=false by rw[kC];omega];simp only[kr];rw[o1,qD (by omega)];simp only[kg,uj]
  congr 1
  refine qN7 ⟨λe=>?_,λ_=>?_,λ_=>?_⟩ g1 (λr=>?_)
  ·have e':o=[]:=e;rw[e'] at o2;simp at o2;omega
  ·show empS (o.getD 0 daa)=false;rw[o3 0 (by omega),qA6];exact f4 (by omega)
  ·show empS (o.getD (o.length-1) daa)=false;rw[o2,o3 _ (by omega),qA6,show f+(t-f-1)=t-1 by omega];exact t5 (by omega)
  ·rw[g2 r];unfold row qFd;simp only;by_cases c1:r< -60+(f:Int)
   ·rw[if_pos c1];split
    ·rw[AS (f3 _ (by omega))]
    ·rfl
   ·rw[if_neg c1];by_cases c2:(r-(-60+(f:Int))).toNat<t-f
    ·rw[o3 _ c2,if_pos (by omega)]
     congr 2
     omega
    ·rw[qCl (by omega)];split
     ·rw[AS (t4 _ (by omega) (by omega))];rfl
     ·rfl
def mxS (x y:Span):Span:=⟨imax x.A y.A,imin x.B y.B⟩
theorem qBd (x y:Span):TF x y=some (nrm (mxS x y)):=by
 unfold TF nrm mxS empS;simp only[ge_iff_le];cases decide (imin x.B y.B<=imax x.A y.A)<;>rfl
noncomputable def qFD (a b:qF):qF:=qBP (λj=>mxS (row a ((j:Int)-60)) (row b ((j:Int)-60)))
theorem qGq {g g':Nat->Span} (h:∀j,j<120->nrm (g j)=nrm (g' j)):qBP g=qBP g':=by
 refine qN7 (AX g).1 (AX g').1 (λr=>?_);rw[(AX g).2,(AX g').2];unfold qFd;split
 ·exact h _ (by omega)
 ·rfl
theorem meet_eq {a b:qF} (ha:VS a) (hb:VS b):LU a b=some (qFD a b):=by
 have m1:∀r:Int,-60<=r->r<60->OI r a b=some (nrm (mxS (row a r) (row b r))):=λr h1 h2=>by
  unfold OI;rw[(qQP ha h1 h2).1,(qQP hb h1 h2).1];simp only[kg,qBd]
 unfold LU qFD;rw[qGq (g':=λj=>nrm (mxS (row a ((j:Int)-60)) (row b ((j:Int)-60)))) (λj _=>(nrm_nrm _).symm)];refine qPr (λj=>nrm (mxS (row a ((j:Int)-60)) (row b ((j:Int)-60)))) (wU a b) (λn x u w l hx=>?_) (λn u w l=>?_)
 ·rw[wU,ka (show(x:Int)-60<60 by omega),m1 _ (by omega) (by omega)];simp only[kp,kg,KZ,VI,XK]
 ·rw[wU];rfl
theorem qVI {a b:qF} (ha:VS a) (hb:VS b):((RL a b FUEL [] (-60)).bind λo=>(RM (-60) o).bind λv=>some (qF.mk v.Low v.Rows))=some (qFD a b):=by
 have k:=jJ (List.range 120) (λn (l:List Span) x=>RL a b n l x) (λx=>(x:Int)-60) (λx (_:Nat) l=>l++[mxS (row a ((x:Int)-60)) (row b ((x:Int)-60))]) (λl=>l) (λx l=>l.length=x) (by simp)
  (λn x l hx hi=>by
   have hx':x<120:=by simpa using hx
   refine⟨?_,by simp[hi]⟩;rw[RL,ka (show(x:Int)-60<60 by omega),(qQP ha (by omega) (by omega)).2,(qQP hb (by omega) (by omega)).2];simp only[kp,kg];rw[QG (by omega),qD (by omega),show(x:Int)-60+1=((x+1:Nat):Int)-60 by omega];rfl)
  (λn l _=>by
   have e:(((List.range 120).length:Nat):Int)-60=60:=by rw[uc];rfl
   simp only[e];rw[RL];rfl) (i:= -60) rfl [] rfl
 rw[qI1 (λx (_:Nat)=>mxS (row a ((x:Int)-60)) (row b ((x:Int)-60))),uj] at k;rw[k.1];simp only[kg];rw[qNq _ (by rw[qLi];simp)];simp only[kg];have e:qBP (λj=>(mapi (λx (_:Nat)=>mxS (row a ((x:Int)-60)) (row b ((x:Int)-60))) 0 (List.range 120)).getD j daa)=qFD a b:=by
  unfold qFD;refine qGq (λj hj=>?_);rw[qK0 _ _ _ _ (by rw[uc];exact hj),kz]
 rw[qF.eta,e]
theorem Meet_eq (a b:qF):EF a b=some (qFD (QO a) (QO b))/\FV a b=some (qFD (QO a) (QO b)):=by
 unfold EF FV;rw[(OD a).1,(OD a).2,(OD b).1,(OD b).2];simp only[kg];rw[meet_eq (LA a) (LA b)];exact⟨rfl,qVI (LA a) (LA b)⟩
def lenS (x:Span):Int:=bif empS x then 0 else x.B-x.A
theorem qRJ (n:Int):IntKind.u64.wrap n=n % 18446744073709551616:=by
 unfold IntKind.wrap;simp only[IntKind.bits,IntKind.signed,Bool.false_and];simp
theorem qGz {x:Span} (h:x.B-x.A<=9223372036854775807):LH x=some (lenS x):=by
 unfold LH qJ0 qFe lenS empS;by_cases he:x.B<=x.A
 ·rw[ka (show x.A≥x.B from he)];rfl
 ·rw[ke (show¬x.A≥x.B from he),qRJ,qRJ,qRJ];simp only[kr,kg];rw[show(x.B % 18446744073709551616-x.A % 18446744073709551616) % 18446744073709551616=x.B-x.A by omega];have:imin (x.B-x.A) 9223372036854775807=x.B-x.A:=by have:=imin_or (x.B-x.A) 9223372036854775807;omega
  rw[this,qD (by omega)]
theorem qUc (x:Span):lenS (nrm x)=lenS x:=by
 unfold lenS;rw[qA6];cases h:empS x with
 |true=>rfl
 |false=>rw[qJK h]
theorem len_nn (x:Span):0<=lenS x:=by unfold lenS empS;by_cases h:x.B<=x.A<;>simp[h];omega
def ml (x y:Span):Int:=lenS (mxS x y)
theorem ml_b {x:Span} (y:Span) (h:rngS x=true):0<=ml x y/\ml x y<=1200/\ml x y<=lenS x:=by
 rw[SM] at h;have a1:=wZ x.A y.A;have a2:=imin_or x.B y.B;unfold ml lenS empS mxS;simp only;by_cases c:imin x.B y.B<=imax x.A y.A
 ·rw[ka c];by_cases c2:x.B<=x.A
  ·rw[ka c2];simp
  ·rw[ke c2];simp;omega
 ·rw[ke c,ke (show¬x.B<=x.A by omega)];simp only[kr];omega
theorem mx_b {x y:Span} (h:rngS x=true):(nrm (mxS x y)).B-(nrm (mxS x y)).A<=1200:=by
 cases he:empS (mxS x y) with
 |true=>rw[AS he];decide
 |false=>
  rw[qJK he];rw[SM] at h;have a1:=wZ x.A y.A;have a2:=imin_or x.B y.B;unfold mxS;simp only;omega
theorem ml_eq {x:Span} (y:Span) (h:rngS x=true):LH (nrm (mxS x y))=some (ml x y):=by
 have:=mx_b (y:=y) h;rw[qGz (by omega),qUc];rfl
theorem qPn {x:Span} (y:Span) (h:rngS x=true):AK x y=some (ml x y):=by
 have b:=mx_b (y:=y) h;have a1:=wZ x.A y.A;have a2:=imin_or x.B y.B;unfold AK HV ZX;simp only[kg];unfold ml lenS empS mxS;simp only;by_cases c:imin x.B y.B<=imax x.A y.A
 ·rw[ka c];cases decide (y.A≥y.B)<;>simp[c]
 ·rw[ke c,ke (show¬y.A≥y.B by omega)];rw[SM] at h;simp only[kr];rw[qD (by omega)]
def hgt (r:Int):Span:=⟨10*r,10*(r+1)⟩
theorem qJ4 {r:Int} (h1: -60<=r) (h2:r<60):rngS (hgt r)=true:=by rw[SM];unfold hgt;simp only;omega
theorem hgt_len (r:Int):lenS (hgt r)=10:=by unfold lenS empS hgt;simp only;rw[ke (by omega)];simp only[kr];omega
def sumN :Nat->(Nat->Int)->Int
 |0,_=>0
 |n+1,f=>sumN n f+f n
theorem ZC {n:Nat} {f g:Nat->Int} (h:∀i,i<n->f i=g i):sumN n f=sumN n g:=by
 induction n with
 |zero=>rfl
 |succ n ih=>rw[sumN,sumN,ih (λi hi=>h i (by omega)),h n (by omega)]
theorem GU {n:Nat} {f:Nat->Int} (h:∀i,i<n->f i=0):sumN n f=0:=by
 induction n with
 |zero=>rfl
 |succ n ih=>rw[sumN,ih (λi hi=>h i (by omega)),h n (by omega)];rfl
theorem qBO (m n:Nat) (f:Nat->Int):sumN (m+n) f=sumN m f+sumN n (λi=>f (m+i)):=by
 induction n with
 |zero=>simp[sumN]
 |succ n ih=>rw[<-uX,sumN,ih,sumN];omega
theorem qCs (n:Nat) (f g:Nat->Int):sumN n (λi=>f i+g i)=sumN n f+sumN n g:=by
 induction n with
 |zero=>rfl
 |succ n ih=>rw[sumN,sumN,sumN,ih];omega
theorem qIj (n:Nat) (c:Int) (f:Nat->Int):sumN n (λi=>c*f i)=c*sumN n f:=by
 induction n with
 |zero=>simp[sumN]
 |succ n ih=>rw[sumN,sumN,ih,uS]
theorem qKl {n:Nat} {f g:Nat->Int} (h:∀i,i<n->f i<=g i):sumN n f<=sumN n g:=by
 induction n with
 |zero=>exact kM _
 |succ n ih=>rw[sumN,sumN];have:=ih (λi hi=>h i (by omega));have:=h n (by omega);omega
theorem qHB (n:Nat) (f:Nat->Int):sumN (n+1) f=f 0+sumN n (λi=>f (i+1)):=by
 have e:=qBO 1 n f;rw[dn 1 n] at e;rw[e];have:sumN n (λi=>f (1+i))=sumN n (λi=>f (i+1)):=ZC (λi _=>by rw[dn]);rw[this];simp[sumN]
theorem DV {α:Type} [Inhabited α] (F:Nat->α->Int):∀(l:List α) (x:Nat) (s:Int),foldi (λx a s=>s+F x a) x l s=s+sumN l.length (λi=>F (x+i) (l.getD i daa))
 |[],x,s=>by simp[foldi,sumN]
 |a::l,x,s=>by
  unfold foldi;rw[DV F l (x+1) (s+F x a),ue,qHB];have:sumN l.length (λi=>F (x+1+i) (l.getD i daa))=sumN l.length (λi=>F (x+(i+1)) ((a::l).getD (i+1) daa)):=ZC (λi _=>by rw[show x+1+i=x+(i+1) by omega];simp);rw[this];simp;omega
def sumR (f:Int->Int):Int:=sumN 120 (λj=>f ((j:Int)-60))
theorem qEr {f g:Int->Int} (h:∀r,-60<=r->r<60->f r=g r):sumR f=sumR g:=ZC (λi hi=>h _ (by omega) (by omega))
theorem qHS {s:qF} (h:VS s) (F:Int->Span->Int) (h0:∀r,F r ⟨0,0⟩=0):sumN s.Rows.length (λi=>F (s.Low+i) (s.Rows.getD i daa))=sumR (λr=>F r (row s r)):=by
 have b1:=h.low;have b2:=h.high;have b3:=h.len;unfold sumR;have e:120=(s.Low+60).toNat+(s.Rows.length+(120-(s.Low+60).toNat-s.Rows.length)):=by omega
 rw[e,qBO,qBO];have z1:sumN (s.Low+60).toNat (λj=>F ((j:Int)-60) (row s ((j:Int)-60)))=0:=GU (λi hi=>by
  have:row s ((i:Int)-60)=⟨0,0⟩:=by unfold row;rw[if_pos (by omega)]
  rw[this,h0])
 have z2:sumN (120-(s.Low+60).toNat-s.Rows.length) (λi=>F ((((s.Low+60).toNat+(s.Rows.length+i):Nat):Int)-60) (row s ((((s.Low+60).toNat+(s.Rows.length+i):Nat):Int)-60)))=0:=GU (λi hi=>by
  have:row s ((((s.Low+60).toNat+(s.Rows.length+i):Nat):Int)-60)=⟨0,0⟩:=by
   unfold row;rw[if_neg (by omega),qCl (by omega)];rfl
  rw[this,h0])
 have z3:sumN s.Rows.length (λi=>F ((((s.Low+60).toNat+i:Nat):Int)-60) (row s ((((s.Low+60).toNat+i:Nat):Int)-60)))=sumN s.Rows.length (λi=>F (s.Low+i) (s.Rows.getD i daa)):=ZC (λi hi=>by
  have:(((s.Low+60).toNat+i:Nat):Int)-60=s.Low+i:=by omega
  rw[this,qDn])
 rw[z1,z3];rw[z2];omega
def VF (s:qF):Int:=10*sumR (λr=>lenS (row s r))
def zJ (s:qF) (x y:Span):Int:=sumR (λr=>ml (row s r) x*ml (hgt r) y)
theorem VS.len_b {s:qF} (h:VS s) {i:Nat} (hi:i<s.Rows.length):0<=lenS (s.Rows.getD i daa)/\lenS (s.Rows.getD i daa)<=1200/\(s.Rows.getD i daa).B-(s.Rows.getD i daa).A=lenS (s.Rows.getD i daa):=by
 have m:=zK hi;have r:=SM.1 (h.rng _ m);have z:=h.zero _ m;have e:lenS (s.Rows.getD i daa)=bif empS (s.Rows.getD i daa) then 0 else(s.Rows.getD i daa).B-(s.Rows.getD i daa).A:=rfl;cases he:empS (s.Rows.getD i daa) with
 |true=>rw[z he];decide
 |false=>
  rw[he] at e;simp only[kr] at e;have hlt:¬(s.Rows.getD i daa).B<=(s.Rows.getD i daa).A:=of_decide_eq_false he;omega
def bndS (a:Span) (x:Span):Span:=bif empS a then x else⟨imin x.A a.A,imax x.B a.B⟩
def qG4 (s:qF):Rect:=if s.Rows=[] then⟨⟨0,0⟩,⟨0,0⟩⟩ else⟨s.Rows.foldl (λx a=>bndS a x) (s.Rows.getD 0 daa),⟨10*s.Low,10*(s.Low+s.Rows.length)⟩⟩
theorem qJi (s:qF):IW s=some (qG4 (QO s))/\EB s=some (qG4 (QO s)):=by
 have h:=LA s;unfold IW EB;rw[(OD s).1,(OD s).2];simp only[kg];generalize QO s=t at*;have b:=h.len;have b1:=h.low;have b2:=h.high;unfold qG4;by_cases h0:t.Rows=[]
 ·rw[if_pos h0,h0];exact⟨rfl,rfl⟩
 have e0:((t.Rows.length:Int)==0)=false:=by
  have:0<t.Rows.length:=uq.2 h0;rw[kC];omega
 have hb:0<t.Rows.length:=uq.2 h0;have k1:=jJ t.Rows (λn (a:Span) x=>ZG t n x a) (λx=>(x:Int)) (λ_ a s=>bndS a s) (λs=>s) (λ_ _=>True) (by omega)
  (λn x a hx hi=>by
   refine⟨?_,trivial⟩;rw[ZG,ka (show(x:Int)<_ by omega),qJ (by omega)];simp only[kp,ko,KZ,kg,BP,qM (show x<4611686018427387904 by omega),bndS];cases empS (t.Rows.getD x daa)<;>rfl)
  (λn a _=>by rw[ZG];simp) (i:=0) rfl (t.Rows.getD 0 daa) trivial
 have k2:=jJ t.Rows (λn (a:Span) x=>YI t n x a) (λx=>(x:Int)) (λ_ a s=>bndS a s) (λs=>s) (λ_ _=>True) (by omega)
  (λn x a hx hi=>by
   refine⟨?_,trivial⟩;rw[YI,ka (show(x:Int)<_ by omega),qJ (by omega)];simp only[kp,ko,TY,kg,HN,qM (show x<4611686018427387904 by omega),bndS];cases empS (t.Rows.getD x daa)<;>rfl)
  (λn a _=>by rw[YI];simp) (i:=0) rfl (t.Rows.getD 0 daa) trivial
 rw[qGx] at k1 k2;rw[if_neg h0,e0,qJ (by omega)];simp only[kr,kp,gK,k1.1,k2.1,kg,ZS];rw[qD (n:=t.Low+_) (by omega),qD (by omega),qD (by omega)];exact⟨rfl,rfl⟩
theorem qDi (x y:Span):ml x y=if imin x.B y.B<=imax x.A y.A then 0 else imin x.B y.B-imax x.A y.A:=by
 unfold ml lenS empS mxS;simp only;by_cases c:imin x.B y.B<=imax x.A y.A
 ·rw[ka c,if_pos c];rfl
 ·rw[ke c,if_neg c];rfl
theorem qEl (x y:Span):0<=ml x y:=len_nn _
theorem qN9 (x:Span):lenS x=if x.B<=x.A then 0 else x.B-x.A:=by
 unfold lenS empS;by_cases c:x.B<=x.A
 ·rw[ka c,if_pos c];rfl
 ·rw[ke c,if_neg c];rfl
theorem qMl (x:Span) {A m B:Int} (h1:A<=m) (h2:m<=B):ml x ⟨A,m⟩+ml x ⟨m,B⟩=ml x ⟨A,B⟩:=by
 have a1:=imin_or x.B m;have a2:=imin_or x.B B;have a3:=wZ x.A A;have a4:=wZ x.A m;simp only[qDi];split<;>split<;>split<;>omega
theorem qMn (x y:Span):ml x y<=lenS x:=by
 have a2:=imin_or x.B y.B;have a3:=wZ x.A y.A;rw[qDi,qN9];split<;>split<;>omega
theorem qWF {x:Span} (y:Span) (h:empS x=true):ml x y=0:=by
 have:=qMn x y;have:=qEl x y;have e:lenS x=0:=by unfold lenS;rw[h];rfl
 omega
theorem qMr (n:Nat) (c:Int):sumN n (λ_=>c)=n*c:=by
 induction n with
 |zero=>simp[sumN]
 |succ n ih=>rw[sumN,ih,Int.natCast_add,gy];simp
theorem qSU (s:qF):VF s=sumR (λr=>10*lenS (row s r)):=(qIj 120 10 _).symm
theorem qOl {f g:Int->Int} (h:∀r,-60<=r->r<60->f r<=g r):sumR f<=sumR g:=qKl (λi hi=>h _ (by omega) (by omega))
theorem qLC (f g:Int->Int):sumR (λr=>f r+g r)=sumR f+sumR g:=qCs 120 _ _
theorem qWk :sumR (λ_=>0)=0:=GU (λ_ _=>rfl)
theorem qFx (s:qF) (x y:Span):0<=zJ s x y:=by
 have:=qOl (f:=λ_=>0) (g:=λr=>ml (row s r) x*ml (hgt r) y) (λr _ _=>ky (qEl _ _) (qEl _ _));rw[qWk] at this;exact this
theorem qJY (s:qF) (x y:Span):zJ s x y<=VF s:=by
 rw[qSU];refine qOl (λr _ _=>?_);have h1:=qMn (row s r) x;have h2:=qMn (hgt r) y;rw[hgt_len] at h2;have a:=gj h2 (qEl (row s r) x);have b:=dC h1 (show(0:Int)<=10 by decide);rw[Int.mul_comm 10];exact uY a b
theorem qNC {s:qF} (h:VS s):0<=VF s/\VF s<=1440000:=by
 constructor
 ·exact uY (qFx s ⟨0,0⟩ ⟨0,0⟩) (qJY s _ _)
 ·rw[qSU];refine uY (qOl (g:=λ_=>12000) (λr _ _=>?_)) (by unfold sumR;rw[qMr];omega);have hr:=SM.1 (h.row_rng r);rw[qN9];split<;>omega
theorem sh_emp (dx:Int) (x:Span):empS (shS dx x)=empS x:=by
 unfold shS;cases h:empS x with
 |true=>exact h
 |false=>
  unfold empS at h⊢;simp only[kr];have:=of_decide_eq_false h;exact ke (by omega)
def inRange (p:qA):Bool:=(decide (-600<=p.X)&&decide (p.X<=600))&&(decide (-600<=p.Y)&&decide (p.Y<=600))
theorem qCD {p:qA}:inRange p=true↔(-600<=p.X/\p.X<=600)/\(-600<=p.Y/\p.Y<=600):=by
 unfold inRange;simp only[kv,decide_eq_true_eq]
theorem qXa (a:Int):OZ a=some (decide (-600<=a)&&decide (a<=600)):=by
 unfold OZ OQ;by_cases h:a≥-600<;>simp[h]
def wrapB (c:Bool):Bool⊕Unit:=bif c then .inr () else .inl false
theorem qMy (a:List qA) (hl:a.length<=1000000):∀(n x:Nat),a.length<x+n->x<=a.length->PP a n (x:Int)=some (wrapB ((a.drop x).all inRange))
 |0,x,h1,h2=>by omega
 |n+1,x,h1,h2=>by
  unfold PP;by_cases hx:x<a.length
  ·have ih:=qMy a hl n (x+1) (by omega) (by omega);rw[lt_t (by omega),qJ (by omega),JE a x hx];simp only[kp,ko,qXa,kg,HP,qM (show x<4611686018427387904 by omega),ih,List.all_cons,inRange];generalize a.getD x daa=p;cases (decide (-600<=p.X)&&decide (p.X<=600))<;>cases (decide (-600<=p.Y)&&decide (p.Y<=600))<;>simp[wrapB]
  ·rw[lt_f (by omega),uL (by omega)];rfl
theorem qH5 (a:List qA) (hl:a.length<=1000000):FG a=some (a.all inRange):=by
 unfold FG;have h:=qMy a hl FUEL 0 (by rw[FUEL_eq];omega) (by omega);rw[show((0:Nat):Int)=0 from rfl,uI] at h;rw[h,kg];cases a.all inRange<;>rfl
theorem qXS (p:qA) (b:Bool):(bif decide (p.X< -600) then some (Sum.inl false) else bif decide (p.X>600) then some (Sum.inl false) else bif decide (p.Y< -600) then some (Sum.inl false) else bif decide (p.Y>600) then some (Sum.inl false) else some (wrapB b))=some (wrapB (decide (-600<=p.X)&&decide (p.X<=600)&&(decide (-600<=p.Y)&&decide (p.Y<=600))&&b)):=by
 by_cases h1:p.X< -600
 ·simp[h1,show¬-600<=p.X by omega,wrapB]
 by_cases h2:p.X>600
 ·simp[h1,h2,show¬p.X<=600 by omega,wrapB]
 by_cases h3:p.Y< -600
 ·simp[h1,h2,h3,show¬-600<=p.Y by omega,wrapB]
 by_cases h4:p.Y>600
 ·simp[h1,h2,h3,h4,show¬p.Y<=600 by omega,wrapB]
 simp[h1,h2,h3,h4,show-600<=p.X by omega,show p.X<=600 by omega,show-600<=p.Y by omega,show p.Y<=600 by omega]
theorem qGZ (a:List qA) (hl:a.length<=1000000):∀(n x:Nat),a.length<x+n->x<=a.length->jD a n (x:Int)=some (wrapB ((a.drop x).all inRange))
 |0,x,h1,h2=>by omega
 |n+1,x,h1,h2=>by
  unfold jD;by_cases hx:x<a.length
  ·have ih:=qGZ a hl n (x+1) (by omega) (by omega);rw[lt_t (by omega),qJ (by omega),JE a x hx];simp only[kp,ko,YP,qM (show x<4611686018427387904 by omega),ih,List.all_cons,inRange];exact qXS _ _
  ·rw[lt_f (by omega),uL (by omega)];rfl
theorem qJN (a:List qA) (hl:a.length<=1000000):JY a=some (a.all inRange):=by
 unfold JY;have h:=qGZ a hl FUEL 0 (by rw[FUEL_eq];omega) (by omega);rw[show((0:Nat):Int)=0 from rfl,uI] at h;rw[h,kg];cases a.all inRange<;>rfl
def term (p q:qA):Int:=p.X*q.Y-q.X*p.Y
def qEy (a:List qA):Nat->Nat->Int->Int
 |_,0,acc=>acc
 |x,m+1,acc=>qEy a (x+1) m (acc+term (a.getD x daa) (a.getD ((x+1) % a.length) daa))
def area (a:List qA):Int:=qEy a 0 a.length 0
theorem qDk {a:List qA} (h:a.all inRange=true) {x:Nat} (hx:x<a.length):(-600<=(a.getD x daa).X/\(a.getD x daa).X<=600)/\(-600<=(a.getD x daa).Y/\(a.getD x daa).Y<=600):=
 qCD.1 (kB.1 h _ (zK hx))
theorem qNb {a b:Int} (h1: -600<=a/\a<=600) (h2: -600<=b/\b<=600): -360000<=a*b/\a*b<=360000:=
 wS (m:=600) (n:=600) h1.1 h1.2 h2.1 h2.2 (by decide) (by decide)
theorem term_b {p q:qA} (hp:(-600<=p.X/\p.X<=600)/\(-600<=p.Y/\p.Y<=600)) (hq:(-600<=q.X/\q.X<=600)/\(-600<=q.Y/\q.Y<=600)): -720000<=term p q/\term p q<=720000:=by
 have h1:=qNb hp.1 hq.2;have h2:=qNb hq.1 hp.2;unfold term;omega
theorem qPB (a:List qA) (hr:a.all inRange=true) (hl:a.length<=1000000):∀(m n x:Nat) (acc:Int),x+m=a.length->m<n->-(720000*(x:Int))<=acc->acc<=720000*(x:Int)->GG a n acc (x:Int)=some (qEy a x m acc)/\TT a n acc (x:Int)=some (qEy a x m acc)
 |_,0,x,_,_,hn,_,_=>by omega
 |0,n+1,x,acc,hx,_,_,_=>by
  unfold GG TT qEy;rw[lt_f (by omega)];exact⟨rfl,rfl⟩
 |m+1,n+1,x,acc,hx,hn,hb1,hb2=>by
  have hlen:0<a.length:=by omega
  have hy:(x+1) % a.length<a.length:=kT _ hlen;have hp:=qDk hr (show x<a.length by omega);have hq:=qDk hr hy;have ht:=term_b hp hq;obtain⟨ih1,ih2⟩:=qPB a hr hl m n (x+1) (acc+term (a.getD x daa) (a.getD ((x+1) % a.length) daa)) (by omega) (by omega) (by omega) (by omega);have p1:=qNb hp.1 hq.2;have p2:=qNb hq.1 hp.2;unfold GG TT qEy;rw[qRV hlen (by omega),lt_t (by omega),qJ (i:=(x:Int)) (by omega),nz_t (by omega),qJ (by omega)];simp only[kp,ko,qM (show x<4611686018427387904 by omega)]
  change-720000<=(a.getD x daa).X*(a.getD ((x+1) % a.length) daa).Y-(a.getD ((x+1) % a.length) daa).X*(a.getD x daa).Y/\_ at ht;constructor
  ·rw[qD (n:=(a.getD x daa).X*_) (by omega),qD (n:=(a.getD ((x+1) % a.length) daa).X*_) (by omega),qD (n:=_-_) (by omega),qD (by omega)];exact ih1
  ·rw[qD (n:=(a.getD x daa).X*_) (by omega),qD (n:=(a.getD ((x+1) % a.length) daa).X*_) (by omega),qD (n:=acc+_) (by omega),qD (n:=_-_) (by omega),show acc+(a.getD x daa).X*(a.getD ((x+1) % a.length) daa).Y-(a.getD ((x+1) % a.length) daa).X*(a.getD x daa).Y=acc+term (a.getD x daa) (a.getD ((x+1) % a.length) daa) by unfold term;omega];exact ih2
def qQG (a:List qA):Int:=bif decide ((a.length:Int)>32) then 0 else bif a.all inRange then area a else 0
theorem qUO (a:List qA):qEq a=some (qQG a)/\qC3 a=some (qQG a):=by
 unfold qEq qC3 qQG qAM IV;by_cases h:(a.length:Int)>32
 ·simp[h]
 ·rw[ke h,qH5 a (by omega),qJN a (by omega)];simp only[kr,kg];cases hr:a.all inRange with
  |false=>exact⟨rfl,rfl⟩
  |true=>
   obtain⟨h1,h2⟩:=qPB a hr (by omega) a.length FUEL 0 0 (by omega) (by rw[FUEL_eq];omega) (by omega) (by omega);simp only[show((0:Nat):Int)=0 from rfl] at h1 h2;simp only[kG,kr,kp,h1,h2,kg];exact⟨rfl,rfl⟩
def chk (a:List qA):Int:=bif decide ((a.length:Int)<3) then 3 else bif decide ((a.length:Int)>32) then 4 else bif !(a.all inRange) then 9 else bif area a==0 then 19 else 0
theorem qWh (a:List qA):qEn a=some (chk a)/\qCB a=some (chk a):=by
 unfold qEn qCB chk;by_cases h:(a.length:Int)<3
 ·simp[h]
 by_cases h2:(a.length:Int)>32
 ·simp[h,h2]
 rw[ke h,ke h2,qH5 a (by omega),qJN a (by omega),(qUO a).1,(qUO a).2];simp only[kr,kg,qQG,ke h2];cases a.all inRange with
 |false=>exact⟨rfl,rfl⟩
 |true=>
  simp only[kG,kr,kp];cases area a==0<;>exact⟨rfl,rfl⟩
def VJ (r:Rect) (p:qA):Rect:=Rect.mk (Span.mk (imin r.X.A p.X) (imax r.X.B p.X)) (Span.mk (imin r.Y.A p.Y) (imax r.Y.B p.Y))
def bounds (a:List qA):Rect:=match a with
 |[]=>Rect.mk (Span.mk 0 0) (Span.mk 0 0)
 |p::l=>l.foldl VJ (Rect.mk (Span.mk p.X p.X) (Span.mk p.Y p.Y))
theorem qGC (a:List qA) (hl:a.length<=1000000):∀(n x:Nat) (r:Rect),a.length<x+n->x<=a.length->NE a n (x:Int) r=some ((a.drop x).foldl VJ r)/\SF a n (x:Int) r=some ((a.drop x).foldl VJ r)
 |0,x,r,h1,h2=>by omega
 |n+1,x,r,h1,h2=>by
  unfold NE SF;by_cases hx:x<a.length
  ·have ih:=qGC a hl n (x+1) (VJ r (a.getD x daa)) (by omega) (by omega);rw[lt_t (by omega),qJ (by omega),JE a x hx];simp only[kp,ko,qM (show x<4611686018427387904 by omega),uR];exact ih
  ·rw[lt_f (by omega),uL (by omega)];exact⟨rfl,rfl⟩
theorem qTz (x:Int):imin x x=x:=by unfold imin;simp
theorem qTC (x:Int):imax x x=x:=by unfold imax;simp
theorem qWc (a:List qA) (hl:a.length<=1000000):qDa a=some (bounds a)/\qJB a=some (bounds a):=by
 unfold qDa qJB;cases a with
 |nil=>exact⟨rfl,rfl⟩
 |cons p l=>
  have h0:((((p::l).length:Nat):Int)==0)=false:=by simp;omega
  have h1:=(qGC (p::l) hl FUEL 0 (Rect.mk (Span.mk p.X p.X) (Span.mk p.Y p.Y)) (by rw[FUEL_eq];omega) (by omega)).1;have h2:=(qGC (p::l) hl FUEL 1 (Rect.mk (Span.mk p.X p.X) (Span.mk p.Y p.Y)) (by rw[FUEL_eq];omega) (by simp)).2;rw[uI] at h1;rw[h0,ZT (by omega) (by simp)];simp only[kr,kp,gK,un];rw[show((0:Nat):Int)=0 from rfl] at h1;rw[show((1:Nat):Int)=1 from rfl] at h2;rw[h1,h2];refine⟨?_,rfl⟩;show some (l.foldl VJ (VJ _ p))=_;unfold VJ;simp only[qTz,qTC];rfl
def cross (p q c:qA):Int:=(q.X-p.X)*(c.Y-p.Y)-(c.X-p.X)*(q.Y-p.Y)
abbrev rng (p:qA):Prop:=(-600<=p.X/\p.X<=600)/\(-600<=p.Y/\p.Y<=600)
theorem qR0 {p q c:qA} (hp:rng p) (hq:rng q) (hc:rng c):qDZ p q c=some (cross p q c)/\qCN p q c=some (cross p q c):=by
 obtain⟨⟨p1,p2⟩,p3,p4⟩:=hp;obtain⟨⟨q1,q2⟩,q3,q4⟩:=hq;obtain⟨⟨c1,c2⟩,c3,c4⟩:=hc;have m1:=wS (a:=q.X-p.X) (b:=c.Y-p.Y) (m:=1200) (n:=1200) (by omega) (by omega) (by omega) (by omega) (by decide) (by decide);have m2:=wS (a:=c.X-p.X) (b:=q.Y-p.Y) (m:=1200) (n:=1200) (by omega) (by omega) (by omega) (by omega) (by decide) (by decide);unfold qDZ qCN cross;rw[qD (n:=q.X-p.X) (by omega),qD (n:=c.Y-p.Y) (by omega),qD (n:=c.X-p.X) (by omega),qD (n:=q.Y-p.Y) (by omega),Int.mul_comm (q.Y-p.Y) (c.X-p.X),
  qD (n:=(q.X-p.X)*(c.Y-p.Y)) (by omega),qD (n:=(c.X-p.X)*(q.Y-p.Y)) (by omega),qD (by omega)]
 exact⟨rfl,rfl⟩
end Saw
end Go.SL
