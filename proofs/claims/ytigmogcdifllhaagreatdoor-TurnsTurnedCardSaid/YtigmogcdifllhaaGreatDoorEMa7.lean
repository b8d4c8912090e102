/- Poly's plain mathematics, part 10: the hull as a closed walk that has every point on its left. -/
import Derived.Test.YtigmogcdifllhaaGreatDoorEMa6
set_option linter.unusedVariables false
set_option linter.unusedSimpArgs false
namespace Go.SL
namespace Saw
theorem qUo {l:List qA} {m:qA} (h:l.getLast? =some m):∃r,l.reverse=m::r:=by
 rw[List.getLast?_eq_head?_reverse] at h;cases hr:l.reverse with
 |nil=>rw[hr] at h;cases h
 |cons a r=>rw[hr] at h;cases h;exact⟨r,rfl⟩
theorem qRG {l:List qA} (h:l≠[]):∃m,l.getLast? =some m:=by
 cases hl:l.getLast? with
 |none=>exact absurd (List.getLast?_eq_none_iff.1 hl) h
 |some m=>exact⟨m,rfl⟩
theorem qR6 {s:List qA} (hs:QA s) (h5:¬(chainR s).length+(chainR s.reverse).length<5):∃(m M:qA) (lo up:List qA),chainR s=M::lo/\chainR s.reverse=m::up/\m∈s/\M∈s/\(∀p∈s,p=m\/pLt m p)/\(∀p∈s,p=M\/pLt p M)/\pLt m M/\(∃r,lo.reverse=m::r)/\(∃r,up.reverse=M::r)/\hullOf s=lo.reverse++up.reverse:=by
 have hne:s≠[]:=λe=>by rw[e] at h5;simp[chainR] at h5
 have hi:=qCJ hs;have hu:=qPk hs;have l1:chainR s≠[]:=um.1 (BD hne);have l2:chainR s.reverse≠[]:=um.1 (BD (a:=s.reverse) (by simpa using hne));obtain⟨M,lo,e1⟩:=uU l1;obtain⟨m,up,e2⟩:=uU l2;obtain⟨m',f1⟩:=qRG l1;obtain⟨M',f2⟩:=qRG l2;have hM:M∈s:=hi.sub M (by rw[e1];exact kO);have hm:m∈s:=hu.sub m (by rw[e2];exact kO);have hM':M'∈s:=hu.sub M' (List.mem_of_getLast? f2);have hm':m'∈s:=hi.sub m' (List.mem_of_getLast? f1);have tM:=hi.top M lo e1;have tm:=hu.top m up e2;have bm:=hi.bot m' f1;have bM:=hu.bot M' f2;have em:m'=m:=by
  rcases bm m hm with h|h
  ·exact h.symm
  ·rcases tm m' hm' with h'|h'
   ·exact h'
   ·exact absurd h (pLt_asymm h')
 have eM:M'=M:=by
  rcases bM M hM with h|h
  ·exact h.symm
  ·rcases tM M' hM' with h'|h'
   ·exact h'
   ·exact absurd h (pLt_asymm h')
 subst em eM;have hlt:pLt m' M':=by
  rcases tm M' hM with h|h
  ·exfalso;have all:∀p∈s,p=m':=λp hp=>by
    rcases tm p hp with h1|h1
    ·exact h1
    ·rcases tM p hp with h2|h2
     ·rw[h2,h]
     ·rw[h] at h2;exact absurd h1 (pLt_asymm h2)
   have one:s.length<=1:=by
    match s,hs,all with
    |[],_,_=>simp
    |[_],_,_=>simp
    |a::b::r,hs,all=>
     have:=(kP.1 hs).1 b kO;rw[all a (by simp),all b (by simp)] at this;exact absurd this (pLt_irrefl _)
   have c1:=WT s;have c2:=WT s.reverse;rw[un] at c2;omega
  ·exact h
 have g1:∃r,lo.reverse=m'::r:=by
  refine qUo ?_;rw[e1] at f1;cases lo with
  |nil=>simp at f1;rw[f1] at hlt;exact absurd hlt (pLt_irrefl _)
  |cons a r=>rw[gf] at f1;exact f1
 have g2:∃r,up.reverse=M'::r:=by
  refine qUo ?_;rw[e2] at f2;cases up with
  |nil=>simp at f2;rw[f2] at hlt;exact absurd hlt (pLt_irrefl _)
  |cons a r=>rw[gf] at f2;exact f2
 refine⟨m',M',lo,up,e1,e2,hm,hM,tm,tM,hlt,g1,g2,?_⟩;unfold hullOf;rw[if_neg h5,e1,e2];rfl
theorem qFH {s:List qA} (hs:QA s) (h5:¬(chainR s).length+(chainR s.reverse).length<5):3<=(hullOf s).length/\(∀p∈hullOf s,p∈s)/\∀x,x<(hullOf s).length->∀p∈s,0<=cross ((hullOf s).getD x dd) ((hullOf s).getD ((x+1) % (hullOf s).length) dd) p:=by
 obtain⟨m,M,lo,up,e1,e2,hm,hM,tm,tM,hlt,⟨r1,g1⟩,⟨r2,g2⟩,hH⟩:=qR6 hs h5;have hi:=qCJ hs;have hu:=qPk hs;have L1:=qIT hi.left;have L2:=qIT hu.left;rw[e1,kM] at L1;rw[e2,kM,g2,uF] at L2;have LW:qFO s (lo.reverse++up.reverse++[m]):=by
  rw[kH,g2,uF];exact qIn L1 L2
 have hlen:(hullOf s).length=lo.length+up.length:=by rw[hH];simp
 have h3:3<=(hullOf s).length:=by
  have a1:(chainR s).length=lo.length+1:=by rw[e1];rfl
  have a2:(chainR s.reverse).length=up.length+1:=by rw[e2];rfl
  omega
 refine⟨h3,λp hp=>?_,λx hx p hp=>?_⟩
 ·rw[hH,ub,List.mem_reverse,List.mem_reverse] at hp;rcases hp with hp|hp
  ·exact hi.sub p (by rw[e1];exact kF _ hp)
  ·exact hu.sub p (by rw[e2];exact kF _ hp)
 ·have hw:=qR4 LW x (by rw[<-hH];simp;omega) p hp;rw[<-hH] at hw;have w1:(hullOf s++[m]).getD x dd=(hullOf s).getD x dd:=by
   rw[ka,kD hx,<-ka]
  have w2:(hullOf s++[m]).getD (x+1) dd=(hullOf s).getD ((x+1) % (hullOf s).length) dd:=by
   by_cases hx1:x+1<(hullOf s).length
   ·rw[uw hx1,ka,kD hx1,<-ka]
   ·have:x+1=(hullOf s).length:=by omega
    rw[this,Nat.mod_self,ka,kA (ke _),gW,hH,g1];rfl
  rw[w1,w2] at hw;exact hw
def qAu :List qA->Prop
 |u::v::w::r=>0<cross u v w/\qAu (v::w::r)
 |_=>True
theorem qCA {x y:qA}:∀{a b:List qA},qAu (a++[x,y])->qAu (x::y::b)->qAu (a++x::y::b)
 |[],_,_,h=>h
 |[_],_,h1,h2=>⟨h1.1,h2⟩
 |[_,_],_,h1,h2=>⟨h1.1,h1.2.1,h2⟩
 |_::v::w::a,b,h1,h2=>⟨h1.1,qCA (a:=v::w::a) h1.2 h2⟩
theorem qFR :∀{st:List qA},qCd st->qAu st.reverse
 |[],_=>trivial
 |[_],_=>trivial
 |[_,_],_=>trivial
 |c::t::s::r,⟨h1,h2⟩=>by
  have ih:=qFR h2;rw[kM,kM,kH] at ih;rw[kM,kM,kM,kH,kH];exact qCA ih ⟨h1,trivial⟩
theorem qQu :∀{w:List qA},qAu w->∀x,x+2<w.length->0<cross (w.getD x dd) (w.getD (x+1) dd) (w.getD (x+2) dd)
 |[],_,x,h=>by simp at h
 |[_],_,x,h=>by simp at h
 |[_,_],_,x,h=>by simp only[uG,gT] at h;omega
 |u::v::w::r,hl,0,_=>hl.1
 |u::v::w::r,hl,x+1,h=>by
  have:=qQu hl.2 x (by simpa using h);simpa using this
theorem qTZ {s:List qA} (hs:QA s) (h5:¬(chainR s).length+(chainR s.reverse).length<5) {x y M:qA} {lo up:List qA} (e1:chainR s=M::x::lo) (e2:(chainR s.reverse).reverse=M::y::up):0<cross x M y:=by
 have hi:=qCJ hs;have hu:=qPk hs;have hl:=hi.left;rw[e1] at hl;have hd:=hi.desc;rw[e1] at hd;have hxM:pLt x M:=(kP.1 hd).1 x kO;have L2:=qIT hu.left;rw[e2] at L2;have hys:y∈s:=hu.sub y (by rw[<-List.mem_reverse,e2];simp);have htop:=hi.top M _ e1;have hyM:pLt y M:=by
  have ha:=hu.asc;have hr:(chainR s.reverse).reverse.Pairwise (λa b=>pLt b a):=gN.2 ha;rw[e2] at hr;exact(kP.1 hr).1 y kO
 rcases da (hl.1 y hys) with h|h
 ·exact h
 exfalso
 -- all points lie on one line
 have key:∀p∈s,pLt p M->(M.X-x.X)*(M.Y-p.Y)-(M.X-p.X)*(M.Y-x.Y)=0:=by
  intro p hp hpM;have q1:=hl.1 p hp;have q2:=L2.1 p hp;have a1:=CP (JT hxM) (JT hyM) (JT hpM) (by unfold cross at h;grind) (by unfold cross at q2;grind);unfold cross at q1;have e:(M.X-x.X)*(p.Y-x.Y)-(p.X-x.X)*(M.Y-x.Y)= -((M.X-x.X)*(M.Y-p.Y)-(M.X-p.X)*(M.Y-x.Y)):=by clear q1 q2 a1;grind
  omega
 have par:∀p q,p∈s->q∈s->pLt p M->pLt q M->(M.X-p.X)*(M.Y-q.Y)-(M.X-q.X)*(M.Y-p.Y)=0:=by
  intro p q hp hq hpM hqM;have k1:=key p hp hpM;have k2:=key q hq hqM;have b1:=CP (JT hpM) (JT hxM) (JT hqM) (by omega) (by omega);have b2:=CP (JT hqM) (JT hxM) (JT hpM) (by omega) (by omega);omega
 have c1:(chainR s).length<=2:=by
  rw[e1]
  match lo,e1 with
  |[],_=>simp
  |z::lo',e1=>
   have ht:=hi.turns;rw[e1] at ht;have hzs:z∈s:=hi.sub z (by rw[e1];simp);have hxs:x∈s:=hi.sub x (by rw[e1];simp);have hzM:pLt z M:=by
    have hd':=hi.desc;rw[e1] at hd';exact(kP.1 hd').1 z (by simp)
   have:=par z x hzs hxs hzM hxM;have t1:=ht.1;have e:cross z x M=(M.X-z.X)*(M.Y-x.Y)-(M.X-x.X)*(M.Y-z.Y):=by unfold cross;clear t1 this;grind
   omega
 have c2:(chainR s.reverse).length<=2:=by
  rw[<-un,e2]
  match up,e2 with
  |[],_=>simp
  |z::up',e2=>
   have ht:=qFR hu.turns;rw[e2] at ht;have hzs:z∈s:=hu.sub z (by rw[<-List.mem_reverse,e2];simp);have hzM:pLt z M:=by
    have hr:(chainR s.reverse).reverse.Pairwise (λa b=>pLt b a):=gN.2 hu.asc;rw[e2] at hr;exact(kP.1 hr).1 z (by simp)
   have:=par y z hys hzs hyM hzM;have t1:=ht.1;have e:cross M y z=(M.X-y.X)*(M.Y-z.Y)-(M.X-z.X)*(M.Y-y.Y):=by unfold cross;clear t1 this;grind
   omega
 omega
theorem qZE {s:List qA} (hs:QA s) (h5:¬(chainR s).length+(chainR s.reverse).length<5) {x y m:qA} {lo up:List qA} (e1:chainR s.reverse=m::x::up) (e2:(chainR s).reverse=m::y::lo):0<cross x m y:=by
 have hs':QA (s.reverse.map ng):=List.pairwise_map.2 (gN.2 (hs.imp (λh=>qKf.2 h)));have c1:chainR (s.reverse.map ng)=ng m::ng x::up.map ng:=by rw[qGd,e1];rfl
 have c2:chainR (s.reverse.map ng).reverse=(chainR s).map ng:=by rw[<-List.map_reverse,List.reverse_reverse,qGd]
 have c3:(chainR (s.reverse.map ng).reverse).reverse=ng m::ng y::lo.map ng:=by rw[c2,<-List.map_reverse,e2];rfl
 have:=qTZ hs' (by rw[c2,qGd,ga,ga];omega) c1 c3
 rwa [qIQ] at this
theorem qIA {l t:List qA} {x:Nat} (h:x<l.length):(l++t).getD x dd=l.getD x dd:=by rw[ka,kD h,<-ka]
theorem qIW {l t:List qA} (k:Nat):(l++t).getD (l.length+k) dd=t.getD k dd:=by rw[ka,kA (by omega),Nat.add_sub_cancel_left,<-ka]
theorem qX0 {s:List qA} (hs:QA s) (h5:¬(chainR s).length+(chainR s.reverse).length<5):∀x,x<(hullOf s).length->0<cross ((hullOf s).getD x dd) ((hullOf s).getD ((x+1) % (hullOf s).length) dd) ((hullOf s).getD ((x+2) % (hullOf s).length) dd):=by
 have h3:=(qFH hs h5).1;obtain⟨m,M,lo,up,e1,e2,hm,hM,tm,tM,hlt,⟨r1,g1⟩,⟨r2,g2⟩,hH⟩:=qR6 hs h5;have hi:=qCJ hs;have hu:=qPk hs;have lone:lo≠[]:=λe=>by rw[e] at g1;simp at g1
 have upne:up≠[]:=λe=>by rw[e] at g2;simp at g2
 obtain⟨x0,lo',ex⟩:=uU lone;obtain⟨x1,up',ex'⟩:=uU upne;have T1:=qFR hi.turns;have T2:=qFR hu.turns;rw[e1,ex,kM,kM,kH] at T1
 -- the upper walk begins with M, y
 obtain⟨y,r3,ey⟩:∃y r3,(chainR s.reverse).reverse=M::y::r3:=by
  rw[e2,kM,g2,uF];cases r2 with
  |nil=>exact⟨m,[],rfl⟩
  |cons y r=>exact⟨y,r++[m],rfl⟩
 obtain⟨y',r4,ey'⟩:∃y r4,(chainR s).reverse=m::y::r4:=by
  rw[e1,kM,g1,uF];cases r1 with
  |nil=>exact⟨M,[],rfl⟩
  |cons y r=>exact⟨y,r++[M],rfl⟩
 have k1:=qTZ hs h5 (e1.trans (by rw[ex])) ey;have k2:=qZE hs h5 (e2.trans (by rw[ex'])) ey';rw[ey] at T2;have W1:qAu (lo'.reverse++x0::M::y::r3):=qCA T1 ⟨k1,T2⟩;have eW:lo'.reverse++x0::M::y::r3=hullOf s++[m]:=by
  rw[hH,ex,kM,kH,kH]
  congr 1
  show x0::M::y::r3=x0::(up.reverse++[m])
  congr 1
  rw[<-ey,e2,kM]
 have eH:∃q,hullOf s=q++[x1]:=⟨lo.reverse++up'.reverse,by rw[hH,ex',kM,kH]⟩
 obtain⟨q,hq⟩:=eH;rw[eW] at W1;have W2:qAu (hullOf s++[m,y']):=by
  rw[hq,kH] at W1⊢;exact qCA W1 ⟨k2,trivial⟩
 have h0:(hullOf s).getD 0 dd=m:=by rw[hH,g1];rfl
 have h1:(hullOf s).getD 1 dd=y':=by
  have:(hullOf s)=(lo.reverse++[M])++r2:=by rw[hH,g2,kH];rfl
  have hlr:lo.reverse++[M]=m::y'::r4:=by rw[<-ey',e1,kM]
  rw[this,hlr];rfl
 intro x hx;have w:=qQu W2 x (by simp;omega);rw[qIA hx] at w;have a1:(hullOf s++[m,y']).getD (x+1) dd=(hullOf s).getD ((x+1) % (hullOf s).length) dd:=by
  by_cases hx1:x+1<(hullOf s).length
  ·rw[uw hx1,qIA hx1]
  ·have e:x+1=(hullOf s).length:=by omega
   rw[e,Nat.mod_self,h0];exact qIW 0
 have a2:(hullOf s++[m,y']).getD (x+2) dd=(hullOf s).getD ((x+2) % (hullOf s).length) dd:=by
  by_cases hx1:x+2<(hullOf s).length
  ·rw[uw hx1,qIA hx1]
  ·by_cases hx2:x+2=(hullOf s).length
   ·rw[hx2,Nat.mod_self,h0];exact qIW 0
   ·have e:x+2=(hullOf s).length+1:=by omega
    rw[e,Nat.add_mod_left,uw (by omega),h1];exact qIW 1
 rw[a1,a2] at w;exact w
theorem qQb (a b:Int) (hb:0<b):Int.tmod a b+b*Int.tdiv a b=a/\Int.tmod a b<b/\-b<Int.tmod a b/\(Int.tdiv a b).natAbs<=a.natAbs:=by
 refine⟨Int.tmod_add_mul_tdiv a b,gt a hb,?_,?_⟩
 ·rcases gZ 0 a with h|h
  ·have:=Int.tmod_nonneg b h;omega
  ·have h3:=gt (-a) hb;rw[Int.neg_tmod] at h3;omega
 ·rw[Int.natAbs_tdiv];exact Nat.div_le_self _ _
theorem qLt {a b q r:Int} (hb:0<b) (h:r+b*q=a) (h0:0<=r) (h1:r<b):a/b=q:=(Int.ediv_emod_unique hb).2 ⟨h,h0,h1⟩|>.1
theorem qVo (a b:Int) (hb:0<b) (h1: -4611686018427387904<=a) (h2:a<=4611686018427387904):HZ a b=some (a/b):=by
 obtain⟨e,l,g,n⟩:=qQb a b hb;unfold HZ IP;rw[nz_t (by omega),w64_o (n:=Int.tdiv a b) (by omega)];by_cases h:Int.tmod a b<0
 ·rw[ki h,w64_o (by omega)];have:a/b=Int.tdiv a b-1:=qLt hb (r:=Int.tmod a b+b) (by rw[gG,Int.mul_one];omega) (by omega) (by omega);rw[this];rfl
 ·rw[kf h];have:a/b=Int.tdiv a b:=qLt hb (r:=Int.tmod a b) e (by omega) l;rw[this];rfl
theorem qKX (a b:Int) (hb:0<b) (h3:b<=4611686018427387904) (h1: -4611686018427387904<=a) (h2:a<=4611686018427387904):qCk a b=some (a/b):=by
 obtain⟨e,l,g,n⟩:=qQb a b hb;have hc:Int.tdiv a b*b=b*Int.tdiv a b:=Int.mul_comm _ _;unfold qCk qBE;rw[nz_t (by omega),w64_o (n:=Int.tdiv a b) (by omega),w64_o (n:=Int.tdiv a b*b) (by omega)];by_cases h:Int.tmod a b<0
 ·rw[ki (by omega),w64_o (by omega)];have:a/b=Int.tdiv a b-1:=qLt hb (r:=Int.tmod a b+b) (by rw[gG,Int.mul_one];omega) (by omega) (by omega);rw[this];rfl
 ·rw[kf (by omega)];have:a/b=Int.tdiv a b:=qLt hb (r:=Int.tmod a b) e (by omega) l;rw[this];rfl
def upB (p q:qA) (y:Int):Int:=p.X+(q.X-p.X)*(y-p.Y)/(q.Y-p.Y)
def dnB (p q:qA) (y:Int):Int:=p.X-(q.X-p.X)*(y-p.Y)/(p.Y-q.Y)
theorem qBI {p q:qA} (h:p.Y<q.Y) (X y:Int):X<=upB p q y↔0<=cross p q ⟨X,y⟩:=by
 unfold upB cross;have:=Int.le_ediv_iff_mul_le (a:=X-p.X) (b:=(q.X-p.X)*(y-p.Y)) (show 0<q.Y-p.Y by omega);constructor
 ·intro h1;have h2:=this.1 (by omega);simp only;omega
 ·intro h1;have h2:=this.2 (by simp only at h1;omega);omega
theorem qBu {p q:qA} (h:q.Y<p.Y) (X y:Int):dnB p q y<=X↔0<=cross p q ⟨X,y⟩:=by
 unfold dnB cross;have:=Int.le_ediv_iff_mul_le (a:=p.X-X) (b:=(q.X-p.X)*(y-p.Y)) (show 0<p.Y-q.Y by omega);have e:(p.X-X)*(p.Y-q.Y)=(X-p.X)*(q.Y-p.Y):=by grind
 rw[e] at this;constructor
 ·intro h1;have h2:=this.1 (by omega);simp only;omega
 ·intro h1;have h2:=this.2 (by simp only at h1;omega);omega
theorem dnB_eq {p q:qA} (h:q.Y<p.Y) (y:Int):q.X-(q.X-p.X)*(y-q.Y)/(p.Y-q.Y)=dnB p q y:=by
 unfold dnB;have e:(q.X-p.X)*(y-q.Y)=(q.X-p.X)*(y-p.Y)+(q.X-p.X)*(p.Y-q.Y):=by grind
 rw[e,Int.add_mul_ediv_right _ _ (by omega)];omega
theorem up_up {p q u v:qA} {y:Int} (hpq:p.Y<q.Y) (hy1:p.Y<=y) (hy2:y<=q.Y) (huv:u.Y<v.Y) (h1:0<=cross u v p) (h2:0<=cross u v q):upB p q y<=upB u v y:=by
 rw[qBI huv];have hb:=(qBI hpq (upB p q y) y).1 (kV _);generalize upB p q y=X at hb;have hD:0<q.Y-p.Y:=by omega
 have key:(q.Y-p.Y)*cross u v ⟨X,y⟩=(q.Y-y)*cross u v p+(y-p.Y)*cross u v q+(v.Y-u.Y)*cross p q ⟨X,y⟩:=by unfold cross;grind
 have a1:=kB (show 0<=q.Y-y by omega) h1;have a2:=kB (show 0<=y-p.Y by omega) h2;have a3:=kB (show 0<=v.Y-u.Y by omega) hb;have:0<=(q.Y-p.Y)*cross u v ⟨X,y⟩:=by rw[key];omega
 exact Int.nonneg_of_mul_nonneg_right this hD
theorem dn_dn {p q u v:qA} {y:Int} (hpq:q.Y<p.Y) (hy1:q.Y<=y) (hy2:y<=p.Y) (huv:v.Y<u.Y) (h1:0<=cross u v p) (h2:0<=cross u v q):dnB u v y<=dnB p q y:=by
 rw[qBu huv];have hb:=(qBu hpq (dnB p q y) y).1 (kV _);generalize dnB p q y=X at hb;have hD:0<p.Y-q.Y:=by omega
 have key:(p.Y-q.Y)*cross u v ⟨X,y⟩=(y-q.Y)*cross u v p+(p.Y-y)*cross u v q+(u.Y-v.Y)*cross p q ⟨X,y⟩:=by unfold cross;grind
 have a1:=kB (show 0<=y-q.Y by omega) h1;have a2:=kB (show 0<=p.Y-y by omega) h2;have a3:=kB (show 0<=u.Y-v.Y by omega) hb;have:0<=(p.Y-q.Y)*cross u v ⟨X,y⟩:=by rw[key];omega
 exact Int.nonneg_of_mul_nonneg_right this hD
theorem qO9 {N D:Int} (hD:0<D) (h1: -1440000<=N) (h2:N<=1440000): -1440000<=N/D/\N/D<=1440000:=by
 constructor
 ·rw[Int.le_ediv_iff_mul_le hD];have:=Int.mul_le_mul_of_nonneg_left (a:= -1440000) (b:=0) (c:=D-1) (by decide) (by omega);have e:(-1440000)*D=(D-1)*(-1440000)+(-1440000):=by grind
  omega
 ·have:=Int.ediv_lt_of_lt_mul (a:=N) (b:=1440001) hD (by
   have:=kB (show(0:Int)<=1440001 by decide) (show 0<=D-1 by omega);have e:1440001*D=1440001*(D-1)+1440001:=by grind
   omega)
  omega
def pstep (p q:qA) (y:Int) (r:Int×Int):Int×Int:=
 if p.Y<q.Y/\p.Y<=y/\y<=q.Y then(r.1,upB p q y) else if q.Y<p.Y/\q.Y<=y/\y<=p.Y then(dnB p q y,r.2) else r
def pS (H:List qA) (y:Int):Nat->Nat->Int×Int->Int×Int
 |_,0,r=>r
 |x,m+1,r=>pS H y (x+1) m (pstep (H.getD x dd) (H.getD ((x+1) % H.length) dd) y r)
def qCq (p q:qA) (y:Int) (r:Int×Int):Option (Int×Int):=
 if p.Y<q.Y then some (r.1,imin r.2 (upB p q y)) else if q.Y<p.Y then some (imax r.1 (dnB p q y),r.2) else if(q.X-p.X)*(y-p.Y)<0 then none else some r
def rS (H:List qA) (y:Int):Nat->Nat->Int×Int->(Int×Int)⊕(Int×Int)
 |_,0,r=> .inr r
 |x,m+1,r=>match qCq (H.getD x dd) (H.getD ((x+1) % H.length) dd) y r with
  |some r'=>rS H y (x+1) m r'
  |none=> .inl (1,0)
theorem num_b {p q:qA} {y:Int} (hp:rng p) (hq:rng q) (hy: -600<=y/\y<=600): -1440000<=(q.X-p.X)*(y-p.Y)/\(q.X-p.X)*(y-p.Y)<=1440000:=by
 obtain⟨⟨p1,p2⟩,p3,p4⟩:=hp;obtain⟨⟨q1,q2⟩,q3,q4⟩:=hq;exact qGC (m:=1200) (n:=1200) (by omega) (by omega) (by omega) (by omega) (by decide) (by decide)
theorem qMB (H:List qA) (y:Int) (hr:∀p∈H,rng p) (hy: -600<=y/\y<=600) (hl:H.length<=1000000):∀(m n x:Nat) (lo hi:Int),x+m=H.length->m<n->WZ H y n lo hi (x:Int)=some (rS H y x m (lo,hi))
 |_,0,x,_,_,_,hn=>by omega
 |0,n+1,x,lo,hi,hx,_=>by
  unfold WZ rS;rw[lt_f (by omega)];rfl
 |m+1,n+1,x,lo,hi,hx,hn=>by
  have hlen:0<H.length:=by omega
  have hyy:(x+1) % H.length<H.length:=kJ _ hlen;have hnx:=qVk hlen (show x<4611686018427387904 by omega);obtain⟨p,hpx⟩:∃p,H.getD x dd=p:=⟨_,rfl⟩
  obtain⟨q,hqx⟩:∃q,H.getD ((x+1) % H.length) dd=q:=⟨_,rfl⟩
  have hpx':H.getD (x:Int).toNat dd=p:=by rw[kg];exact hpx
  have hqx':H.getD (Int.tmod (w64 ((x:Int)+1)) (H.length:Int)).toNat dd=q:=by rw[hnx,kg];exact hqx
  have hp:rng p:=by rw[<-hpx];exact hr _ (wG (by omega))
  have hq:rng q:=by rw[<-hqx];exact hr _ (wG hyy)
  have ih:=λlo hi=>qMB H y hr hy hl m n (x+1) lo hi (by omega) (by omega);have hi':inb (Int.tmod (w64 ((x:Int)+1)) (H.length:Int)) H.length=true:=by rw[hnx];exact zS (by omega)
  have hinc:w64 ((x:Int)+1)=((x+1:Nat):Int):=wF (by omega);have nb:=num_b hp hq hy;have hp':=hp;have hq':=hq;obtain⟨⟨p1,p2⟩,p3,p4⟩:=hp';obtain⟨⟨q1,q2⟩,q3,q4⟩:=hq';unfold WZ rS;rw[lt_t (by omega),zS (i:=(x:Int)) (by omega),nz_t (by omega),hi',hpx',hqx',hpx,hqx];simp only[kp];rw[w64_o (n:=q.Y-p.Y) (by omega),w64_o (n:=q.X-p.X) (by omega),w64_o (n:=y-p.Y) (by omega),w64_o (n:=(q.X-p.X)*(y-p.Y)) (by omega)];unfold qCq FP;by_cases h1:p.Y<q.Y
  ·have eb:=qO9 (show 0<q.Y-p.Y by omega) nb.1 nb.2;rw[ki (show q.Y-p.Y>0 by omega),if_pos h1,qKX _ _ (by omega) (by omega) (by omega) (by omega)];simp only[kp,kd];rw[w64_o (n:=p.X+_) (by omega),hinc,ih];rfl
  ·rw[kf (show¬q.Y-p.Y>0 by omega),if_neg h1];by_cases h2:q.Y<p.Y
   ·have eb:=qO9 (show 0<p.Y-q.Y by omega) nb.1 nb.2;have e5:w64 (0-(q.Y-p.Y))=p.Y-q.Y:=(w64_o (n:=0-(q.Y-p.Y)) (by omega)).trans (by omega);rw[ki (show q.Y-p.Y<0 by omega),if_pos h2,e5,qKX _ (p.Y-q.Y) (by omega) (by omega) (by omega) (by omega)];simp only[kp,ku,kd];rw[w64_o (n:=p.X-_) (by omega),hinc,ih];rfl
   ·rw[kf (show¬q.Y-p.Y<0 by omega),if_neg h2];simp only[ku];by_cases h3:(q.X-p.X)*(y-p.Y)<0
    ·rw[ki h3,if_pos h3];rfl
    ·rw[kf h3,if_neg h3,hinc];simp only[ku];exact ih lo hi
theorem qPo (H:List qA) (y:Int) (hr:∀p∈H,rng p) (hy: -600<=y/\y<=600) (hl:H.length<=1000000):∀(m n x:Nat) (r:Int×Int),x+m=H.length->m<n->jH y H n r.1 r.2 (x:Int)=some (pS H y x m r)
 |_,0,x,_,_,hn=>by omega
 |0,n+1,x,r,hx,_=>by
  unfold jH pS;rw[lt_f (by omega)];rfl
 |m+1,n+1,x,r,hx,hn=>by
  have hlen:0<H.length:=by omega
  have hyy:(x+1) % H.length<H.length:=kJ _ hlen;have hnx:=qVk hlen (show x<4611686018427387904 by omega);obtain⟨p,hpx⟩:∃p,H.getD x dd=p:=⟨_,rfl⟩
  obtain⟨q,hqx⟩:∃q,H.getD ((x+1) % H.length) dd=q:=⟨_,rfl⟩
  have hpx':H.getD (x:Int).toNat dd=p:=by rw[kg];exact hpx
  have hqx':H.getD (Int.tmod (w64 ((x:Int)+1)) (H.length:Int)).toNat dd=q:=by rw[hnx,kg];exact hqx
  have hp:rng p:=by rw[<-hpx];exact hr _ (wG (by omega))
  have hq:rng q:=by rw[<-hqx];exact hr _ (wG hyy)
  have ih:=λr=>qPo H y hr hy hl m n (x+1) r (by omega) (by omega);have hi':inb (Int.tmod (w64 ((x:Int)+1)) (H.length:Int)) H.length=true:=by rw[hnx];exact zS (by omega)
  have hinc:w64 ((x:Int)+1)=((x+1:Nat):Int):=wF (by omega);have nb:=num_b hp hq hy;have nb2:=num_b hq hp hy;have hp':=hp;have hq':=hq;obtain⟨⟨p1,p2⟩,p3,p4⟩:=hp';obtain⟨⟨q1,q2⟩,q3,q4⟩:=hq';have nb3: -1440000<=(q.X-p.X)*(y-q.Y)/\(q.X-p.X)*(y-q.Y)<=1440000:=by
   have e:(q.X-p.X)*(y-q.Y)= -((p.X-q.X)*(y-q.Y)):=by clear nb nb2;grind
   omega
  unfold jH pS;rw[lt_t (by omega),zS (i:=(x:Int)) (by omega),nz_t (by omega),hi'];unfold TZ UW TY;rw[hpx',hqx',hpx,hqx];simp only[kp];rw[w64_o (n:=q.Y-p.Y) (by omega),w64_o (n:=p.Y-q.Y) (by omega),w64_o (n:=q.X-p.X) (by omega),w64_o (n:=y-p.Y) (by omega),w64_o (n:=y-q.Y) (by omega),w64_o (n:=(q.X-p.X)*(y-p.Y)) (by omega),w64_o (n:=(q.X-p.X)*(y-q.Y)) (by omega),hinc];unfold pstep;by_cases h1:p.Y<q.Y
  ·have h1':¬p.Y>q.Y:=by omega
   have h1'':¬q.Y<p.Y:=by omega
   have eb:=qO9 (show 0<q.Y-p.Y by omega) nb.1 nb.2;rw[qVo _ (q.Y-p.Y) (by omega) (by omega) (by omega)];by_cases h2:p.Y<=y
   ·by_cases h3:y<=q.Y
    ·rw[if_pos ⟨h1,h2,h3⟩];simp only[h1,h2,h3,decide_true,kp,kd];rw[w64_o (n:=p.X+_) (by omega)];exact ih (r.1,upB p q y)
    ·rw[if_neg (by omega),if_neg (by omega)];simp only[h1,h2,h3,h1',h1'',decide_true,decide_false,kp,ku];exact ih r
   ·rw[if_neg (by omega),if_neg (by omega)];simp only[h1,h2,h1',h1'',decide_true,decide_false,kp,ku];exact ih r
  ·by_cases h2:q.Y<p.Y
   ·have h2':p.Y>q.Y:=h2;have eb:=qO9 (show 0<p.Y-q.Y by omega) nb3.1 nb3.2;rw[qVo _ (p.Y-q.Y) (by omega) (by omega) (by omega)];by_cases h3:q.Y<=y
    ·by_cases h4:y<=p.Y
     ·rw[if_neg (by omega),if_pos ⟨h2,h3,h4⟩,<-dnB_eq h2 y];simp only[h1,h2',h3,h4,decide_true,decide_false,kp,ku,kd];rw[w64_o (n:=q.X-_) (by omega)];exact ih (q.X-(q.X-p.X)*(y-q.Y)/(p.Y-q.Y),r.2)
     ·rw[if_neg (by omega),if_neg (by omega)];simp only[h1,h2',h3,h4,decide_true,decide_false,kp,ku];exact ih r
    ·rw[if_neg (by omega),if_neg (by omega)];simp only[h1,h2',h3,decide_true,decide_false,kp,ku];exact ih r
   ·have h2':¬p.Y>q.Y:=h2;rw[if_neg (by omega),if_neg (by omega)];simp only[h1,h2',decide_false,ku];exact ih r
abbrev spU (p q:qA) (y:Int):Prop:=p.Y<q.Y/\p.Y<=y/\y<=q.Y
abbrev spD (p q:qA) (y:Int):Prop:=q.Y<p.Y/\q.Y<=y/\y<=p.Y
theorem pS_up (H:List qA) (y:Int):∀(m x:Nat) (r:Int×Int),((pS H y x m r).2=r.2/\∀j,x<=j->j<x+m->¬spU (H.getD j dd) (H.getD ((j+1) % H.length) dd) y)\/∃j,x<=j/\j<x+m/\spU (H.getD j dd) (H.getD ((j+1) % H.length) dd) y/\(pS H y x m r).2=upB (H.getD j dd) (H.getD ((j+1) % H.length) dd) y
 |0,x,r=> .inl ⟨rfl,λj h1 h2=>by omega⟩
 |m+1,x,r=>by
  unfold pS;rcases pS_up H y m (x+1) (pstep (H.getD x dd) (H.getD ((x+1) % H.length) dd) y r) with⟨h1,h2⟩|⟨j,h1,h2,h3,h4⟩
  ·by_cases hs:spU (H.getD x dd) (H.getD ((x+1) % H.length) dd) y
   ·refine .inr ⟨x,ke _,by omega,hs,?_⟩;rw[h1];unfold pstep;rw[if_pos hs]
   ·refine .inl ⟨?_,λj hj1 hj2=>?_⟩
    ·rw[h1];unfold pstep;rw[if_neg hs];split<;>rfl
    ·by_cases hjx:j=x
     ·subst hjx;exact hs
     ·exact h2 j (by omega) (by omega)
  ·exact .inr ⟨j,by omega,by omega,h3,h4⟩
theorem pS_dn (H:List qA) (y:Int):∀(m x:Nat) (r:Int×Int),((pS H y x m r).1=r.1/\∀j,x<=j->j<x+m->¬spD (H.getD j dd) (H.getD ((j+1) % H.length) dd) y)\/∃j,x<=j/\j<x+m/\spD (H.getD j dd) (H.getD ((j+1) % H.length) dd) y/\(pS H y x m r).1=dnB (H.getD j dd) (H.getD ((j+1) % H.length) dd) y
 |0,x,r=> .inl ⟨rfl,λj h1 h2=>by omega⟩
 |m+1,x,r=>by
  unfold pS;rcases pS_dn H y m (x+1) (pstep (H.getD x dd) (H.getD ((x+1) % H.length) dd) y r) with⟨h1,h2⟩|⟨j,h1,h2,h3,h4⟩
  ·by_cases hs:spD (H.getD x dd) (H.getD ((x+1) % H.length) dd) y
   ·refine .inr ⟨x,ke _,by omega,hs,?_⟩;rw[h1];unfold pstep;rw[if_neg (by omega),if_pos hs]
   ·refine .inl ⟨?_,λj hj1 hj2=>?_⟩
    ·rw[h1];unfold pstep;rw[if_neg hs];split<;>rfl
    ·by_cases hjx:j=x
     ·subst hjx;exact hs
     ·exact h2 j (by omega) (by omega)
  ·exact .inr ⟨j,by omega,by omega,h3,h4⟩
abbrev Ep (H:List qA) (j:Nat):qA:=H.getD j dd
abbrev Eq' (H:List qA) (j:Nat):qA:=H.getD ((j+1) % H.length) dd
def bad (p q:qA) (y:Int):Prop:=¬p.Y<q.Y/\¬q.Y<p.Y/\(q.X-p.X)*(y-p.Y)<0
theorem qXf {a b X:Int}:X<=imin a b↔X<=a/\X<=b:=by unfold imin;split<;>omega
theorem qXl {a b X:Int}:imax a b<=X↔a<=X/\b<=X:=by unfold imax;split<;>omega
theorem rS_spec (H:List qA) (y:Int):∀(m x:Nat) (r:Int×Int),
  ((∃j,x<=j/\j<x+m/\bad (Ep H j) (Eq' H j) y)/\rS H y x m r= .inl (1,0))\/
  ((∀j,x<=j->j<x+m->¬bad (Ep H j) (Eq' H j) y)/\∃r',rS H y x m r= .inr r'/\(∀X,r'.1<=X↔r.1<=X/\∀j,x<=j->j<x+m->(Eq' H j).Y<(Ep H j).Y->dnB (Ep H j) (Eq' H j) y<=X)/\(∀X,X<=r'.2↔X<=r.2/\∀j,x<=j->j<x+m->(Ep H j).Y<(Eq' H j).Y->X<=upB (Ep H j) (Eq' H j) y))
 |0,x,r=> .inr ⟨λj h1 h2=>by omega,r,rfl,λX=>⟨λh=>⟨h,λj h1 h2=>by omega⟩,λh=>h.1⟩,λX=>⟨λh=>⟨h,λj h1 h2=>by omega⟩,λh=>h.1⟩⟩
 |m+1,x,r=>by
  have all:∀{P:Nat->Prop},(∀j,x<=j->j<x+(m+1)->P j)↔P x/\∀j,x+1<=j->j<x+1+m->P j:=fun{P}=>
   ⟨λh=>⟨h x (ke _) (by omega),λj h1 h2=>h j (by omega) (by omega)⟩,λh j h1 h2=>by
    by_cases hj:j=x
    ·subst hj;exact h.1
    ·exact h.2 j (by omega) (by omega)⟩
  unfold rS;by_cases h1:(Ep H x).Y<(Eq' H x).Y
  ·have e:qCq (Ep H x) (Eq' H x) y r=some (r.1,imin r.2 (upB (Ep H x) (Eq' H x) y)):=by unfold qCq;rw[if_pos h1]
   rw[e];rcases rS_spec H y m (x+1) (r.1,imin r.2 (upB (Ep H x) (Eq' H x) y)) with⟨⟨j,j1,j2,j3⟩,h⟩|⟨h,r',e',h2,h3⟩
   ·exact .inl ⟨⟨j,by omega,by omega,j3⟩,h⟩
   ·refine .inr ⟨all.2 ⟨λhb=>hb.1 h1,h⟩,r',e',λX=>?_,λX=>?_⟩
    ·rw[h2 X,all];exact⟨fun⟨a,b⟩=>⟨a,λhh=>by omega,b⟩,fun⟨a,_,b⟩=>⟨a,b⟩⟩
    ·rw[h3 X,all,qXf];exact⟨fun⟨⟨a,a'⟩,b⟩=>⟨a,λ_=>a',b⟩,fun⟨a,a',b⟩=>⟨⟨a,a' h1⟩,b⟩⟩
  ·by_cases h2:(Eq' H x).Y<(Ep H x).Y
   ·have e:qCq (Ep H x) (Eq' H x) y r=some (imax r.1 (dnB (Ep H x) (Eq' H x) y),r.2):=by unfold qCq;rw[if_neg h1,if_pos h2]
    rw[e];rcases rS_spec H y m (x+1) (imax r.1 (dnB (Ep H x) (Eq' H x) y),r.2) with⟨⟨j,j1,j2,j3⟩,h⟩|⟨h,r',e',h3,h4⟩
    ·exact .inl ⟨⟨j,by omega,by omega,j3⟩,h⟩
    ·refine .inr ⟨all.2 ⟨λhb=>hb.2.1 h2,h⟩,r',e',λX=>?_,λX=>?_⟩
     ·rw[h3 X,all,qXl];exact⟨fun⟨⟨a,a'⟩,b⟩=>⟨a,λ_=>a',b⟩,fun⟨a,a',b⟩=>⟨⟨a,a' h2⟩,b⟩⟩
     ·rw[h4 X,all];exact⟨fun⟨a,b⟩=>⟨a,λhh=>absurd hh h1,b⟩,fun⟨a,_,b⟩=>⟨a,b⟩⟩
   ·by_cases h3:((Eq' H x).X-(Ep H x).X)*(y-(Ep H x).Y)<0
    ·have e:qCq (Ep H x) (Eq' H x) y r=none:=by unfold qCq;rw[if_neg h1,if_neg h2,if_pos h3]
     rw[e];exact .inl ⟨⟨x,ke _,by omega,h1,h2,h3⟩,rfl⟩
    ·have e:qCq (Ep H x) (Eq' H x) y r=some r:=by unfold qCq;rw[if_neg h1,if_neg h2,if_neg h3]
     rw[e];rcases rS_spec H y m (x+1) r with⟨⟨j,j1,j2,j3⟩,h⟩|⟨h,r',e',h4,h5⟩
     ·exact .inl ⟨⟨j,by omega,by omega,j3⟩,h⟩
     ·refine .inr ⟨all.2 ⟨λhb=>h3 hb.2.2,h⟩,r',e',λX=>?_,λX=>?_⟩
      ·rw[h4 X,all];exact⟨fun⟨a,b⟩=>⟨a,λhh=>absurd hh h2,b⟩,fun⟨a,_,b⟩=>⟨a,b⟩⟩
      ·rw[h5 X,all];exact⟨fun⟨a,b⟩=>⟨a,λhh=>absurd hh h1,b⟩,fun⟨a,_,b⟩=>⟨a,b⟩⟩
theorem qHl {n:Nat} {P:Nat->Prop} {i:Nat} (hi:i<n) (h0:P i) (hs:∀x,x<n->P x->P ((x+1) % n)):∀x,x<n->P x:=by
 have step:∀k,P ((i+k) % n):=by
  intro k
  induction k with
  |zero=>rw[kX,uw hi];exact h0
  |succ k ih=>
   have:=hs _ (kJ _ (by omega)) ih;rw[uO] at this;exact this
 intro x hx;by_cases h:i<=x
 ·have:=step (x-i);rw[show i+(x-i)=x by omega,uw hx] at this;exact this
 ·have:=step (n-i+x);rw[show i+(n-i+x)=n+x by omega,Nat.add_mod_left,uw hx] at this;exact this
structure Cvx (H:List qA):Prop where
 n3:3<=H.length
 rg:∀p∈H,rng p
 lf:∀x,x<H.length->∀p∈H,0<=cross (Ep H x) (Eq' H x) p
 tn:∀x,x<H.length->0<cross (Ep H x) (Eq' H x) (Ep H ((x+2) % H.length))
theorem AL {H:List qA} {p:qA} (h:p∈H):∃x,x<H.length/\Ep H x=p:=by
 obtain⟨x,hx,e⟩:=uH.1 h;exact⟨x,hx,by rw[Ep,qIt hx];exact e⟩
theorem qNz {H:List qA} (hc:Cvx H) (c:Int):¬∀p∈H,p.Y=c:=by
 intro h;have hn:=hc.n3;have t:=hc.tn 0 (by omega);have y0:=h (Ep H 0) (wG (by omega));have y1:=h (Eq' H 0) (wG (kJ _ (by omega)));have y2:=h (Ep H ((0+2) % H.length)) (wG (kJ _ (by omega)));unfold cross at t;rw[y0,y1,y2] at t;simp at t
theorem qQQ {H:List qA} (hc:Cvx H) {y:Int} {a b:qA} (ha:a∈H) (hb:b∈H) (h1:a.Y<=y) (h2:y<=b.Y):∃j,j<H.length/\spU (Ep H j) (Eq' H j) y:=by
 refine Classical.byContradiction λhno=>?_;have no:∀j,j<H.length->¬spU (Ep H j) (Eq' H j) y:=λj hj hs=>hno ⟨j,hj,hs⟩;by_cases hlow:∃p∈H,p.Y<y
 ·obtain⟨p,hp,hpy⟩:=hlow;obtain⟨i,hi,e⟩:=AL hp;have:=qHl (P:=λx=>(Ep H x).Y<y) hi (by rw[e];exact hpy) (λx hx hx'=>by
   have h3:¬((Ep H x).Y<(Eq' H x).Y/\(Ep H x).Y<=y/\y<=(Eq' H x).Y):=no x hx;have h4:(Ep H x).Y<y:=hx';show(Eq' H x).Y<y;omega)
  obtain⟨k,hk,e'⟩:=AL hb;have:=this k hk;simp only[e'] at this;omega
 ·have hall:∀p∈H,y<=p.Y:=λp hp=>by
   rcases Int.lt_or_le p.Y y with h|h
   ·exact absurd ⟨p,hp,h⟩ hlow
   ·exact h
  have hay:a.Y=y:=by have:=hall a ha;omega
  obtain⟨i,hi,e⟩:=AL ha;have:=qHl (P:=λx=>(Ep H x).Y=y) hi (by rw[e];exact hay) (λx hx hx'=>by
   have h3:¬((Ep H x).Y<(Eq' H x).Y/\(Ep H x).Y<=y/\y<=(Eq' H x).Y):=no x hx;have h4:y<=(Eq' H x).Y:=hall (Eq' H x) (wG (kJ _ (by omega)));have h5:(Ep H x).Y=y:=hx';show(Eq' H x).Y=y;omega)
  refine qNz hc y (λp hp=>?_);obtain⟨k,hk,e'⟩:=AL hp;rw[<-e'];exact this k hk
theorem qQD {H:List qA} (hc:Cvx H) {y:Int} {a b:qA} (ha:a∈H) (hb:b∈H) (h1:a.Y<=y) (h2:y<=b.Y):∃j,j<H.length/\spD (Ep H j) (Eq' H j) y:=by
 refine Classical.byContradiction λhno=>?_;have no:∀j,j<H.length->¬spD (Ep H j) (Eq' H j) y:=λj hj hs=>hno ⟨j,hj,hs⟩;by_cases hhi:∃p∈H,y<p.Y
 ·obtain⟨p,hp,hpy⟩:=hhi;obtain⟨i,hi,e⟩:=AL hp;have:=qHl (P:=λx=>y<(Ep H x).Y) hi (by rw[e];exact hpy) (λx hx hx'=>by
   have h3:¬((Eq' H x).Y<(Ep H x).Y/\(Eq' H x).Y<=y/\y<=(Ep H x).Y):=no x hx;have h4:y<(Ep H x).Y:=hx';show y<(Eq' H x).Y;omega)
  obtain⟨k,hk,e'⟩:=AL ha;have:=this k hk;simp only[e'] at this;omega
 ·have hall:∀p∈H,p.Y<=y:=λp hp=>by
   rcases Int.lt_or_le y p.Y with h|h
   ·exact absurd ⟨p,hp,h⟩ hhi
   ·exact h
  have hby:b.Y=y:=by have:=hall b hb;omega
  obtain⟨i,hi,e⟩:=AL hb;have:=qHl (P:=λx=>(Ep H x).Y=y) hi (by rw[e];exact hby) (λx hx hx'=>by
   have h3:¬((Eq' H x).Y<(Ep H x).Y/\(Eq' H x).Y<=y/\y<=(Ep H x).Y):=no x hx;have h4:(Eq' H x).Y<=y:=hall (Eq' H x) (wG (kJ _ (by omega)));have h5:(Ep H x).Y=y:=hx';show(Eq' H x).Y=y;omega)
  refine qNz hc y (λp hp=>?_);obtain⟨k,hk,e'⟩:=AL hp;rw[<-e'];exact this k hk
theorem no_bad {H:List qA} (hc:Cvx H) {y:Int} {a b:qA} (ha:a∈H) (hb:b∈H) (h1:a.Y<=y) (h2:y<=b.Y) {j:Nat} (hj:j<H.length):¬bad (Ep H j) (Eq' H j) y:=by
 rintro⟨n1,n2,n3⟩;have la:=hc.lf j hj a ha;have lb:=hc.lf j hj b hb;generalize Ep H j=p at*;generalize Eq' H j=q at*;have hy:q.Y-p.Y=0:=by omega
 unfold cross at la lb;rw[hy,Int.mul_zero] at la lb;rcases Int.lt_trichotomy (q.X-p.X) 0 with h|h|h
 ·have:0<=(q.X-p.X)*(y-b.Y):=by
   have:=kB (show 0<=-(q.X-p.X) by omega) (show 0<=b.Y-y by omega);have e: -(q.X-p.X)*(b.Y-y)=(q.X-p.X)*(y-b.Y):=by grind
   omega
  have e:(q.X-p.X)*(y-p.Y)=(q.X-p.X)*(y-b.Y)+(q.X-p.X)*(b.Y-p.Y):=by grind
  omega
 ·rw[h] at n3;simp at n3
 ·have:0<=(q.X-p.X)*(y-a.Y):=kB (by omega) (by omega);have e:(q.X-p.X)*(y-p.Y)=(q.X-p.X)*(y-a.Y)+(q.X-p.X)*(a.Y-p.Y):=by grind
  omega
theorem qZe {p q:qA} {y:Int} (hp:rng p) (hq:rng q) (h:spU p q y):upB p q y<=600:=by
 refine Classical.byContradiction λhn=>?_;have hb:=(qBI h.1 601 y).1 (by omega);unfold cross at hb;simp only at hb;have e:(q.X-p.X)*(y-p.Y)-(601-p.X)*(q.Y-p.Y)= -((601-q.X)*(y-p.Y))-(601-p.X)*(q.Y-y):=by grind
 have a1:=kB (show 0<=601-q.X by omega) (show 0<=y-p.Y by omega);have a2:=kB (show 0<=601-p.X by omega) (show 0<=q.Y-y by omega);rcases da (show 0<=y-p.Y by omega) with h3|h3
 ·have:=uX (show 0<601-q.X by omega) h3;omega
 ·have:=uX (show 0<601-p.X by omega) (show 0<q.Y-y by omega);omega
theorem qYG {p q:qA} {y:Int} (hp:rng p) (hq:rng q) (h:spD p q y): -600<=dnB p q y:=by
 refine Classical.byContradiction λhn=>?_;have hb:=(qBu h.1 (-601) y).1 (by omega);unfold cross at hb;simp only at hb;have e:(q.X-p.X)*(y-p.Y)-(-601-p.X)*(q.Y-p.Y)= -((601+q.X)*(p.Y-y))-(601+p.X)*(y-q.Y):=by grind
 have a1:=kB (show 0<=601+q.X by omega) (show 0<=p.Y-y by omega);have a2:=kB (show 0<=601+p.X by omega) (show 0<=y-q.Y by omega);rcases da (show 0<=p.Y-y by omega) with h3|h3
 ·have:=uX (show 0<601+q.X by omega) h3;omega
 ·have:=uX (show 0<601+p.X by omega) (show 0<y-q.Y by omega);omega
theorem qVh {a b:Int} (h:∀X,X<=a↔X<=b):a=b:=by have h1:=(h a).1 (kV _);have h2:=(h b).2 (kV _);omega
theorem qVg {a b:Int} (h:∀X,a<=X↔b<=X):a=b:=by have h1:=(h a).1 (kV _);have h2:=(h b).2 (kV _);omega
theorem qWX {H:List qA} (hc:Cvx H) {y:Int} {a b:qA} (ha:a∈H) (hb:b∈H) (h1:a.Y<=y) (h2:y<=b.Y) (r:Int×Int):rS H y 0 H.length (-600,600)= .inr (pS H y 0 H.length r):=by
 have hn:=hc.n3;have mq:∀j,Eq' H j∈H:=λj=>wG (kJ _ (by omega));have mp:∀j,j<H.length->Ep H j∈H:=λj hj=>wG hj;rcases rS_spec H y H.length 0 (-600,600) with⟨⟨j,_,j2,j3⟩,_⟩|⟨_,r',e,g1,g2⟩
 ·exact absurd j3 (no_bad hc ha hb h1 h2 (by omega))
 rw[e]
 congr 1
 refine Prod.ext ?_ ?_
 ·rcases pS_dn H y H.length 0 r with⟨_,h⟩|⟨j,_,j2,j3,j4⟩
  ·obtain⟨j,hj,hs⟩:=qQD hc ha hb h1 h2;exact absurd hs (h j (by omega) (by omega))
  ·have hj:j<H.length:=by omega
   rw[j4];refine qVg (λX=>?_);rw[g1 X];refine⟨λh=>h.2 j (by omega) j2 j3.1,λh=>⟨dc (qYG (hc.rg _ (mp j hj)) (hc.rg _ (mq j)) j3) h,λk k1 k2 k3=>dc (dn_dn j3.1 j3.2.1 j3.2.2 k3 (hc.lf k (by omega) _ (mp j hj)) (hc.lf k (by omega) _ (mq j))) h⟩⟩
 ·rcases pS_up H y H.length 0 r with⟨_,h⟩|⟨j,_,j2,j3,j4⟩
  ·obtain⟨j,hj,hs⟩:=qQQ hc ha hb h1 h2;exact absurd hs (h j (by omega) (by omega))
  ·have hj:j<H.length:=by omega
   rw[j4];refine qVh (λX=>?_);rw[g2 X];refine⟨λh=>h.2 j (by omega) j2 j3.1,λh=>⟨dc h (qZe (hc.rg _ (mp j hj)) (hc.rg _ (mq j)) j3),λk k1 k2 k3=>dc h (up_up j3.1 j3.2.1 j3.2.2 k3 (hc.lf k (by omega) _ (mp j hj)) (hc.lf k (by omega) _ (mq j)))⟩⟩
theorem out_key {u v z:qA} {X y:Int} (h1:0<=cross u v ⟨X,y⟩) (h2:0<=cross v z ⟨X,y⟩) (h3:0<cross u v z):¬((v.Y<u.Y/\v.Y<z.Y/\y<v.Y)\/(u.Y<v.Y/\z.Y<v.Y/\v.Y<y)):=by
 have key:cross u v z*(v.Y-y)= -(cross u v ⟨X,y⟩*(z.Y-v.Y))-cross v z ⟨X,y⟩*(u.Y-v.Y):=by unfold cross;grind
 rintro(⟨a1,a2,a3⟩|⟨a1,a2,a3⟩)
 ·have b1:=uX h3 (show 0<v.Y-y by omega);have b2:=kB h1 (show 0<=z.Y-v.Y by omega);have b3:=kB h2 (show 0<=u.Y-v.Y by omega);omega
 ·have b1:=uX h3 (show 0<y-v.Y by omega);have b2:=kB h1 (show 0<=v.Y-z.Y by omega);have b3:=kB h2 (show 0<=v.Y-u.Y by omega);have e1:cross u v z*(y-v.Y)= -(cross u v z*(v.Y-y)):=by grind
  have e2:cross u v ⟨X,y⟩*(v.Y-z.Y)= -(cross u v ⟨X,y⟩*(z.Y-v.Y)):=by grind
  have e3:cross v z ⟨X,y⟩*(v.Y-u.Y)= -(cross v z ⟨X,y⟩*(u.Y-v.Y)):=by grind
  omega
theorem qYR {H:List qA} (hc:Cvx H) (c:Int) (hm:∃p∈H,p.Y=c):∃x,x<H.length/\(Ep H x).Y≠c/\(Eq' H x).Y=c:=by
 refine Classical.byContradiction λhno=>?_;have no:∀x,x<H.length->(Ep H x).Y≠c->(Eq' H x).Y≠c:=λx hx h1 h2=>hno ⟨x,hx,h1,h2⟩;have hne:∃p∈H,p.Y≠c:=Classical.byContradiction λh=>qNz hc c (λp hp=>Classical.byContradiction λh'=>h ⟨p,hp,h'⟩);obtain⟨p,hp,hpc⟩:=hne;obtain⟨i,hi,e⟩:=AL hp;have:=qHl (P:=λx=>(Ep H x).Y≠c) hi (by rw[e];exact hpc) (λx hx h=>no x hx h);obtain⟨q,hq,hqc⟩:=hm;obtain⟨k,hk,e'⟩:=AL hq;exact this k hk (by rw[e'];exact hqc)
theorem nxt_ix {H:List qA} (hc:Cvx H) {x:Nat} (hx:x<H.length):Ep H ((x+1) % H.length)=Eq' H x/\Eq' H ((x+1) % H.length)=Ep H ((x+2) % H.length):=by
 refine⟨rfl,?_⟩;show H.getD (((x+1) % H.length+1) % H.length) dd=H.getD ((x+2) % H.length) dd;rw[uO]
theorem qOh {H:List qA} (hc:Cvx H) {y:Int} (hy:(∀p∈H,y<p.Y)\/(∀p∈H,p.Y<y)) (hnb:∀j,j<H.length->¬bad (Ep H j) (Eq' H j) y) (X:Int):¬∀j,j<H.length->0<=cross (Ep H j) (Eq' H j) ⟨X,y⟩:=by
 intro hall;have hn:=hc.n3;have mp:∀j,j<H.length->Ep H j∈H:=λj hj=>wG hj
 -- an extreme corner
 have ext:∃c,(∃p∈H,p.Y=c)/\((y<c/\∀p∈H,c<=p.Y)\/(c<y/\∀p∈H,p.Y<=c)):=by
  have gen:∀l:List qA,l≠[]->(∃p∈l,∀q∈l,p.Y<=q.Y)/\(∃p∈l,∀q∈l,q.Y<=p.Y):=by
   intro l
   induction l with
   |nil=>intro h;exact absurd rfl h
   |cons a l ih=>
    intro _;by_cases hl:l=[]
    ·subst hl;exact⟨⟨a,by simp,by simp⟩,⟨a,by simp,by simp⟩⟩
    ·obtain⟨⟨p,hp,h1⟩,q,hq,h2⟩:=ih hl;constructor
     ·by_cases h:a.Y<=p.Y
      ·refine⟨a,by simp,λr hr=>?_⟩;rcases kW.1 hr with rfl|hr
       ·exact kV _
       ·exact dc h (h1 r hr)
      ·refine⟨p,kF _ hp,λr hr=>?_⟩;rcases kW.1 hr with rfl|hr
       ·omega
       ·exact h1 r hr
     ·by_cases h:q.Y<=a.Y
      ·refine⟨a,by simp,λr hr=>?_⟩;rcases kW.1 hr with rfl|hr
       ·exact kV _
       ·exact dc (h2 r hr) h
      ·refine⟨q,kF _ hq,λr hr=>?_⟩;rcases kW.1 hr with rfl|hr
       ·omega
       ·exact h2 r hr
  obtain⟨⟨p,hp,h1⟩,q,hq,h2⟩:=gen H (λe=>by rw[e] at hn;simp at hn);rcases hy with hy|hy
  ·exact⟨p.Y,⟨p,hp,rfl⟩,.inl ⟨hy p hp,h1⟩⟩
  ·exact⟨q.Y,⟨q,hq,rfl⟩,.inr ⟨hy q hq,h2⟩⟩
 obtain⟨c,hcm,hce⟩:=ext;obtain⟨x,hx,x1,x2⟩:=qYR hc c hcm;have hx':(x+1) % H.length<H.length:=kJ _ (by omega);have hx2:(x+2) % H.length<H.length:=kJ _ (by omega);obtain⟨i1,i2⟩:=nxt_ix hc hx;have c1:=hall x hx;have c2:=hall _ hx';have nb:=hnb _ hx';have t:=hc.tn x hx;have mu:=mp x hx;have mz:=mp _ hx2;rw[i1,i2] at c2 nb;generalize Ep H x=u at*;generalize Eq' H x=v at*;generalize Ep H ((x+2) % H.length)=z at*;have key:=out_key c1 c2 t;rcases hce with⟨y1,y2⟩|⟨y1,y2⟩
 ·have yu:=y2 u mu;have yz:=y2 z mz;by_cases hz:z.Y=v.Y
  ·refine nb ⟨by omega,by omega,?_⟩;have e:cross u v z=(u.Y-v.Y)*(z.X-v.X):=by unfold cross;rw[hz];grind
   rw[e] at t;have hp:0<z.X-v.X:=by
    refine Classical.byContradiction λh=>?_;have:=kB (show 0<=u.Y-v.Y by omega) (show 0<=-(z.X-v.X) by omega);rw[Int.mul_neg] at this;omega
   have:=uX hp (show 0<v.Y-y by omega);have e2:(z.X-v.X)*(y-v.Y)= -((z.X-v.X)*(v.Y-y)):=by grind
   omega
  ·exact key (.inl ⟨by omega,by omega,by omega⟩)
 ·have yu:=y2 u mu;have yz:=y2 z mz;by_cases hz:z.Y=v.Y
  ·refine nb ⟨by omega,by omega,?_⟩;have e:cross u v z=(v.Y-u.Y)*(v.X-z.X):=by unfold cross;rw[hz];grind
   rw[e] at t;have hp:0<v.X-z.X:=by
    refine Classical.byContradiction λh=>?_;have:=kB (show 0<=v.Y-u.Y by omega) (show 0<=-(v.X-z.X) by omega);rw[Int.mul_neg] at this;omega
   have:=uX hp (show 0<y-v.Y by omega);have e2:(z.X-v.X)*(y-v.Y)= -((v.X-z.X)*(y-v.Y)):=by grind
   omega
  ·exact key (.inr ⟨by omega,by omega,by omega⟩)
theorem qHY {a:List qA} (h:hull a≠[]):a.length<=32/\a.all inRange=true/\hull a=hullOf (srt a)/\¬(chainR (srt a)).length+(chainR (srt a).reverse).length<5:=by
 unfold hull at h⊢;by_cases h1:(a.length:Int)>32
 ·rw[ki h1] at h;exact absurd rfl h
 ·rw[kf h1] at h⊢;cases hr:a.all inRange with
  |false=>rw[hr] at h;exact absurd rfl h
  |true=>
   rw[hr] at h;simp only[ku,kp] at h⊢;refine⟨by omega,trivial,trivial,λh5=>h ?_⟩;unfold hullOf;rw[if_pos h5]
theorem qIL {a:List qA} {p:qA} (hp:p∈hull a):p∈a:=by
 have h:hull a≠[]:=λe=>by rw[e] at hp;cases hp
 obtain⟨_,_,e,h5⟩:=qHY h;rw[e] at hp;exact(qEw a p).1 ((qFH (qAl a) h5).2.1 p hp)
theorem hull_lf {a:List qA} {x:Nat} (hx:x<(hull a).length) {p:qA} (hp:p∈a):0<=cross (Ep (hull a) x) (Eq' (hull a) x) p:=by
 have h:hull a≠[]:=λe=>by rw[e] at hx;simp at hx
 obtain⟨_,_,e,h5⟩:=qHY h;rw[e] at hx⊢;exact(qFH (qAl a) h5).2.2 x hx p ((qEw a p).2 hp)
theorem VB {a:List qA} {p:qA} (hp:p∈hull a):rng p:=by
 have h:hull a≠[]:=λe=>by rw[e] at hp;cases hp
 obtain⟨_,hr,_,_⟩:=qHY h;exact qCp.1 (kw.1 hr p (qIL hp))
theorem qBq {a:List qA} (h:hull a≠[]):Cvx (hull a):=by
 obtain⟨_,_,e,h5⟩:=qHY h;refine⟨by rw[e];exact(qFH (qAl a) h5).1,λp hp=>VB hp,λx hx p hp=>hull_lf hx (qIL hp),λx hx=>?_⟩;rw[e] at hx⊢;exact qX0 (qAl a) h5 x hx
def inH (H:List qA) (X y:Int):Prop:=∀j,j<H.length->0<=cross (Ep H j) (Eq' H j) ⟨X,y⟩
structure YB (H:List qA) (l h:Int):Prop where
 lo:∃p∈H,p.Y=l
 hi:∃p∈H,p.Y=h
 all:∀p∈H,l<=p.Y/\p.Y<=h
theorem qMy :∀(l:List qA) (r:Rect),((l.foldl RV r).Y.A=r.Y.A\/∃p∈l,p.Y=(l.foldl RV r).Y.A)/\((l.foldl RV r).Y.B=r.Y.B\/∃p∈l,p.Y=(l.foldl RV r).Y.B)/\(l.foldl RV r).Y.A<=r.Y.A/\r.Y.B<=(l.foldl RV r).Y.B/\∀p∈l,(l.foldl RV r).Y.A<=p.Y/\p.Y<=(l.foldl RV r).Y.B
 |[],r=>⟨.inl rfl,.inl rfl,kV _,kV _,λp hp=>by cases hp⟩
 |a::l,r=>by
  obtain⟨h1,h2,h3,h4,h5⟩:=qMy l (RV r a);have eA:(RV r a).Y.A=imin r.Y.A a.Y:=rfl;have eB:(RV r a).Y.B=imax r.Y.B a.Y:=rfl;have mA:imin r.Y.A a.Y<=r.Y.A/\imin r.Y.A a.Y<=a.Y/\(imin r.Y.A a.Y=r.Y.A\/imin r.Y.A a.Y=a.Y):=by unfold imin;split<;>omega
  have mB:r.Y.B<=imax r.Y.B a.Y/\a.Y<=imax r.Y.B a.Y/\(imax r.Y.B a.Y=r.Y.B\/imax r.Y.B a.Y=a.Y):=by unfold imax;split<;>omega
  rw[eA] at h1 h3;rw[eB] at h2 h4;simp only[uE];refine⟨?_,?_,by omega,by omega,λp hp=>?_⟩
  ·rcases h1 with h1|⟨p,hp,e⟩
   ·rcases mA.2.2 with e|e
    ·exact .inl (h1.trans e)
    ·exact .inr ⟨a,by simp,by omega⟩
   ·exact .inr ⟨p,kF _ hp,e⟩
  ·rcases h2 with h2|⟨p,hp,e⟩
   ·rcases mB.2.2 with e|e
    ·exact .inl (h2.trans e)
    ·exact .inr ⟨a,by simp,by omega⟩
   ·exact .inr ⟨p,kF _ hp,e⟩
  ·rcases kW.1 hp with rfl|hp
   ·omega
   ·exact h5 p hp
theorem qDe {H:List qA} (h:H≠[]):YB H (bounds H).Y.A (bounds H).Y.B:=by
 cases H with
 |nil=>exact absurd rfl h
 |cons a l=>
  obtain⟨h1,h2,h3,h4,h5⟩:=qMy l (Rect.mk (Span.mk a.X a.X) (Span.mk a.Y a.Y));unfold bounds;simp only at h3 h4⊢;refine⟨?_,?_,λp hp=>?_⟩
  ·rcases h1 with h1|⟨p,hp,e⟩
   ·exact⟨a,by simp,h1.symm⟩
   ·exact⟨p,kF _ hp,e⟩
  ·rcases h2 with h2|⟨p,hp,e⟩
   ·exact⟨a,by simp,h2.symm⟩
   ·exact⟨p,kF _ hp,e⟩
  ·rcases kW.1 hp with rfl|hp
   ·exact⟨h3,h4⟩
   ·exact h5 p hp
end Saw
end Go.SL
