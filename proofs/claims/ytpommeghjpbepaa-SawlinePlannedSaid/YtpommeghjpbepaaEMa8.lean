/- The saw line: nothing goes back. -/
import Derived.Test.YtpommeghjpbepaaEMa7
set_option linter.unusedVariables false
set_option linter.unusedSimpArgs false
namespace Go.SL.Saw
variable {s :List qG} {d:List qJ} {p:List Product} {pt:Pattern} {w:Saw} {t:Rates} {u:T} {N N':List qA} {ri ri':List Int} {S S' O O':List Rect} {B B':List qI}
structure On29 (s:List qG) (w:Saw) (e:Int) (ri ri':List Int) (S S' O O':List Rect) (B B':List qI):Prop where
 mem:∀c∈B,c∈B'
 b:sumL (brdV s) B<=sumL (brdV s) B'
 d:wE s S+sumL (trmV s w.Trim) B<=wE s S'+sumL (trmV s w.Trim) B'
 o:wE s O'<=wE s O
 u:wE s S'+wE s O'+(sumL (brdV s) B'+sumL (trmV s w.Trim) B')<=wE s S+wE s O+(sumL (brdV s) B+sumL (trmV s w.Trim) B)
 ne:e≠0->S'=S/\O'=O/\B'=B/\ri'.length=ri.length
 z:e=0->ri'.length<ri.length
theorem left29 (s:List qG) (d:List qJ) (p:List Product) (e1 e2 e3 e4 e5 e6 e7 e8:Int) (ri:List Int) (N:List qA) (S:List Rect):XO s d p e1 e2 e3 e4 e5 e6 e7 e8 ri N S=some (ri.length:Int):=rfl
end Go.SL.Saw

namespace Go.SL.Saw
variable {g :G29} {N:List qA}
theorem qCF {s:List qG} {d:List qJ} {p:List Product} (step fine:Int):∀(l m:List Leaf) (i:Nat),bdsFrom s d p step fine i (l++m)=bdsFrom s d p step fine i l++bdsFrom s d p step fine (i+l.length) m
 |[],m,i=>by simp[bdsFrom]
 |x::l,m,i=>by
  show bdOf s d p step fine i x++bdsFrom s d p step fine (i+1) (l++m)=(bdOf s d p step fine i x++bdsFrom s d p step fine (i+1) l)++_;rw[qCF step fine l m (i+1),kJ,show i+1+l.length=i+(x::l).length by simp;omega]
theorem qIf (r:Rect):brdR r r=r:=by
 unfold brdR;rw[show r.X.A+(r.X.B-r.X.A)=r.X.B by omega,show r.Y.A+(r.Y.B-r.Y.A)=r.Y.B by omega]
theorem qLb (r:Rect):FZ r r=false:=by unfold FZ;simp
theorem St29.planned (hpl:g.pl=true) {h:Nat}:∀{t:T} {i l:Nat} {x:qB} {S O:List Rect} {B:List qI},okT (QQ g.p) g.kerf t x->Lay g.kerf N t i l x->St29 g N h t i x.rect S O B->restT h t i=[]->
  S=ctT g.kerf t x/\O=[]/\B=bdsFrom g.s g.d g.p g.step g.fine l (lvT g.kerf t x)
 | .leaf n,i,l,x,S,O,B,hk,hl,q,_=>by
  obtain⟨_,_,_,_,rfl,rfl,rfl⟩:=q;obtain⟨_,l2,l3,l4,l5⟩:=hl;refine⟨(lv_leaf hk).2.symm,rfl,?_⟩;have eg:g.giv x.rect (nAt N i)=(n.Kind==1&&(bestR g.s g.d (g.p.getD n.At.toNat du) x.rect g.step g.fine).2.1):=by
   unfold G29.giv giv BW;rw[l2,l3,l5,qLb,qIf];rfl
  have eb:g.brd x.rect (nAt N i)=⟨(l:Int),n.At,⟨x.rect.X,x.rect.Y,(bestR g.s g.d (g.p.getD n.At.toNat du) x.rect g.step g.fine).2.2⟩,(bestR g.s g.d (g.p.getD n.At.toNat du) x.rect g.step g.fine).1⟩:=by
   unfold G29.brd brd BW;rw[l3,l4,l5,qIf]
  rw[eg,eb];rcases chkN_kind hk.1 hk.2 with⟨e,_⟩|⟨e,e2⟩
  ·have el:lvT g.kerf (.leaf n) x=[⟨x.rect,-1⟩]:=by simp[lvT,allT,HH,e]
   rw[el,e];rfl
  ·have el:lvT g.kerf (.leaf n) x=[⟨x.rect,n.At⟩]:=by simp[lvT,allT,HH,e]
   have hat:¬n.At= -1:=λc=>by
    rw[c] at e2;simp[QQ] at e2
   rw[el,e];show _=bdOf g.s g.d g.p g.step g.fine l ⟨x.rect,n.At⟩++[];unfold bdOf;rw[kU,if_neg hat];rfl
 | .rip n a b,i,l,x,S,O,B,hk,hl,q,e=>by
  rw[qCh] at e;obtain⟨_,_,_,q4⟩:=q;by_cases c:h<=i
  ·rw[if_pos c] at e;cases e
  ·rw[if_neg c] at e;obtain⟨ea,eb⟩:=List.append_eq_nil_iff.1 e;rcases q4 with⟨u1,_⟩|⟨_,c',S1,S2,O1,O2,B1,B2,⟨_,hc⟩,qa,qb,rfl,rfl,rfl⟩
   ·exact absurd u1 c
   ·obtain rfl:=hc hpl;obtain⟨s1,o1,b1⟩:=St29.planned hpl hk.2.2.1 hl.2.2.2.2.2.1 qa ea;obtain⟨s2,o2,b2⟩:=St29.planned hpl hk.2.2.2 hl.2.2.2.2.2.2 qb eb;have lr:=qDN (kerf:=g.kerf) (n:=n) (a:=a) (b:=b) (x:=x) hk.1;rw[lr.1,lr.2,qCF,s1,s2,o1,o2,b1,b2];exact⟨rfl,rfl,rfl⟩
theorem qE2 :∀(t:T) (i:Nat),(QF t i).length+1<=szT t
 | .leaf n,i=>kf 1
 | .rip n a b,i=>by
  show(QF a (i+1)++QF b (i+1+szT a)).length+1+1<=_;rw[kD,wQ];have:=qE2 a (i+1);have:=qE2 b (i+1+szT a);omega
section
variable {s :List qG} {d:List qJ} {p:List Product} {pt:Pattern} {w:Saw} {t:Rates} {u:T}
theorem qLP (h:VY s d p pt w t) (N0:List qA) (ri0:List Int):∀(k i n:Nat) (N:List qA) (hh:Nat) (S:List Rect),(restT hh u 0).length=k->i+k<=126->k<n->DQ (gOf true s d p w t) u pt.Frame N hh S->
  ∃N' h' S',wB ((⟨s,d,p,w,t,qY s,N0,ri0,[]⟩:zB),(0:Int)) n (i:Int) N (zs29 (restT hh u 0)) S=some (.inr (N',zs29 [],S'))/\DQ (gOf true s d p w t) u pt.Frame N' h' S'/\restT h' u 0=[]
 |0,i,n,N,hh,S,hk,hi,hn,L=>by
  obtain⟨n,rfl⟩:∃m,n=m+1:=⟨n-1,by omega⟩
  have e:=kS hk;refine⟨N,hh,S,?_,L,e⟩;rw[wB,ka (show(i:Int)<127 by omega),e];rfl
 |k+1,i,n,N,hh,S,hk,hi,hn,L=>by
  obtain⟨n,rfl⟩:∃m,n=m+1:=⟨n-1,by omega⟩
  cases hr:restT hh u 0 with
  |nil=>rw[hr] at hk;cases hk
  |cons j tl=>
   obtain⟨O,B,q⟩:=L.st;rcases L.cut h hr q 0 (λ_=>rfl) with⟨_,c⟩|⟨N',c,O',B',ec,L',hr',_⟩
   ·cases c
   ·have hk':(restT (j+1) u 0).length=k:=by rw[hr'];rw[hr] at hk;exact Nat.succ.inj hk
    obtain⟨N2,h2,S2,e2,L2,r2⟩:=qLP h N0 ri0 k (i+1) n N' (j+1) (S++[c]) hk' (by omega) (by omega) L';refine⟨N2,h2,S2,?_,L2,r2⟩;rw[hr'] at e2;rw[wB,ka (show(i:Int)<127 by omega)];unfold JC;simp only[kn,left29,kg];rw[ka (show(((zs29 (j::tl)).length:Nat):Int)>0 by rw[OH];simp),kn];unfold cutL at ec;rw[ec];simp only[kg,ul,kp];rw[zN (by omega),e2]
theorem qMG (l:List qI) (hl:l.length<=1000):∃m,GV l=some m/\m.length=l.length:=by
 have key:∀(k i n:Nat) (acc:List zH),i+k=l.length->k<n->acc.length=i->∃m,KL l n acc (i:Int)=some m/\m.length=l.length:=by
  intro k
  induction k with
  |zero=>
   intro i n acc hi hn ha;obtain⟨n,rfl⟩:∃m,n=m+1:=⟨n-1,by omega⟩
   exact⟨acc,by rw[KL,ke (by omega)];rfl,by omega⟩
  |succ k ih=>
   intro i n acc hi hn ha;obtain⟨n,rfl⟩:∃m,n=m+1:=⟨n-1,by omega⟩
   rw[KL,ka (by omega),zJ (by omega),WI (by omega),zN (by omega)];exact ih (i+1) n _ (by omega) (by omega) (by simp;omega)
 obtain⟨m,e,hm⟩:=key l.length 0 FUEL [] (by omega) (by rw[yU];omega) rfl;refine⟨m,?_,hm⟩;unfold GV;rw[show(0:Int)=((0:Nat):Int) from rfl,e];rfl
theorem qK5 (m:List zH) (hl:m.length<=1000):HI m m=some true:=by
 have h0:∀n i:Nat,i<m.length->QL m m (n+1) (i:Int)=QL m m n ((i+1:Nat):Int):=λn i hi=>by
  rw[QL,ka (by omega),zJ (by omega),zN (by omega)];simp
 have h1:∀n:Nat,QL m m (n+1) (m.length:Int)=some (.inr ()):=λn=>by
  rw[QL,ke (by omega)];rfl
 have e:=qMk m.length (λn i=>QL m m n i) (by omega) h0 h1;unfold HI;rw[show((m.length:Int) !=(m.length:Int))=false by simp,kp];have e':QL m m FUEL 0=some (.inr ()):=e;rw[e'];rfl
end
theorem qCR (a:qQ) {P:Prop} (_:P):XV a=some true:=by
 unfold XV;obtain⟨b,hb⟩:=qMn a;rw[hb];simp only[kg];cases b with
 |false=>rw[show(!false)=true from rfl,kn,OJ];rfl
 |true=>
  rw[show(!true)=false from rfl,kp];by_cases h:VY a.Solid a.Defects a.Products a.Pattern a.Saw a.Rates
  ·obtain⟨u,N,hn,L,⟨hlv,hct⟩,e⟩:=qNC true a h;rw[e,(Of_ok h).1];simp only[kg,Sum.elim_inr,ul,kp];unfold QW;simp only[kp];have hrl:(restT 0 u 0).length+1<=127:=by
    rw[qLH (kf 0)];have:=qE2 u 0;have:=L.le;omega
   obtain⟨N',h',S',e5,L',hr⟩:=qLP (u:=u) h N (zs29 (QF u 0)) (restT 0 u 0).length 0 FUEL N 0 [] rfl (by omega) (by rw[yU];omega) L;rw[qLH (kf 0)] at e5;have e5':wB ((⟨a.Solid,a.Defects,a.Products,a.Saw,a.Rates,qY a.Solid,N,zs29 (QF u 0),[]⟩:zB),(0:Int)) FUEL 0 N (zs29 (QF u 0)) []=some (.inr (N',zs29 [],S')):=e5;rw[e5'];simp only[kg,Sum.elim_inr];obtain⟨O,B,q,q1,q2⟩:=L'.shows h;obtain⟨es,eo,eb⟩:=q.planned rfl L'.ok L'.lay hr;have es':S'=ctP a.Pattern a.Saw.Kerf:=by rw[es,hct];rfl
   have eb':B=bds a.Solid a.Defects a.Products a.Pattern a.Saw a.Rates.Fine:=by
    rw[eb];unfold bds;rw[hlv];rfl
   subst es' eb';have ey:qGV a.Solid a.Saw.Trim a.Rates.Chip a.Rates.Dust (ctP a.Pattern a.Saw.Kerf) [] (bds a.Solid a.Defects a.Products a.Pattern a.Saw a.Rates.Fine)=qKA a.Solid a.Defects a.Products a.Pattern a.Saw a.Rates:=by
    have e0:wE a.Solid []=0:=rfl;unfold qGV qKA yC yB yD yW;rw[e0];simp only[Int.sub_zero]
   rw[qIn h,q2.yl,q2.bd,q2.rc,ey];have hbl:=q2.bl;obtain⟨m,em,hm⟩:=qMG (bds a.Solid a.Defects a.Products a.Pattern a.Saw a.Rates.Fine) (by omega);simp only[kg,em,qK5 m (by omega),beq_self_eq_true,kn];have ec:∀(x:zM),((x.Log==x.Log)&&((x.Boards==x.Boards)&&((x.Chips==x.Chips)&&((x.Dust==x.Dust)&&((x.Value==x.Value)&&true)))))=true:=λx=>by simp
   have e0:(wE a.Solid []==0)=true:=rfl;have el:((([]:List Rect).length:Int)==0)=true:=rfl;rw[e0,kn];simp only[Bool.and_self,kn];rw[el,kn];have e18:wL 0 a.Solid a.Defects a.Products a.Saw.Kerf a.Saw.Trim a.Saw.Pitch a.Saw.Step a.Rates.Chip a.Rates.Dust a.Rates.Fine (qY a.Solid) (zs29 []) N' (ctP a.Pattern a.Saw.Kerf)=some (18,zs29 [],N',ctP a.Pattern a.Saw.Kerf):=rfl;rw[e18,OJ];rfl
  ·obtain⟨e,hc,he,hcy⟩:=qMc a h;rw[he,(Of_err h).1];simp only[kg,Sum.elim_inl];have e1:(e !=0)=true:=by simpa using hc
   have e2:(e==0)=false:=by simpa using hc
   unfold QX QV;rw[<-hcy,e1,e2];simp[OJ]
end Go.SL.Saw
