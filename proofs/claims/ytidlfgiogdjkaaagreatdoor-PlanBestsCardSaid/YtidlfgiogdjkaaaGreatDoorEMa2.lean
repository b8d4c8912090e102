/- The sections' mathematics (turned from the section seat's texts by mkesec.py). -/
import Derived.Test.YtidlfgiogdjkaaaGreatDoorEMa1
set_option linter.unusedVariables false
set_option linter.unusedSimpArgs false
namespace Go.SL
namespace Saw
def empS (s:Span):Bool:=decide (s.B<=s.A)
def rngS (s:Span):Bool:=(decide (-600<=s.A)&&decide (s.A<=600))&&(decide (-600<=s.B)&&decide (s.B<=600))
def qIW (s:Span):Bool:=(s.A==0)&&(s.B==0)
theorem qAa {s:Span}:rngS s=true↔(-600<=s.A/\s.A<=600)/\(-600<=s.B/\s.B<=600):=by unfold rngS;simp
theorem qC9 (s:Span):JD s=some (empS s):=rfl
theorem qHC (s:Span):PP s=some (empS s):=rfl
theorem qKA (s:Span):VK s=some (rngS s):=by
 have e:rngS s=(decide (imin s.A s.B≥-600)&&decide (imax s.A s.B<=600)):=by
  rw[gp,qAa,kr,decide_eq_true_eq,decide_eq_true_eq,ge_iff_le,le_imin,q1Q];omega
 unfold VK UK;rw[e];cases decide (imin s.A s.B≥-600)<;>rfl
theorem qP6 (n:Int):DA n=some (!(decide (-600<=n)&&decide (n<=600))):=by
 unfold DA LZ;by_cases h1:n< -600
 ·rw[kd h1,ka (show¬-600<=n by omega)];rfl
 ·rw[ka h1,kd (show-600<=n by omega)];by_cases h2:n>600
  ·rw[kd h2,ka (show¬n<=600 by omega)];rfl
  ·rw[ka h2,kd (show n<=600 by omega)];rfl
def bad9 (s:Span):Option Int:=bif rngS s then none else some 9
def bad19 (s:Span):Option Int:=bif empS s&&!qIW s then some 19 else none
def qRB (s:qQ):Int:=
 match findE bad9 s.Rows with
 | .inl e=>e
 | .inr _=>
  if s.Rows.length=0 then(if s.Low=0 then 0 else 19)
  else if empS (s.Rows.getD 0 du)=true\/empS (s.Rows.getD (s.Rows.length-1) du)=true then 19
  else match findE bad19 s.Rows with
   | .inl e=>e
   | .inr _=>0
def KN (s:qQ):Int:=if 120<s.Rows.length then 4 else if s.Low< -60\/60-(s.Rows.length:Int)<s.Low then 9 else qRB s
theorem chk_L (s:qQ) (hl:s.Rows.length<=120):ZU s FUEL 0=some (findE bad9 s.Rows)/\yF s FUEL 0=some (findE bad19 s.Rows)/\QM s FUEL 0=some (findE bad9 s.Rows)/\QP s FUEL 0=some (findE bad19 s.Rows):=by
 have e1:∀(l:List Span) (x:Nat),(l.length:Nat)<1000->x<l.length->decide ((x:Int)<(l.length:Int))=true/\inb (x:Int) l.length=true/\w64 ((x:Int)+1)=((x+1:Nat):Int):=λl x h hx=>⟨kd (by omega),qU (by omega),qY (by omega)⟩
 refine⟨PU s.Rows (ZU s) bad9 (by omega) (λn x hx=>?_) (λn=>?_),PU s.Rows (yF s) bad19 (by omega) (λn x hx=>?_) (λn=>?_),PU s.Rows (QM s) bad9 (by omega) (λn x hx=>?_) (λn=>?_),PU s.Rows (QP s) bad19 (by omega) (λn x hx=>?_) (λn=>?_)⟩
 ·obtain⟨a1,a2,a3⟩:=e1 s.Rows x (by omega) hx;rw[ZU];simp only[a1,a2,a3,kn,ko,qKA,ke,bad9];cases rngS (s.Rows.getD x du)<;>rfl
 ·unfold ZU;simp
 ·obtain⟨a1,a2,a3⟩:=e1 s.Rows x (by omega) hx;rw[yF];simp only[BR,a1,a2,a3,kn,ko,qC9,ke,bad19,qIW,Bool.and_true];cases empS (s.Rows.getD x du)<;>cases ((s.Rows.getD x du).A==0&&(s.Rows.getD x du).B==0)<;>rfl
 ·unfold yF;simp
 ·obtain⟨a1,a2,a3⟩:=e1 s.Rows x (by omega) hx;rw[QM];simp only[AK,a1,a2,a3,kn,ko,qP6,ke,bad9,rngS];cases (decide (-600<=(s.Rows.getD x du).A)&&decide ((s.Rows.getD x du).A<=600))<;>cases (decide (-600<=(s.Rows.getD x du).B)&&decide ((s.Rows.getD x du).B<=600))<;>rfl
 ·unfold QM;simp
 ·obtain⟨a1,a2,a3⟩:=e1 s.Rows x (by omega) hx;rw[QP];simp only[EY,a1,a2,a3,kn,ko,qHC,ke,bad19,qIW,Bool.and_true];cases empS (s.Rows.getD x du)<;>cases ((s.Rows.getD x du).A==0&&(s.Rows.getD x du).B==0)<;>rfl
 ·unfold QP;simp
theorem qIL (s:qQ):TN s=some (KN s)/\zaQ s=some (KN s):=by
 unfold TN zaQ KN;by_cases h:120<s.Rows.length
 ·rw[kd (show(s.Rows.length:Int)>120 by omega),if_pos h];exact⟨rfl,rfl⟩
 rw[ka (show¬(s.Rows.length:Int)>120 by omega),if_neg h,qK (by omega)];simp only[kp];obtain⟨l1,l2,l3,l4⟩:=chk_L s (by omega);by_cases h1:s.Low< -60
 ·rw[kd h1,if_pos (.inl h1)];exact⟨rfl,rfl⟩
 rw[ka h1];by_cases h2:60-(s.Rows.length:Int)<s.Low
 ·rw[kd (show s.Low>_ from h2),if_pos (.inr h2)];exact⟨rfl,rfl⟩
 rw[ka (show¬s.Low>_ from h2),if_neg (by omega)];unfold NC AS NK SX qRB;simp only[kp,l1,l2,l3,l4,ke,qC9,qHC];cases findE bad9 s.Rows with
 |inl e=>exact⟨rfl,rfl⟩
 |inr u=>
  simp only[Sum.elim_inr];by_cases h0:s.Rows.length=0
  ·rw[if_pos h0,h0];by_cases hw:s.Low=0
   ·rw[if_pos hw,hw];exact⟨rfl,rfl⟩
   ·rw[if_neg hw];have:(s.Low !=0)=true:=by simpa using hw
    simp[this]
  ·rw[if_neg h0];have e0:((s.Rows.length:Int)==0)=false:=by rw[kL];omega
   have e1:w64 ((s.Rows.length:Int)-1)=((s.Rows.length-1:Nat):Int):=by rw[qK (by omega)];omega
   rw[e0,qU (by omega),e1,qU (by omega)];simp only[kp,kn,Int.toNat_zero,ko];cases hf:empS (s.Rows.getD 0 du) with
   |true=>simp
   |false=>cases hg:empS (s.Rows.getD (s.Rows.length-1) du) with
    |true=>simp
    |false=>
     simp only[kp,ub,or_self,if_false];cases findE bad19 s.Rows<;>exact⟨rfl,rfl⟩
def nilS :qQ:=⟨0,[]⟩
def GL (s:qQ):qQ:=if KN s=0 then s else nilS
theorem qWi (s:qQ):KU s=some (GL s):=by
 unfold KU GL;rw[(qIL s).1];simp only[ke];by_cases h:KN s=0
 ·rw[h];rfl
 ·have:(KN s !=0)=true:=by simpa using h
  rw[this,if_neg h];rfl
def nrm (x:Span):Span:=bif empS x then⟨0,0⟩ else x
theorem qQQ (x:Span):empS (nrm x)=empS x:=by
 unfold nrm;cases h:empS x with
 |true=>rfl
 |false=>simpa using h
theorem q0m {x:Span} (h:empS x=false):nrm x=x:=by unfold nrm;rw[h];rfl
theorem nrm_emp {x:Span} (h:empS x=true):nrm x=⟨0,0⟩:=by unfold nrm;rw[h];rfl
def row (s:qQ) (r:Int):Span:=if r<s.Low then⟨0,0⟩ else s.Rows.getD (r-s.Low).toNat du
structure Trim (s:qQ):Prop where
 nil:s.Rows=[]->s.Low=0
 first:s.Rows≠[]->empS (s.Rows.getD 0 du)=false
 last:s.Rows≠[]->empS (s.Rows.getD (s.Rows.length-1) du)=false
theorem qLi {α:Type} [Inhabited α] {l:List α} {i:Nat} (h:l.length<=i):l.getD i du=du:=by
 rw[kg,List.getElem?_eq_none h];rfl
theorem row_at {s:qQ} {i:Nat}:row s (s.Low+i)=s.Rows.getD i du:=by
 unfold row;rw[if_neg (by omega)]
 congr 1
 omega
structure VS (s:qQ):Prop extends Trim s where
 len:s.Rows.length<=120
 low: -60<=s.Low
 high:s.Low+s.Rows.length<=60
 rng:∀x∈s.Rows,rngS x=true
 zero:∀x∈s.Rows,empS x=true->x=⟨0,0⟩
theorem qZ3 {x:Span}:bad9 x=none↔rngS x=true:=by unfold bad9;cases rngS x<;>simp
theorem zeroS_iff {x:Span}:qIW x=true↔x=⟨0,0⟩:=by unfold qIW;cases x;simp
theorem qQd {x:Span}:bad19 x=none↔(empS x=true->x=⟨0,0⟩):=by
 unfold bad19;cases h:empS x with
 |false=>simp
 |true=>cases hz:qIW x with
  |true=>simp[zeroS_iff.1 hz]
  |false=>simp;intro e;rw[zeroS_iff.2 e] at hz;cases hz
theorem qGz {ε α:Type} {bad:α->Option ε} {l:List α} {e:ε} (h:findE bad l= .inl e):∃a∈l,bad a=some e:=by
 induction l with
 |nil=>cases h
 |cons a l ih=>
  unfold findE at h;cases hb:bad a with
  |some e'=>rw[hb] at h;cases h;exact⟨a,by simp,hb⟩
  |none=>rw[hb] at h;obtain⟨x,hx,hx'⟩:=ih h;exact⟨x,kM _ hx,hx'⟩
theorem chk10_zero (s:qQ):KN s=0↔VS s:=by
 unfold KN;by_cases h:120<s.Rows.length
 ·rw[if_pos h];exact⟨λh=>absurd h (by decide),λhv=>by have:=hv.len;omega⟩
 rw[if_neg h];by_cases h1:s.Low< -60\/60-(s.Rows.length:Int)<s.Low
 ·rw[if_pos h1];exact⟨λh=>absurd h (by decide),λhv=>by have:=hv.low;have:=hv.high;omega⟩
 rw[if_neg h1];unfold qRB;cases h9:findE bad9 s.Rows with
 |inl e=>
  obtain⟨a,ha,hb⟩:=qGz h9;have e9:e=9/\rngS a=false:=by unfold bad9 at hb;cases hr:rngS a<;>rw[hr] at hb<;>simp at hb;exact⟨hb.symm,rfl⟩
  simp only;refine⟨λh=>by omega,λhv=>?_⟩;have:=hv.rng a ha;rw[e9.2] at this;cases this
 |inr u=>
  have hr:∀x∈s.Rows,rngS x=true:=λx hx=>qZ3.1 (AF.1 h9 x hx);simp only;by_cases h0:s.Rows.length=0
  ·have en:s.Rows=[]:=List.length_eq_zero_iff.1 h0;rw[if_pos h0];by_cases hw:s.Low=0
   ·rw[if_pos hw];exact⟨λ_=>⟨⟨λ_=>hw,λh=>absurd en h,λh=>absurd en h⟩,by omega,by omega,by omega,hr,λx hx=>by rw[en] at hx;cases hx⟩,λ_=>rfl⟩
   ·rw[if_neg hw];exact⟨λh=>absurd h (by decide),λhv=>absurd (hv.nil en) hw⟩
  ·rw[if_neg h0];have hne:s.Rows≠[]:=λe=>h0 (by rw[e];rfl);by_cases hf:empS (s.Rows.getD 0 du)=true\/empS (s.Rows.getD (s.Rows.length-1) du)=true
   ·rw[if_pos hf];refine⟨λh=>absurd h (by decide),λhv=>?_⟩;rcases hf with hf|hf
    ·rw[hv.first hne] at hf;cases hf
    ·rw[hv.last hne] at hf;cases hf
   ·rw[if_neg hf];have f1:empS (s.Rows.getD 0 du)=false:=by simpa using λh=>hf (.inl h)
    have f2:empS (s.Rows.getD (s.Rows.length-1) du)=false:=by simpa using λh=>hf (.inr h)
    cases h19:findE bad19 s.Rows with
    |inl e=>
     obtain⟨a,ha,hb⟩:=qGz h19;simp only;have e19:e=19:=by unfold bad19 at hb;cases hr:(empS a&&!qIW a)<;>rw[hr] at hb<;>simp at hb;exact hb.symm
     refine⟨λh=>by omega,λhv=>?_⟩;have:=qQd.2 (hv.zero a ha);rw[this] at hb;cases hb
    |inr u'=>
     exact⟨λ_=>⟨⟨λe=>absurd e hne,λ_=>f1,λ_=>f2⟩,by omega,by omega,by omega,hr,λx hx=>qQd.1 (AF.1 h19 x hx)⟩,λ_=>rfl⟩
theorem VS_nil :VS nilS:=(chk10_zero nilS).1 rfl
theorem qIR (s:qQ):VS (GL s):=by
 unfold GL;split
 ·rename_i h;exact(chk10_zero s).1 h
 ·exact VS_nil
theorem qCh {s:qQ} (h:VS s):GL s=s:=by unfold GL;rw[if_pos ((chk10_zero s).2 h)]
theorem VS.row_rng {s:qQ} (h:VS s) (r:Int):rngS (row s r)=true:=by
 unfold row;split
 ·rfl
 ·by_cases hi:(r-s.Low).toNat<s.Rows.length
  ·exact h.rng _ (jE hi)
  ·rw[qLi (by omega)];rfl
def mxS (x y:Span):Span:=⟨imax x.A y.A,imin x.B y.B⟩
theorem qEY (x y:Span):PQ x y=some (nrm (mxS x y)):=by
 unfold PQ nrm mxS empS;simp only[ge_iff_le];cases decide (imin x.B y.B<=imax x.A y.A)<;>rfl
def lenS (x:Span):Int:=bif empS x then 0 else x.B-x.A
theorem qWF (n:Int):IntKind.u64.wrap n=n % 18446744073709551616:=by
 unfold IntKind.wrap;simp only[IntKind.bits,IntKind.signed,Bool.false_and];simp
theorem OK {x:Span} (h:x.B-x.A<=9223372036854775807):PB x=some (lenS x):=by
 unfold PB qGt qBA lenS empS;by_cases he:x.B<=x.A
 ·rw[kd (show x.A≥x.B from he)];rfl
 ·rw[ka (show¬x.A≥x.B from he),qWF,qWF,qWF];simp only[kp,ke];rw[show(x.B % 18446744073709551616-x.A % 18446744073709551616) % 18446744073709551616=x.B-x.A by omega];have:imin (x.B-x.A) 9223372036854775807=x.B-x.A:=by have:=imin_or (x.B-x.A) 9223372036854775807;omega
  rw[this,qK (by omega)]
theorem qYz (x:Span):lenS (nrm x)=lenS x:=by
 unfold lenS;rw[qQQ];cases h:empS x with
 |true=>rfl
 |false=>rw[q0m h]
theorem len_nn (x:Span):0<=lenS x:=by unfold lenS empS;by_cases h:x.B<=x.A<;>simp[h];omega
def ml (x y:Span):Int:=lenS (mxS x y)
theorem ml_b {x:Span} (y:Span) (h:rngS x=true):0<=ml x y/\ml x y<=1200/\ml x y<=lenS x:=by
 rw[qAa] at h;have a1:=jN x.A y.A;have a2:=imin_or x.B y.B;unfold ml lenS empS mxS;simp only;by_cases c:imin x.B y.B<=imax x.A y.A
 ·rw[kd c];by_cases c2:x.B<=x.A
  ·rw[kd c2];simp
  ·rw[ka c2];simp;omega
 ·rw[ka c,ka (show¬x.B<=x.A by omega)];simp only[kp];omega
theorem mx_b {x y:Span} (h:rngS x=true):(nrm (mxS x y)).B-(nrm (mxS x y)).A<=1200:=by
 cases he:empS (mxS x y) with
 |true=>rw[nrm_emp he];decide
 |false=>
  rw[q0m he];rw[qAa] at h;have a1:=jN x.A y.A;have a2:=imin_or x.B y.B;unfold mxS;simp only;omega
theorem ml_eq {x:Span} (y:Span) (h:rngS x=true):PB (nrm (mxS x y))=some (ml x y):=by
 have:=mx_b (y:=y) h;rw[OK (by omega),qYz];rfl
def hgt (r:Int):Span:=⟨10*r,10*(r+1)⟩
theorem qLf {r:Int} (h1: -60<=r) (h2:r<60):rngS (hgt r)=true:=by rw[qAa];unfold hgt;simp only;omega
theorem hgt_len (r:Int):lenS (hgt r)=10:=by unfold lenS empS hgt;simp only;rw[ka (by omega)];simp only[kp];omega
theorem hgt_eq {r:Int} (h1: -60<=r) (h2:r<60):KL r (w64 (r+1))=some (hgt r):=by
 unfold KL hgt;rw[qK (n:=r+1) (by omega),qK (by omega),qK (by omega)]
def sumR (f:Int->Int):Int:=sumN 120 (λj=>f ((j:Int)-60))
theorem qEv {f g:Int->Int} (h:∀r,-60<=r->r<60->f r=g r):sumR f=sumR g:=XG (λi hi=>h _ (by omega) (by omega))
theorem qI0 {s:qQ} (h:VS s) (F:Int->Span->Int) (h0:∀r,F r ⟨0,0⟩=0):sumN s.Rows.length (λi=>F (s.Low+i) (s.Rows.getD i du))=sumR (λr=>F r (row s r)):=by
 have b1:=h.low;have b2:=h.high;have b3:=h.len;unfold sumR;have e:120=(s.Low+60).toNat+(s.Rows.length+(120-(s.Low+60).toNat-s.Rows.length)):=by omega
 rw[e,qII,qII];have z1:sumN (s.Low+60).toNat (λj=>F ((j:Int)-60) (row s ((j:Int)-60)))=0:=BK (λi hi=>by
  have:row s ((i:Int)-60)=⟨0,0⟩:=by unfold row;rw[if_pos (by omega)]
  rw[this,h0])
 have z2:sumN (120-(s.Low+60).toNat-s.Rows.length) (λi=>F ((((s.Low+60).toNat+(s.Rows.length+i):Nat):Int)-60) (row s ((((s.Low+60).toNat+(s.Rows.length+i):Nat):Int)-60)))=0:=BK (λi hi=>by
  have:row s ((((s.Low+60).toNat+(s.Rows.length+i):Nat):Int)-60)=⟨0,0⟩:=by
   unfold row;rw[if_neg (by omega),qLi (by omega)];rfl
  rw[this,h0])
 have z3:sumN s.Rows.length (λi=>F ((((s.Low+60).toNat+i:Nat):Int)-60) (row s ((((s.Low+60).toNat+i:Nat):Int)-60)))=sumN s.Rows.length (λi=>F (s.Low+i) (s.Rows.getD i du)):=XG (λi hi=>by
  have:(((s.Low+60).toNat+i:Nat):Int)-60=s.Low+i:=by omega
  rw[this,row_at])
 rw[z1,z3];rw[z2];omega
def TE (s:qQ):Int:=10*sumR (λr=>lenS (row s r))
def zM (s:qQ) (x y:Span):Int:=sumR (λr=>ml (row s r) x*ml (hgt r) y)
theorem VS.len_b {s:qQ} (h:VS s) {i:Nat} (hi:i<s.Rows.length):0<=lenS (s.Rows.getD i du)/\lenS (s.Rows.getD i du)<=1200/\(s.Rows.getD i du).B-(s.Rows.getD i du).A=lenS (s.Rows.getD i du):=by
 have m:=jE hi;have r:=qAa.1 (h.rng _ m);have z:=h.zero _ m;have e:lenS (s.Rows.getD i du)=bif empS (s.Rows.getD i du) then 0 else(s.Rows.getD i du).B-(s.Rows.getD i du).A:=rfl;cases he:empS (s.Rows.getD i du) with
 |true=>rw[z he];decide
 |false=>
  rw[he] at e;simp only[kp] at e;have hlt:¬(s.Rows.getD i du).B<=(s.Rows.getD i du).A:=of_decide_eq_false he;omega
theorem qSI (s:qQ) (R:Rect):RF s R=some (zM (GL s) R.X R.Y):=by
 have h:=qIR s;unfold RF;rw[qWi s];simp only[ke];generalize GL s=t at*;have b:=h.len;have b1:=h.low;have b2:=h.high;have pb:∀x,x<t.Rows.length->0<=ml (t.Rows.getD x du) R.X*ml (hgt (t.Low+x)) R.Y/\ml (t.Rows.getD x du) R.X*ml (hgt (t.Low+x)) R.Y<=1440000:=λx hx=>by
  have m1:=ml_b R.X (h.rng _ (jE hx));have m2:=ml_b R.Y (qLf (r:=t.Low+x) (by omega) (by omega));have:=jL (a:=ml (t.Rows.getD x du) R.X) (b:=ml (hgt (t.Low+x)) R.Y) (m:=1200) (n:=1200) (by omega) (by omega) (by omega) (by omega) (by omega) (by omega);exact⟨kC m1.1 m2.1,by omega⟩
 have k1:=ZC t.Rows (λn (a:Int) x=>JN R t n a x) (λx=>(x:Int)) (λx a s=>s+ml a R.X*ml (hgt (t.Low+x)) R.Y) (λs=>s) (λx s=>0<=s/\s<=1440000*(x:Int)) (by omega)
  (λn x a hx hi=>by
   have p:=pb x hx;refine⟨?_,by omega⟩;rw[JN,kd (show(x:Int)<_ by omega),qU (by omega),qY (by omega),qK (n:=t.Low+x) (by omega),hgt_eq (r:=t.Low+x) (by omega) (by omega)];simp only[kn,ko,ke,qEY];rw[ml_eq R.X (h.rng _ (jE hx)),ml_eq R.Y (qLf (r:=t.Low+x) (by omega) (by omega))];simp only[ke];rw[qK (n:=_*_) (by omega),qK (by omega)])
  (λn a _=>by rw[JN];simp) (i:=0) rfl 0 (by omega)
 rw[HT (λx a=>ml a R.X*ml (hgt (t.Low+x)) R.Y)] at k1;have e:=qI0 h (λr a=>ml a R.X*ml (hgt r) R.Y) (λr=>by
  have:ml ⟨0,0⟩ R.X=0:=by have:=ml_b (x:=⟨0,0⟩) R.X rfl;have e:lenS ⟨0,0⟩=0:=rfl;omega
  rw[this];simp)
 simp only[kw,uC] at k1;rw[e] at k1;rw[k1.1];rfl
theorem qC2 (x y:Span):ml x y=if imin x.B y.B<=imax x.A y.A then 0 else imin x.B y.B-imax x.A y.A:=by
 unfold ml lenS empS mxS;simp only;by_cases c:imin x.B y.B<=imax x.A y.A
 ·rw[kd c,if_pos c];rfl
 ·rw[ka c,if_neg c];rfl
theorem qEw (x y:Span):0<=ml x y:=len_nn _
theorem qQ7 (x:Span):lenS x=if x.B<=x.A then 0 else x.B-x.A:=by
 unfold lenS empS;by_cases c:x.B<=x.A
 ·rw[kd c,if_pos c];rfl
 ·rw[ka c,if_neg c];rfl
theorem qPe (x:Span) {A m B:Int} (h1:A<=m) (h2:m<=B):ml x ⟨A,m⟩+ml x ⟨m,B⟩=ml x ⟨A,B⟩:=by
 have a1:=imin_or x.B m;have a2:=imin_or x.B B;have a3:=jN x.A A;have a4:=jN x.A m;simp only[qC2];split<;>split<;>split<;>omega
theorem qPK (x y:Span):ml x y<=lenS x:=by
 have a2:=imin_or x.B y.B;have a3:=jN x.A y.A;rw[qC2,qQ7];split<;>split<;>omega
theorem q0V {x:Span} (y:Span) (h:empS x=true):ml x y=0:=by
 have:=qPK x y;have:=qEw x y;have e:lenS x=0:=by unfold lenS;rw[h];rfl
 omega
theorem qU7 (s:qQ):TE s=sumR (λr=>10*lenS (row s r)):=(qNx 120 10 _).symm
theorem qRh {f g:Int->Int} (h:∀r,-60<=r->r<60->f r<=g r):sumR f<=sumR g:=qQ8 (λi hi=>h _ (by omega) (by omega))
theorem qOz (f g:Int->Int):sumR (λr=>f r+g r)=sumR f+sumR g:=qE3 120 _ _
theorem q0R :sumR (λ_=>0)=0:=BK (λ_ _=>rfl)
theorem qGT (s:qQ) (x y:Span):0<=zM s x y:=by
 have:=qRh (f:=λ_=>0) (g:=λr=>ml (row s r) x*ml (hgt r) y) (λr _ _=>kC (qEw _ _) (qEw _ _));rw[q0R] at this;exact this
theorem qKO (s:qQ) (x y:Span):zM s x y<=TE s:=by
 rw[qU7];refine qRh (λr _ _=>?_);have h1:=qPK (row s r) x;have h2:=qPK (hgt r) y;rw[hgt_len] at h2;have a:=uV h2 (qEw (row s r) x);have b:=Int.mul_le_mul_of_nonneg_right h1 (show(0:Int)<=10 by decide);rw[Int.mul_comm 10];exact ge a b
theorem qPA {s:qQ} (h:VS s):0<=TE s/\TE s<=1440000:=by
 constructor
 ·exact ge (qGT s ⟨0,0⟩ ⟨0,0⟩) (qKO s _ _)
 ·rw[qU7];refine ge (qRh (g:=λ_=>12000) (λr _ _=>?_)) (by unfold sumR;rw[qYT];omega);have hr:=qAa.1 (h.row_rng r);rw[qQ7];split<;>omega
def shS (dx:Int) (x:Span):Span:=bif empS x then x else⟨x.A+dx,x.B+dx⟩
theorem sh_emp (dx:Int) (x:Span):empS (shS dx x)=empS x:=by
 unfold shS;cases h:empS x with
 |true=>exact h
 |false=>
  unfold empS at h⊢;simp only[kp];have:=of_decide_eq_false h;exact ka (by omega)
end Saw
end Go.SL

namespace Go.SL
theorem qQx {ε σ:Type} (N:Nat) (L:Nat->σ->Int->Option (ε⊕Unit)) (bad:Nat->Option ε) (st:Nat->σ) (hN:N<=1000000000)
  (h0:∀n i,i<N->(∀j,j<i->bad j=none)->L (n+1) (st i) (i:Int)=match bad i with|some e=>some (.inl e)|none=>L n (st (i+1)) ((i+1:Nat):Int))
  (h1:∀n,L (n+1) (st N) (N:Int)=some (.inr ())):L FUEL (st 0) 0=some (findN bad 0 N):=by
 have key:∀k n x,x+k=N->k<n->(∀j,j<x->bad j=none)->L n (st x) (x:Int)=some (findN bad x k):=by
  intro k
  induction k with
  |zero=>
   intro n x hx hn hb;obtain⟨n,rfl⟩:∃m,n=m+1:=⟨n-1,by omega⟩
   rw[un] at hx;subst hx;exact h1 n
  |succ k ih=>
   intro n x hx hn hb;obtain⟨n,rfl⟩:∃m,n=m+1:=⟨n-1,by omega⟩
   rw[h0 n x (by omega) hb,findN];cases hc:bad x with
   |some e=>rfl
   |none=>
    exact ih n (x+1) (by omega) (by omega) (λj hj=>by
     by_cases e:j=x
     ·subst e;exact hc
     ·exact hb j (by omega))
 exact key N FUEL 0 (by omega) (by rw[jF];omega) (λj hj=>by omega)
namespace Saw
def lenTo (l:List qC) (k:Nat):Int:=sumN k (λi=>(l.getD i du).Len)
theorem wF (l:List qC) (k:Nat):lenTo l (k+1)=lenTo l k+(l.getD k du).Len:=rfl
def badSl (l:List qC) (i:Nat):Option Int:=
 if KN (l.getD i du).Sec≠0 then some (KN (l.getD i du).Sec)
 else if(l.getD i du).Sec.Rows.length=0 then some 18
 else if(l.getD i du).Len<1\/20000-lenTo l i<(l.getD i du).Len then some 9 else none
theorem qQF {l:List qC} {i:Nat}:badSl l i=none↔VS (l.getD i du).Sec/\(l.getD i du).Sec.Rows≠[]/\1<=(l.getD i du).Len/\lenTo l (i+1)<=20000:=by
 unfold badSl;rw[<-chk10_zero,wF];by_cases h1:KN (l.getD i du).Sec≠0
 ·rw[if_pos h1];exact⟨λh=>(by cases h),λh=>absurd h.1 h1⟩
 rw[if_neg h1];have h1':KN (l.getD i du).Sec=0:=by omega
 by_cases h2:(l.getD i du).Sec.Rows.length=0
 ·rw[if_pos h2];exact⟨λh=>(by cases h),λh=>absurd (List.length_eq_zero_iff.1 h2) h.2.1⟩
 rw[if_neg h2];have h2':(l.getD i du).Sec.Rows≠[]:=λe=>h2 (by rw[e];rfl);by_cases h3:(l.getD i du).Len<1\/20000-lenTo l i<(l.getD i du).Len
 ·rw[if_pos h3];simp only[reduceCtorEq,false_iff];rintro⟨_,_,a,b⟩;omega
 ·rw[if_neg h3];simp only[true_iff];exact⟨h1',h2',by omega,by omega⟩
theorem q1z {l:List qC} {i:Nat} {e:Int} (h:badSl l i=some e):e≠0:=by
 unfold badSl at h;split at h
 ·cases h;assumption
 ·split at h
  ·cases h;decide
  ·split at h
   ·cases h;decide
   ·cases h
theorem qIw {l:List qC}:∀{i:Nat},(∀j,j<i->badSl l j=none)->(i:Int)<=lenTo l i/\lenTo l i<=20000
 |0,_=>⟨by simp[lenTo,sumN],by simp[lenTo,sumN]⟩
 |i+1,h=>by
  have a:=qQF.1 (h i (by omega));have b:=qIw (i:=i) (λj hj=>h j (by omega));rw[wF] at*;exact⟨by omega,a.2.2.2⟩
def UF (l:List qC):Int:=if l.length=0 then 3 else if 24<l.length then 4 else match findN (badSl l) 0 l.length with| .inl e=>e| .inr _=>0
theorem qYd (l:List qC) (h:l.length<=24):QS l FUEL 0 0=some (findN (badSl l) 0 l.length)/\QI l FUEL 0 0=some (findN (badSl l) 0 l.length):=by
 constructor
 ·refine qQx l.length (QS l) (badSl l) (lenTo l) (by omega) (λn i hi hb=>?_) (λn=>?_)
  ·have b:=qIw hb;rw[QS,kd (by omega),qU (by omega)];simp only[kn,ko,(qIL _).1,ke,EJ,qY (show i<4611686018427387904 by omega)];rw[qK (n:=20000-lenTo l i) (by omega)];unfold badSl;by_cases h1:KN (l.getD i du).Sec≠0
   ·rw[if_pos h1,show(KN (l.getD i du).Sec !=0)=true by rw[ua];exact h1];rfl
   rw[if_neg h1,show(KN (l.getD i du).Sec !=0)=false by rw[kG];omega];by_cases h2:(l.getD i du).Sec.Rows.length=0
   ·rw[if_pos h2,h2];rfl
   rw[if_neg h2,show(((l.getD i du).Sec.Rows.length:Int)==0)=false by rw[kL];omega];by_cases h3:(l.getD i du).Len<1
   ·rw[if_pos (.inl h3),kd h3];rfl
   rw[ka h3];by_cases h4:20000-lenTo l i<(l.getD i du).Len
   ·rw[if_pos (.inr h4),kd (show(l.getD i du).Len>20000-lenTo l i from h4)];rfl
   rw[if_neg (by omega),ka (show¬(l.getD i du).Len>20000-lenTo l i from h4),wF,qK (by omega)];rfl
  ·rw[QS,ka (by omega)];rfl
 ·refine qQx l.length (QI l) (badSl l) (lenTo l) (by omega) (λn i hi hb=>?_) (λn=>?_)
  ·have b:=qIw hb;rw[QI,kd (by omega),qU (by omega)];simp only[kn,ko,(qIL _).2,ke,EC,qY (show i<4611686018427387904 by omega)];rw[qK (n:=20000-lenTo l i) (by omega)];unfold badSl;by_cases h1:KN (l.getD i du).Sec≠0
   ·rw[if_pos h1,show(KN (l.getD i du).Sec !=0)=true by rw[ua];exact h1];rfl
   rw[if_neg h1,show(KN (l.getD i du).Sec !=0)=false by rw[kG];omega];by_cases h2:(l.getD i du).Sec.Rows.length=0
   ·rw[if_pos h2,h2];rfl
   rw[if_neg h2,show(((l.getD i du).Sec.Rows.length:Int)==0)=false by rw[kL];omega];by_cases h3:(l.getD i du).Len<1
   ·rw[if_pos (.inl h3),kd h3];rfl
   rw[ka h3];by_cases h4:20000-lenTo l i<(l.getD i du).Len
   ·rw[if_pos (.inr h4),kd (show(l.getD i du).Len>20000-lenTo l i from h4)];rfl
   rw[if_neg (by omega),ka (show¬(l.getD i du).Len>20000-lenTo l i from h4),wF,qK (by omega)];rfl
  ·rw[QI,ka (by omega)];rfl
theorem RT (l:List qC):XE l=some (UF l)/\ZH l=some (UF l):=by
 unfold XE ZH UF;by_cases h0:l.length=0
 ·rw[if_pos h0,h0];exact⟨rfl,rfl⟩
 rw[if_neg h0,show((l.length:Int)==0)=false by rw[kL];omega];by_cases h1:24<l.length
 ·rw[if_pos h1,kd (by omega)];exact⟨rfl,rfl⟩
 rw[if_neg h1,ka (by omega)];simp only[kp];rw[(qYd l (by omega)).1,(qYd l (by omega)).2];cases findN (badSl l) 0 l.length<;>exact⟨rfl,rfl⟩
structure VSol (l:List qC):Prop where
 ne:0<l.length
 len:l.length<=24
 ok:∀i,i<l.length->badSl l i=none
theorem WX (l:List qC):UF l=0↔VSol l:=by
 unfold UF;by_cases h0:l.length=0
 ·rw[if_pos h0];exact⟨λh=>absurd h (by decide),λh=>by have:=h.ne;omega⟩
 rw[if_neg h0];by_cases h1:24<l.length
 ·rw[if_pos h1];exact⟨λh=>absurd h (by decide),λh=>by have:=h.len;omega⟩
 rw[if_neg h1];cases hf:findN (badSl l) 0 l.length with
 |inl e=>
  obtain⟨i,a,b,c,d⟩:=XD hf;simp only;exact⟨λh=>absurd h (q1z c),λh=>by rw[h.ok i (by omega)] at c;cases c⟩
 |inr u=>exact⟨λ_=>⟨by omega,by omega,λi hi=>UV.1 hf i (by omega) (by omega)⟩,λ_=>rfl⟩
theorem VSol.at {l:List qC} (h:VSol l) {i:Nat} (hi:i<l.length):VS (l.getD i du).Sec/\(l.getD i du).Sec.Rows≠[]/\1<=(l.getD i du).Len/\lenTo l (i+1)<=20000:=qQF.1 (h.ok i hi)
theorem VSol.bd {l:List qC} (h:VSol l) {i:Nat} (hi:i<=l.length):(i:Int)<=lenTo l i/\lenTo l i<=20000:=qIw (λj hj=>h.ok j (by omega))
theorem VSol.mono {l:List qC} (h:VSol l):∀{j:Nat},j<=l.length->∀{i:Nat},i<=j->lenTo l i<=lenTo l j
 |0,_,i,hi=>by rw[show i=0 by omega];exact kT _
 |j+1,hj,i,hi=>by
  by_cases e:i=j+1
  ·rw[e];exact kT _
  ·have:=h.mono (j:=j) (by omega) (i:=i) (by omega);have:=(h.at (i:=j) (by omega)).2.2.1;rw[wF];omega
def valL (l:List qC):List qC:=if UF l=0 then l else[]
theorem qRN (l:List qC):PS l=some (valL l):=by
 unfold PS valL;rw[(RT l).1];simp only[ke];by_cases h:UF l=0
 ·rw[if_pos h,h];rfl
 ·rw[if_neg h,show(UF l !=0)=true by rw[ua];exact h];rfl
theorem KF {l:List qC} (h:VSol l):valL l=l:=by unfold valL;rw[if_pos ((WX l).2 h)]
def solLen (l:List qC):Int:=lenTo l l.length
theorem qWM {l:List qC} (h:VSol l):WN l FUEL 0 0=some (solLen l)/\WZ l FUEL 0 0=some (solLen l):=by
 have hl:=h.len;have f:∀k,foldN (λi s=>s+(l.getD i du).Len) 0 k 0=lenTo l k:=by
  intro k
  induction k with
  |zero=>rfl
  |succ k ih=>rw[yE,ih,kw];rfl
 constructor
 ·have k:=(zR l.length (λn (s:Int) i=>WN l n s i) (λi s=>s+(l.getD i du).Len) (λs=>s) (λi s=>s=lenTo l i) 0 (by omega) (by omega) (λn i s hi hs=>by
   have b:=h.bd (i:=i) (by omega);have b':=h.bd (i:=i+1) (by omega);rw[wF] at b';refine⟨?_,by rw[hs,wF]⟩;rw[WN,kd (by omega),qU (by omega)];simp only[kn,ko,qY (show i<4611686018427387904 by omega)];rw[qK (by omega)]) (λn s _=>by rw[WN,ka (by omega)];rfl) 0 rfl).1
  rw[kF,f] at k;exact k
 ·have k:=(zR l.length (λn (s:Int) i=>WZ l n s i) (λi s=>s+(l.getD i du).Len) (λs=>s) (λi s=>s=lenTo l i) 0 (by omega) (by omega) (λn i s hi hs=>by
   have b:=h.bd (i:=i) (by omega);have b':=h.bd (i:=i+1) (by omega);rw[wF] at b';refine⟨?_,by rw[hs,wF]⟩;rw[WZ,kd (by omega),qU (by omega)];simp only[kn,ko,qY (show i<4611686018427387904 by omega)];rw[qK (by omega)]) (λn s _=>by rw[WZ,ka (by omega)];rfl) 0 rfl).1
  rw[kF,f] at k;exact k
theorem YA (l:List qC):ZE l=some (solLen (valL l))/\WY l=some (solLen (valL l)):=by
 unfold ZE WY;rw[qRN,(RT l).2];simp only[ke];by_cases h:UF l=0
 ·have v:=(WX l).1 h;rw[KF v,h,(qWM v).1,(qWM v).2];exact⟨rfl,rfl⟩
 ·have e:valL l=[]:=by unfold valL;rw[if_neg h]
  rw[e,show(UF l !=0)=true by rw[ua];exact h];constructor
  ·rw[jF];rfl
  ·rfl
def ext (l:List qC) (i:Nat):Span:=⟨lenTo l i,lenTo l (i+1)⟩
theorem wT {α:Type} [Inhabited α] (f:Nat->α) {n i:Nat} (h:i<n):((List.range n).map f).getD i du=f i:=by
 rw[kg,kE,go h];rfl
theorem qYO {l:List qC} (h:VSol l\/l=[]):FJ l=some ((List.range l.length).map (ext l)):=by
 unfold FJ;rcases h with h|h
 ·have hl:=h.len;rw[qKr (by omega) (by omega),ko];simp only[kn];have k:=zR l.length (λn (s:List Span×Int) i=>YP l n s.1 s.2 i) (λi s=>(s.1.set i (ext l i),lenTo l (i+1))) (λs=>s.1)
   (λi s=>s.1.length=l.length/\s.2=lenTo l i/\∀j,j<i->s.1.getD j du=ext l j) 0 (by omega) (by omega)
   (λn i s hi hs=>by
    obtain⟨s1,s2⟩:=s;obtain⟨e1,e2,e3⟩:=hs;simp only at e1 e2 e3;have b:=h.bd (i:=i) (by omega);have b':=h.bd (i:=i+1) (by omega);refine⟨?_,by simpa using e1,rfl,λj hj=>?_⟩
    ·simp only;rw[YP,kd (by omega),qU (by omega),qU (by omega)];simp only[kn,ko,qY (show i<4611686018427387904 by omega),e2];rw[wF] at b';rw[qK (by omega)];rfl
    ·simp only;by_cases c:j=i
     ·subst c;rw[OV _ (by omega)]
     ·rw[LB _ (λe=>c e.symm),e3 j (by omega)])
   (λn s _=>by rw[YP,ka (by omega)];rfl) (List.replicate l.length (Span.mk 0 0),0) ⟨by simp,rfl,λj hj=>by omega⟩
  obtain⟨k1,k2,k3,k4⟩:=k;simp only[kF] at k1 k2 k3 k4;rw[show((0:Nat):Int)=0 from rfl] at k1;rw[k1];simp only[ke]
  congr 1
  refine qVI (by simp[k2]) (λj hj=>?_);rw[k2] at hj;rw[k4 j hj,wT _ hj]
 ·subst h;rw[qKr (by simp) (by simp)];rw[jF];rfl
theorem mx_b' {x y:Span} {M:Int} (h:x.B-x.A<=M) (h0:0<=M):(nrm (mxS x y)).B-(nrm (mxS x y)).A<=M:=by
 unfold nrm;cases he:empS (mxS x y) with
 |true=>simpa using h0
 |false=>
  simp only[kp];unfold mxS;have:=jN x.A y.A;have:=imin_or x.B y.B;simp only;omega
theorem ml_eq' {x:Span} (y:Span) (h:x.B-x.A<=100000):PB (nrm (mxS x y))=some (ml x y):=by
 rw[OK (by have:=mx_b' (y:=y) h (by omega);omega),qYz];rfl
theorem qXW {l:List qC} (h:VSol l) {i:Nat} (hi:i<l.length):lenS (ext l i)=(l.getD i du).Len:=by
 have:=(h.at hi).2.2.1;rw[qQ7,show(ext l i).A=lenTo l i from rfl,show(ext l i).B=lenTo l i+(l.getD i du).Len from wF l i];rw[if_neg (by omega)];omega
def volS (l:List qC) (x y z:Span):Int:=sumN l.length (λi=>ml (ext l i) z*zM (l.getD i du).Sec x y)
theorem qNb {s:qQ} (h:VS s) (x y:Span):0<=zM s x y/\zM s x y<=1440000:=⟨qGT s x y,ge (qKO s x y) (qPA h).2⟩
theorem qNM {l:List qC} (h:VSol l) (x y z:Span) {i:Nat} (hi:i<l.length):0<=ml (ext l i) z*zM (l.getD i du).Sec x y/\ml (ext l i) z*zM (l.getD i du).Sec x y<=1440000*(l.getD i du).Len:=by
 have a:=qNb (h.at hi).1 x y;have b:=qEw (ext l i) z;have c:=qPK (ext l i) z;rw[qXW h hi] at c;refine⟨kC b a.1,?_⟩;have:=uo c a.2 a.1 (by have:=(h.at hi).2.2.1;omega);rw[Int.mul_comm 1440000];exact this
theorem qIv {l:List qC} (h:VSol l) (x y z:Span):∀{k:Nat},k<=l.length->0<=sumN k (λi=>ml (ext l i) z*zM (l.getD i du).Sec x y)/\sumN k (λi=>ml (ext l i) z*zM (l.getD i du).Sec x y)<=1440000*lenTo l k
 |0,_=>by simp[sumN,lenTo]
 |k+1,hk=>by
  have a:=qIv h x y z (k:=k) (by omega);have b:=qNM h x y z (i:=k) (by omega);rw[wF];simp only[sumN];omega
theorem EI {l:List qC} (h:VSol l) (x y z:Span):0<=volS l x y z/\volS l x y z<=28800000000:=by
 have a:=qIv h x y z (ki l.length);have b:=(h.bd (ki l.length)).2;exact⟨a.1,ge a.2 (by omega)⟩
theorem qBY {l:List qC} (h:VSol l) (b:Box):ZF l b=some (volS l b.X b.Y b.Z):=by
 have hl:=h.len;unfold ZF;rw[qRN,KF h];simp only[ke];rw[qYO (.inl h)];simp only[ke];have hlen:((List.range l.length).map (ext l)).length=l.length:=by simp
 have k:=(zR l.length (λn (s:Int) i=>QY b l ((List.range l.length).map (ext l)) n s i) (λi s=>s+ml (ext l i) b.Z*zM (l.getD i du).Sec b.X b.Y) (λs=>s)
  (λi s=>s=sumN i (λi=>ml (ext l i) b.Z*zM (l.getD i du).Sec b.X b.Y)) 0 (by omega) (by omega)
  (λn i s hi hs=>by
   have p:=qIv h b.X b.Y b.Z (k:=i) (by omega);have t:=qNM h b.X b.Y b.Z hi;have bd:=h.bd (i:=i) (by omega);have at':=(h.at hi).2.2;rw[wF] at at';refine⟨?_,by rw[hs];rfl⟩;rw[QY,hlen,kd (by omega),qU (by omega)];simp only[kn,ko,qY (show i<4611686018427387904 by omega),wT _ hi,qEY,ke,LR];rw[ml_eq' b.Z (show(ext l i).B-(ext l i).A<=100000 by rw[show(ext l i).A=lenTo l i from rfl,show(ext l i).B=lenTo l i+(l.getD i du).Len from wF l i];omega)];simp only[ke,qSI];rw[qCh (h.at hi).1];by_cases c:ml (ext l i) b.Z>0
   ·rw[kd c];simp only[kn];rw[qK (n:=ml (ext l i) b.Z*zM (l.getD i du).Sec b.X b.Y) (by omega),qK (by omega)]
   ·have z:ml (ext l i) b.Z=0:=by have:=qEw (ext l i) b.Z;omega
    rw[ka c,z];simp)
  (λn s _=>by rw[QY,hlen,ka (by omega)];rfl) 0 rfl)
 rw[show((0:Nat):Int)=0 from rfl] at k;rw[k.1];simp only[ke];exact congrArg some k.2
theorem qZD {l:List qC} (h:VSol l) (r:Rect) (z:Span):YZ l r z=some (volS l r.X r.Y z):=by
 unfold YZ;rw[qBY h];rfl
end Saw
end Go.SL
