/- The sections' mathematics (turned from the section seat's texts by mkesec.py). -/
import Derived.Test.YtpommeghjpbepaaEMa2
set_option linter.unusedVariables false
set_option linter.unusedSimpArgs false
namespace Go.SL
namespace Saw
def empS (s:Span):Bool:=decide (s.B<=s.A)
def rngS (s:Span):Bool:=(decide (-600<=s.A)&&decide (s.A<=600))&&(decide (-600<=s.B)&&decide (s.B<=600))
def qA8 (s:Span):Bool:=(s.A==0)&&(s.B==0)
theorem MY {s:Span}:rngS s=true↔(-600<=s.A/\s.A<=600)/\(-600<=s.B/\s.B<=600):=by unfold rngS;simp
theorem HT (s:Span):YJ s=some (empS s):=rfl
theorem qAp (s:Span):HK s=some (empS s):=rfl
theorem qCJ (s:Span):PM s=some (rngS s):=by
 have e:rngS s=(decide (imin s.A s.B≥-600)&&decide (imax s.A s.B<=600)):=by
  rw[Bool.eq_iff_iff,MY,kn,decide_eq_true_eq,decide_eq_true_eq,ge_iff_le,le_imin,qNi];omega
 unfold PM PG;rw[e];cases decide (imin s.A s.B≥-600)<;>rfl
theorem qFd (n:Int):LR n=some (!(decide (-600<=n)&&decide (n<=600))):=by
 unfold LR LQ;by_cases h1:n< -600
 ·rw[ka h1,kd (show¬-600<=n by omega)];rfl
 ·rw[kd h1,ka (show-600<=n by omega)];by_cases h2:n>600
  ·rw[ka h2,kd (show¬n<=600 by omega)];rfl
  ·rw[kd h2,ka (show n<=600 by omega)];rfl
def bad9 (s:Span):Option Int:=bif rngS s then none else some 9
def bad19 (s:Span):Option Int:=bif empS s&&!qA8 s then some 19 else none
def qGF (s:qP):Int:=
 match findE bad9 s.Rows with
 | .inl e=>e
 | .inr _=>
  if s.Rows.length=0 then(if s.Low=0 then 0 else 19)
  else if empS (s.Rows.getD 0 du)=true\/empS (s.Rows.getD (s.Rows.length-1) du)=true then 19
  else match findE bad19 s.Rows with
   | .inl e=>e
   | .inr _=>0
def KL (s:qP):Int:=if 120<s.Rows.length then 4 else if s.Low< -60\/60-(s.Rows.length:Int)<s.Low then 9 else qGF s
theorem chk_L (s:qP) (hl:s.Rows.length<=120):ZB s FUEL 0=some (findE bad9 s.Rows)/\yA s FUEL 0=some (findE bad19 s.Rows)/\JE s FUEL 0=some (findE bad9 s.Rows)/\WY s FUEL 0=some (findE bad19 s.Rows):=by
 have e1:∀(l:List Span) (x:Nat),(l.length:Nat)<1000->x<l.length->decide ((x:Int)<(l.length:Int))=true/\inb (x:Int) l.length=true/\w64 ((x:Int)+1)=((x+1:Nat):Int):=λl x h hx=>⟨ka (by omega),zH (by omega),zM (by omega)⟩
 refine⟨DC s.Rows (ZB s) bad9 (by omega) (λn x hx=>?_) (λn=>?_),DC s.Rows (yA s) bad19 (by omega) (λn x hx=>?_) (λn=>?_),DC s.Rows (JE s) bad9 (by omega) (λn x hx=>?_) (λn=>?_),DC s.Rows (WY s) bad19 (by omega) (λn x hx=>?_) (λn=>?_)⟩
 ·obtain⟨a1,a2,a3⟩:=e1 s.Rows x (by omega) hx;rw[ZB];simp only[a1,a2,a3,ki,ks,qCJ,kg,bad9];cases rngS (s.Rows.getD x du)<;>rfl
 ·unfold ZB;simp
 ·obtain⟨a1,a2,a3⟩:=e1 s.Rows x (by omega) hx;rw[yA];simp only[UA,a1,a2,a3,ki,ks,HT,kg,bad19,qA8,Bool.and_true];cases empS (s.Rows.getD x du)<;>cases ((s.Rows.getD x du).A==0&&(s.Rows.getD x du).B==0)<;>rfl
 ·unfold yA;simp
 ·obtain⟨a1,a2,a3⟩:=e1 s.Rows x (by omega) hx;rw[JE];simp only[ME,a1,a2,a3,ki,ks,qFd,kg,bad9,rngS];cases (decide (-600<=(s.Rows.getD x du).A)&&decide ((s.Rows.getD x du).A<=600))<;>cases (decide (-600<=(s.Rows.getD x du).B)&&decide ((s.Rows.getD x du).B<=600))<;>rfl
 ·unfold JE;simp
 ·obtain⟨a1,a2,a3⟩:=e1 s.Rows x (by omega) hx;rw[WY];simp only[MT,a1,a2,a3,ki,ks,qAp,kg,bad19,qA8,Bool.and_true];cases empS (s.Rows.getD x du)<;>cases ((s.Rows.getD x du).A==0&&(s.Rows.getD x du).B==0)<;>rfl
 ·unfold WY;simp
theorem qEJ (s:qP):KZ s=some (KL s)/\qAa s=some (KL s):=by
 unfold KZ qAa KL;by_cases h:120<s.Rows.length
 ·rw[ka (show(s.Rows.length:Int)>120 by omega),if_pos h];exact⟨rfl,rfl⟩
 rw[kd (show¬(s.Rows.length:Int)>120 by omega),if_neg h,qY (by omega)];simp only[kp];obtain⟨l1,l2,l3,l4⟩:=chk_L s (by omega);by_cases h1:s.Low< -60
 ·rw[ka h1,if_pos (.inl h1)];exact⟨rfl,rfl⟩
 rw[kd h1];by_cases h2:60-(s.Rows.length:Int)<s.Low
 ·rw[ka (show s.Low>_ from h2),if_pos (.inr h2)];exact⟨rfl,rfl⟩
 rw[kd (show¬s.Low>_ from h2),if_neg (by omega)];unfold TV MF UH MU qGF;simp only[kp,l1,l2,l3,l4,kg,HT,qAp];cases findE bad9 s.Rows with
 |inl e=>exact⟨rfl,rfl⟩
 |inr u=>
  simp only[Sum.elim_inr];by_cases h0:s.Rows.length=0
  ·rw[if_pos h0,h0];by_cases hw:s.Low=0
   ·rw[if_pos hw,hw];exact⟨rfl,rfl⟩
   ·rw[if_neg hw];have:(s.Low !=0)=true:=by simpa using hw
    simp[this]
  ·rw[if_neg h0];have e0:((s.Rows.length:Int)==0)=false:=by rw[ua];omega
   have e1:w64 ((s.Rows.length:Int)-1)=((s.Rows.length-1:Nat):Int):=by rw[qY (by omega)];omega
   rw[e0,zH (by omega),e1,zH (by omega)];simp only[kp,ki,Int.toNat_zero,ks];cases hf:empS (s.Rows.getD 0 du) with
   |true=>simp
   |false=>cases hg:empS (s.Rows.getD (s.Rows.length-1) du) with
    |true=>simp
    |false=>
     simp only[kp,ur,or_self,if_false];cases findE bad19 s.Rows<;>exact⟨rfl,rfl⟩
def nilS :qP:=⟨0,[]⟩
def HI (s:qP):qP:=if KL s=0 then s else nilS
theorem qJm (s:qP):KY s=some (HI s):=by
 unfold KY HI;rw[(qEJ s).1];simp only[kg];by_cases h:KL s=0
 ·rw[h];rfl
 ·have:(KL s !=0)=true:=by simpa using h
  rw[this,if_neg h];rfl
def nrm (x:Span):Span:=bif empS x then⟨0,0⟩ else x
theorem qKA (x:Span):empS (nrm x)=empS x:=by
 unfold nrm;cases h:empS x with
 |true=>rfl
 |false=>simpa using h
theorem qLS {x:Span} (h:empS x=false):nrm x=x:=by unfold nrm;rw[h];rfl
theorem nrm_emp {x:Span} (h:empS x=true):nrm x=⟨0,0⟩:=by unfold nrm;rw[h];rfl
def row (s:qP) (r:Int):Span:=if r<s.Low then⟨0,0⟩ else s.Rows.getD (r-s.Low).toNat du
structure Trim (s:qP):Prop where
 nil:s.Rows=[]->s.Low=0
 first:s.Rows≠[]->empS (s.Rows.getD 0 du)=false
 last:s.Rows≠[]->empS (s.Rows.getD (s.Rows.length-1) du)=false
theorem qKx {α:Type} [Inhabited α] {l:List α} {i:Nat} (h:l.length<=i):l.getD i du=du:=by
 rw[ke,List.getElem?_eq_none h];rfl
theorem row_at {s:qP} {i:Nat}:row s (s.Low+i)=s.Rows.getD i du:=by
 unfold row;rw[if_neg (by omega)]
 congr 1
 omega
structure VS (s:qP):Prop extends Trim s where
 len:s.Rows.length<=120
 low: -60<=s.Low
 high:s.Low+s.Rows.length<=60
 rng:∀x∈s.Rows,rngS x=true
 zero:∀x∈s.Rows,empS x=true->x=⟨0,0⟩
theorem qLv {x:Span}:bad9 x=none↔rngS x=true:=by unfold bad9;cases rngS x<;>simp
theorem zeroS_iff {x:Span}:qA8 x=true↔x=⟨0,0⟩:=by unfold qA8;cases x;simp
theorem qE7 {x:Span}:bad19 x=none↔(empS x=true->x=⟨0,0⟩):=by
 unfold bad19;cases h:empS x with
 |false=>simp
 |true=>cases hz:qA8 x with
  |true=>simp[zeroS_iff.1 hz]
  |false=>simp;intro e;rw[zeroS_iff.2 e] at hz;cases hz
theorem OS {ε α:Type} {bad:α->Option ε} {l:List α} {e:ε} (h:findE bad l= .inl e):∃a∈l,bad a=some e:=by
 induction l with
 |nil=>cases h
 |cons a l ih=>
  unfold findE at h;cases hb:bad a with
  |some e'=>rw[hb] at h;cases h;exact⟨a,by simp,hb⟩
  |none=>rw[hb] at h;obtain⟨x,hx,hx'⟩:=ih h;exact⟨x,kL _ hx,hx'⟩
theorem chk10_zero (s:qP):KL s=0↔VS s:=by
 unfold KL;by_cases h:120<s.Rows.length
 ·rw[if_pos h];exact⟨λh=>absurd h (by decide),λhv=>by have:=hv.len;omega⟩
 rw[if_neg h];by_cases h1:s.Low< -60\/60-(s.Rows.length:Int)<s.Low
 ·rw[if_pos h1];exact⟨λh=>absurd h (by decide),λhv=>by have:=hv.low;have:=hv.high;omega⟩
 rw[if_neg h1];unfold qGF;cases h9:findE bad9 s.Rows with
 |inl e=>
  obtain⟨a,ha,hb⟩:=OS h9;have e9:e=9/\rngS a=false:=by unfold bad9 at hb;cases hr:rngS a<;>rw[hr] at hb<;>simp at hb;exact⟨hb.symm,rfl⟩
  simp only;refine⟨λh=>by omega,λhv=>?_⟩;have:=hv.rng a ha;rw[e9.2] at this;cases this
 |inr u=>
  have hr:∀x∈s.Rows,rngS x=true:=λx hx=>qLv.1 (MB.1 h9 x hx);simp only;by_cases h0:s.Rows.length=0
  ·have en:s.Rows=[]:=List.length_eq_zero_iff.1 h0;rw[if_pos h0];by_cases hw:s.Low=0
   ·rw[if_pos hw];exact⟨λ_=>⟨⟨λ_=>hw,λh=>absurd en h,λh=>absurd en h⟩,by omega,by omega,by omega,hr,λx hx=>by rw[en] at hx;cases hx⟩,λ_=>rfl⟩
   ·rw[if_neg hw];exact⟨λh=>absurd h (by decide),λhv=>absurd (hv.nil en) hw⟩
  ·rw[if_neg h0];have hne:s.Rows≠[]:=λe=>h0 (by rw[e];rfl);by_cases hf:empS (s.Rows.getD 0 du)=true\/empS (s.Rows.getD (s.Rows.length-1) du)=true
   ·rw[if_pos hf];refine⟨λh=>absurd h (by decide),λhv=>?_⟩;rcases hf with hf|hf
    ·rw[hv.first hne] at hf;cases hf
    ·rw[hv.last hne] at hf;cases hf
   ·rw[if_neg hf];have f1:empS (s.Rows.getD 0 du)=false:=by simpa using λh=>hf (.inl h)
    have f2:empS (s.Rows.getD (s.Rows.length-1) du)=false:=by simpa using λh=>hf (.inr h)
    cases h19:findE bad19 s.Rows with
    |inl e=>
     obtain⟨a,ha,hb⟩:=OS h19;simp only;have e19:e=19:=by unfold bad19 at hb;cases hr:(empS a&&!qA8 a)<;>rw[hr] at hb<;>simp at hb;exact hb.symm
     refine⟨λh=>by omega,λhv=>?_⟩;have:=qE7.2 (hv.zero a ha);rw[this] at hb;cases hb
    |inr u'=>
     exact⟨λ_=>⟨⟨λe=>absurd e hne,λ_=>f1,λ_=>f2⟩,by omega,by omega,by omega,hr,λx hx=>qE7.1 (MB.1 h19 x hx)⟩,λ_=>rfl⟩
theorem VS_nil :VS nilS:=(chk10_zero nilS).1 rfl
theorem qJa (s:qP):VS (HI s):=by
 unfold HI;split
 ·rename_i h;exact(chk10_zero s).1 h
 ·exact VS_nil
theorem qED {s:qP} (h:VS s):HI s=s:=by unfold HI;rw[if_pos ((chk10_zero s).2 h)]
theorem VS.row_rng {s:qP} (h:VS s) (r:Int):rngS (row s r)=true:=by
 unfold row;split
 ·rfl
 ·by_cases hi:(r-s.Low).toNat<s.Rows.length
  ·exact h.rng _ (PH hi)
  ·rw[qKx (by omega)];rfl
def mxS (x y:Span):Span:=⟨imax x.A y.A,imin x.B y.B⟩
theorem zbQ (x y:Span):XD x y=some (nrm (mxS x y)):=by
 unfold XD nrm mxS empS;simp only[ge_iff_le];cases decide (imin x.B y.B<=imax x.A y.A)<;>rfl
def lenS (x:Span):Int:=bif empS x then 0 else x.B-x.A
theorem qI8 (n:Int):IntKind.u64.wrap n=n % 18446744073709551616:=by
 unfold IntKind.wrap;simp only[IntKind.bits,IntKind.signed,Bool.false_and];simp
theorem NM {x:Span} (h:x.B-x.A<=9223372036854775807):YO x=some (lenS x):=by
 unfold YO CH LY lenS empS;by_cases he:x.B<=x.A
 ·rw[ka (show x.A≥x.B from he)];rfl
 ·rw[kd (show¬x.A≥x.B from he),qI8,qI8,qI8];simp only[kp,kg];rw[show(x.B % 18446744073709551616-x.A % 18446744073709551616) % 18446744073709551616=x.B-x.A by omega];have:imin (x.B-x.A) 9223372036854775807=x.B-x.A:=by have:=imin_or (x.B-x.A) 9223372036854775807;omega
  rw[this,qY (by omega)]
theorem qKp (x:Span):lenS (nrm x)=lenS x:=by
 unfold lenS;rw[qKA];cases h:empS x with
 |true=>rfl
 |false=>rw[qLS h]
theorem len_nn (x:Span):0<=lenS x:=by unfold lenS empS;by_cases h:x.B<=x.A<;>simp[h];omega
def ml (x y:Span):Int:=lenS (mxS x y)
theorem ml_b {x:Span} (y:Span) (h:rngS x=true):0<=ml x y/\ml x y<=1200/\ml x y<=lenS x:=by
 rw[MY] at h;have a1:=VB x.A y.A;have a2:=imin_or x.B y.B;unfold ml lenS empS mxS;simp only;by_cases c:imin x.B y.B<=imax x.A y.A
 ·rw[ka c];by_cases c2:x.B<=x.A
  ·rw[ka c2];simp
  ·rw[kd c2];simp;omega
 ·rw[kd c,kd (show¬x.B<=x.A by omega)];simp only[kp];omega
theorem mx_b {x y:Span} (h:rngS x=true):(nrm (mxS x y)).B-(nrm (mxS x y)).A<=1200:=by
 cases he:empS (mxS x y) with
 |true=>rw[nrm_emp he];decide
 |false=>
  rw[qLS he];rw[MY] at h;have a1:=VB x.A y.A;have a2:=imin_or x.B y.B;unfold mxS;simp only;omega
theorem ml_eq {x:Span} (y:Span) (h:rngS x=true):YO (nrm (mxS x y))=some (ml x y):=by
 have:=mx_b (y:=y) h;rw[NM (by omega),qKp];rfl
def hgt (r:Int):Span:=⟨10*r,10*(r+1)⟩
theorem qKD {r:Int} (h1: -60<=r) (h2:r<60):rngS (hgt r)=true:=by rw[MY];unfold hgt;simp only;omega
theorem hgt_len (r:Int):lenS (hgt r)=10:=by unfold lenS empS hgt;simp only;rw[kd (by omega)];simp only[kp];omega
theorem hgt_eq {r:Int} (h1: -60<=r) (h2:r<60):PV r (w64 (r+1))=some (hgt r):=by
 unfold PV hgt;rw[qY (n:=r+1) (by omega),qY (by omega),qY (by omega)]
def sumR (f:Int->Int):Int:=sumN 120 (λj=>f ((j:Int)-60))
theorem qFz {f g:Int->Int} (h:∀r,-60<=r->r<60->f r=g r):sumR f=sumR g:=UL (λi hi=>h _ (by omega) (by omega))
theorem qIm {s:qP} (h:VS s) (F:Int->Span->Int) (h0:∀r,F r ⟨0,0⟩=0):sumN s.Rows.length (λi=>F (s.Low+i) (s.Rows.getD i du))=sumR (λr=>F r (row s r)):=by
 have b1:=h.low;have b2:=h.high;have b3:=h.len;unfold sumR;have e:120=(s.Low+60).toNat+(s.Rows.length+(120-(s.Low+60).toNat-s.Rows.length)):=by omega
 rw[e,qAT,qAT];have z1:sumN (s.Low+60).toNat (λj=>F ((j:Int)-60) (row s ((j:Int)-60)))=0:=HZ (λi hi=>by
  have:row s ((i:Int)-60)=⟨0,0⟩:=by unfold row;rw[if_pos (by omega)]
  rw[this,h0])
 have z2:sumN (120-(s.Low+60).toNat-s.Rows.length) (λi=>F ((((s.Low+60).toNat+(s.Rows.length+i):Nat):Int)-60) (row s ((((s.Low+60).toNat+(s.Rows.length+i):Nat):Int)-60)))=0:=HZ (λi hi=>by
  have:row s ((((s.Low+60).toNat+(s.Rows.length+i):Nat):Int)-60)=⟨0,0⟩:=by
   unfold row;rw[if_neg (by omega),qKx (by omega)];rfl
  rw[this,h0])
 have z3:sumN s.Rows.length (λi=>F ((((s.Low+60).toNat+i:Nat):Int)-60) (row s ((((s.Low+60).toNat+i:Nat):Int)-60)))=sumN s.Rows.length (λi=>F (s.Low+i) (s.Rows.getD i du)):=UL (λi hi=>by
  have:(((s.Low+60).toNat+i:Nat):Int)-60=s.Low+i:=by omega
  rw[this,row_at])
 rw[z1,z3];rw[z2];omega
def BH (s:qP):Int:=10*sumR (λr=>lenS (row s r))
def wI (s:qP) (x y:Span):Int:=sumR (λr=>ml (row s r) x*ml (hgt r) y)
theorem VS.len_b {s:qP} (h:VS s) {i:Nat} (hi:i<s.Rows.length):0<=lenS (s.Rows.getD i du)/\lenS (s.Rows.getD i du)<=1200/\(s.Rows.getD i du).B-(s.Rows.getD i du).A=lenS (s.Rows.getD i du):=by
 have m:=PH hi;have r:=MY.1 (h.rng _ m);have z:=h.zero _ m;have e:lenS (s.Rows.getD i du)=bif empS (s.Rows.getD i du) then 0 else(s.Rows.getD i du).B-(s.Rows.getD i du).A:=rfl;cases he:empS (s.Rows.getD i du) with
 |true=>rw[z he];decide
 |false=>
  rw[he] at e;simp only[kp] at e;have hlt:¬(s.Rows.getD i du).B<=(s.Rows.getD i du).A:=of_decide_eq_false he;omega
theorem qHo (s:qP) (R:Rect):XG s R=some (wI (HI s) R.X R.Y):=by
 have h:=qJa s;unfold XG;rw[qJm s];simp only[kg];generalize HI s=t at*;have b:=h.len;have b1:=h.low;have b2:=h.high;have pb:∀x,x<t.Rows.length->0<=ml (t.Rows.getD x du) R.X*ml (hgt (t.Low+x)) R.Y/\ml (t.Rows.getD x du) R.X*ml (hgt (t.Low+x)) R.Y<=1440000:=λx hx=>by
  have m1:=ml_b R.X (h.rng _ (PH hx));have m2:=ml_b R.Y (qKD (r:=t.Low+x) (by omega) (by omega));have:=CG (a:=ml (t.Rows.getD x du) R.X) (b:=ml (hgt (t.Low+x)) R.Y) (m:=1200) (n:=1200) (by omega) (by omega) (by omega) (by omega) (by omega) (by omega);exact⟨kP m1.1 m2.1,by omega⟩
 have k1:=FU t.Rows (λn (a:Int) x=>WD R t n a x) (λx=>(x:Int)) (λx a s=>s+ml a R.X*ml (hgt (t.Low+x)) R.Y) (λs=>s) (λx s=>0<=s/\s<=1440000*(x:Int)) (by omega)
  (λn x a hx hi=>by
   have p:=pb x hx;refine⟨?_,by omega⟩;rw[WD,ka (show(x:Int)<_ by omega),zH (by omega),zM (by omega),qY (n:=t.Low+x) (by omega),hgt_eq (r:=t.Low+x) (by omega) (by omega)];simp only[ki,ks,kg,zbQ];rw[ml_eq R.X (h.rng _ (PH hx)),ml_eq R.Y (qKD (r:=t.Low+x) (by omega) (by omega))];simp only[kg];rw[qY (n:=_*_) (by omega),qY (by omega)])
  (λn a _=>by rw[WD];simp) (i:=0) rfl 0 (by omega)
 rw[OK (λx a=>ml a R.X*ml (hgt (t.Low+x)) R.Y)] at k1;have e:=qIm h (λr a=>ml a R.X*ml (hgt r) R.Y) (λr=>by
  have:ml ⟨0,0⟩ R.X=0:=by have:=ml_b (x:=⟨0,0⟩) R.X rfl;have e:lenS ⟨0,0⟩=0:=rfl;omega
  rw[this];simp)
 simp only[kv,uZ] at k1;rw[e] at k1;rw[k1.1];rfl
theorem qJH (x y:Span):ml x y=if imin x.B y.B<=imax x.A y.A then 0 else imin x.B y.B-imax x.A y.A:=by
 unfold ml lenS empS mxS;simp only;by_cases c:imin x.B y.B<=imax x.A y.A
 ·rw[ka c,if_pos c];rfl
 ·rw[kd c,if_neg c];rfl
theorem qBb (x y:Span):0<=ml x y:=len_nn _
theorem qGQ (x:Span):lenS x=if x.B<=x.A then 0 else x.B-x.A:=by
 unfold lenS empS;by_cases c:x.B<=x.A
 ·rw[ka c,if_pos c];rfl
 ·rw[kd c,if_neg c];rfl
theorem qJt (x:Span) {A m B:Int} (h1:A<=m) (h2:m<=B):ml x ⟨A,m⟩+ml x ⟨m,B⟩=ml x ⟨A,B⟩:=by
 have a1:=imin_or x.B m;have a2:=imin_or x.B B;have a3:=VB x.A A;have a4:=VB x.A m;simp only[qJH];split<;>split<;>split<;>omega
theorem qH6 (x y:Span):ml x y<=lenS x:=by
 have a2:=imin_or x.B y.B;have a3:=VB x.A y.A;rw[qJH,qGQ];split<;>split<;>omega
theorem qIh (s:qP):BH s=sumR (λr=>10*lenS (row s r)):=(qM5 120 10 _).symm
theorem qGn {f g:Int->Int} (h:∀r,-60<=r->r<60->f r<=g r):sumR f<=sumR g:=qGA (λi hi=>h _ (by omega) (by omega))
theorem qI5 (f g:Int->Int):sumR (λr=>f r+g r)=sumR f+sumR g:=qBj 120 _ _
theorem qMb :sumR (λ_=>0)=0:=HZ (λ_ _=>rfl)
theorem OT (s:qP) (x y:Span):0<=wI s x y:=by
 have:=qGn (f:=λ_=>0) (g:=λr=>ml (row s r) x*ml (hgt r) y) (λr _ _=>kP (qBb _ _) (qBb _ _));rw[qMb] at this;exact this
theorem qB3 (s:qP) (x y:Span):wI s x y<=BH s:=by
 rw[qIh];refine qGn (λr _ _=>?_);have h1:=qH6 (row s r) x;have h2:=qH6 (hgt r) y;rw[hgt_len] at h2;have a:=uL h2 (qBb (row s r) x);have b:=Int.mul_le_mul_of_nonneg_right h1 (show(0:Int)<=10 by decide);rw[Int.mul_comm 10];exact gb a b
theorem qJA {s:qP} (h:VS s):0<=BH s/\BH s<=1440000:=by
 constructor
 ·exact gb (OT s ⟨0,0⟩ ⟨0,0⟩) (qB3 s _ _)
 ·rw[qIh];refine gb (qGn (g:=λ_=>12000) (λr _ _=>?_)) (by unfold sumR;rw[qK9];omega);have hr:=MY.1 (h.row_rng r);rw[qGQ];split<;>omega
end Saw
end Go.SL

namespace Go.SL
theorem qFk {ε σ:Type} (N:Nat) (L:Nat->σ->Int->Option (ε⊕Unit)) (bad:Nat->Option ε) (st:Nat->σ) (hN:N<=1000000000)
  (h0:∀n i,i<N->(∀j,j<i->bad j=none)->L (n+1) (st i) (i:Int)=match bad i with|some e=>some (.inl e)|none=>L n (st (i+1)) ((i+1:Nat):Int))
  (h1:∀n,L (n+1) (st N) (N:Int)=some (.inr ())):L FUEL (st 0) 0=some (findN bad 0 N):=by
 have key:∀k n x,x+k=N->k<n->(∀j,j<x->bad j=none)->L n (st x) (x:Int)=some (findN bad x k):=by
  intro k
  induction k with
  |zero=>
   intro n x hx hn hb;obtain⟨n,rfl⟩:∃m,n=m+1:=⟨n-1,by omega⟩
   rw[ub] at hx;subst hx;exact h1 n
  |succ k ih=>
   intro n x hx hn hb;obtain⟨n,rfl⟩:∃m,n=m+1:=⟨n-1,by omega⟩
   rw[h0 n x (by omega) hb,findN];cases hc:bad x with
   |some e=>rfl
   |none=>
    exact ih n (x+1) (by omega) (by omega) (λj hj=>by
     by_cases e:j=x
     ·subst e;exact hc
     ·exact hb j (by omega))
 exact key N FUEL 0 (by omega) (by rw[yT];omega) (λj hj=>by omega)
namespace Saw
def wB (l:List qG) (k:Nat):Int:=sumN k (λi=>(l.getD i du).Len)
theorem wY (l:List qG) (k:Nat):wB l (k+1)=wB l k+(l.getD k du).Len:=rfl
def badSl (l:List qG) (i:Nat):Option Int:=
 if KL (l.getD i du).Sec≠0 then some (KL (l.getD i du).Sec)
 else if(l.getD i du).Sec.Rows.length=0 then some 18
 else if(l.getD i du).Len<1\/20000-wB l i<(l.getD i du).Len then some 9 else none
theorem qFW {l:List qG} {i:Nat}:badSl l i=none↔VS (l.getD i du).Sec/\(l.getD i du).Sec.Rows≠[]/\1<=(l.getD i du).Len/\wB l (i+1)<=20000:=by
 unfold badSl;rw[<-chk10_zero,wY];by_cases h1:KL (l.getD i du).Sec≠0
 ·rw[if_pos h1];exact⟨λh=>(by cases h),λh=>absurd h.1 h1⟩
 rw[if_neg h1];have h1':KL (l.getD i du).Sec=0:=by omega
 by_cases h2:(l.getD i du).Sec.Rows.length=0
 ·rw[if_pos h2];exact⟨λh=>(by cases h),λh=>absurd (List.length_eq_zero_iff.1 h2) h.2.1⟩
 rw[if_neg h2];have h2':(l.getD i du).Sec.Rows≠[]:=λe=>h2 (by rw[e];rfl);by_cases h3:(l.getD i du).Len<1\/20000-wB l i<(l.getD i du).Len
 ·rw[if_pos h3];simp only[reduceCtorEq,false_iff];rintro⟨_,_,a,b⟩;omega
 ·rw[if_neg h3];simp only[true_iff];exact⟨h1',h2',by omega,by omega⟩
theorem qMO {l:List qG} {i:Nat} {e:Int} (h:badSl l i=some e):e≠0:=by
 unfold badSl at h;split at h
 ·cases h;assumption
 ·split at h
  ·cases h;decide
  ·split at h
   ·cases h;decide
   ·cases h
theorem qBr {l:List qG}:∀{i:Nat},(∀j,j<i->badSl l j=none)->(i:Int)<=wB l i/\wB l i<=20000
 |0,_=>⟨by simp[wB,sumN],by simp[wB,sumN]⟩
 |i+1,h=>by
  have a:=qFW.1 (h i (by omega));have b:=qBr (i:=i) (λj hj=>h j (by omega));rw[wY] at*;exact⟨by omega,a.2.2.2⟩
def FC (l:List qG):Int:=if l.length=0 then 3 else if 24<l.length then 4 else match findN (badSl l) 0 l.length with| .inl e=>e| .inr _=>0
theorem qJ4 (l:List qG) (h:l.length<=24):QI l FUEL 0 0=some (findN (badSl l) 0 l.length)/\WZ l FUEL 0 0=some (findN (badSl l) 0 l.length):=by
 constructor
 ·refine qFk l.length (QI l) (badSl l) (wB l) (by omega) (λn i hi hb=>?_) (λn=>?_)
  ·have b:=qBr hb;rw[QI,ka (by omega),zH (by omega)];simp only[ki,ks,(qEJ _).1,kg,DY,zM (show i<4611686018427387904 by omega)];rw[qY (n:=20000-wB l i) (by omega)];unfold badSl;by_cases h1:KL (l.getD i du).Sec≠0
   ·rw[if_pos h1,show(KL (l.getD i du).Sec !=0)=true by rw[uq];exact h1];rfl
   rw[if_neg h1,show(KL (l.getD i du).Sec !=0)=false by rw[uV];omega];by_cases h2:(l.getD i du).Sec.Rows.length=0
   ·rw[if_pos h2,h2];rfl
   rw[if_neg h2,show(((l.getD i du).Sec.Rows.length:Int)==0)=false by rw[ua];omega];by_cases h3:(l.getD i du).Len<1
   ·rw[if_pos (.inl h3),ka h3];rfl
   rw[kd h3];by_cases h4:20000-wB l i<(l.getD i du).Len
   ·rw[if_pos (.inr h4),ka (show(l.getD i du).Len>20000-wB l i from h4)];rfl
   rw[if_neg (by omega),kd (show¬(l.getD i du).Len>20000-wB l i from h4),wY,qY (by omega)];rfl
  ·rw[QI,kd (by omega)];rfl
 ·refine qFk l.length (WZ l) (badSl l) (wB l) (by omega) (λn i hi hb=>?_) (λn=>?_)
  ·have b:=qBr hb;rw[WZ,ka (by omega),zH (by omega)];simp only[ki,ks,(qEJ _).2,kg,MW,zM (show i<4611686018427387904 by omega)];rw[qY (n:=20000-wB l i) (by omega)];unfold badSl;by_cases h1:KL (l.getD i du).Sec≠0
   ·rw[if_pos h1,show(KL (l.getD i du).Sec !=0)=true by rw[uq];exact h1];rfl
   rw[if_neg h1,show(KL (l.getD i du).Sec !=0)=false by rw[uV];omega];by_cases h2:(l.getD i du).Sec.Rows.length=0
   ·rw[if_pos h2,h2];rfl
   rw[if_neg h2,show(((l.getD i du).Sec.Rows.length:Int)==0)=false by rw[ua];omega];by_cases h3:(l.getD i du).Len<1
   ·rw[if_pos (.inl h3),ka h3];rfl
   rw[kd h3];by_cases h4:20000-wB l i<(l.getD i du).Len
   ·rw[if_pos (.inr h4),ka (show(l.getD i du).Len>20000-wB l i from h4)];rfl
   rw[if_neg (by omega),kd (show¬(l.getD i du).Len>20000-wB l i from h4),wY,qY (by omega)];rfl
  ·rw[WZ,kd (by omega)];rfl
theorem qBz (l:List qG):XF l=some (FC l)/\CN l=some (FC l):=by
 unfold XF CN FC;by_cases h0:l.length=0
 ·rw[if_pos h0,h0];exact⟨rfl,rfl⟩
 rw[if_neg h0,show((l.length:Int)==0)=false by rw[ua];omega];by_cases h1:24<l.length
 ·rw[if_pos h1,ka (by omega)];exact⟨rfl,rfl⟩
 rw[if_neg h1,kd (by omega)];simp only[kp];rw[(qJ4 l (by omega)).1,(qJ4 l (by omega)).2];cases findN (badSl l) 0 l.length<;>exact⟨rfl,rfl⟩
structure VSol (l:List qG):Prop where
 ne:0<l.length
 len:l.length<=24
 ok:∀i,i<l.length->badSl l i=none
theorem FZ (l:List qG):FC l=0↔VSol l:=by
 unfold FC;by_cases h0:l.length=0
 ·rw[if_pos h0];exact⟨λh=>absurd h (by decide),λh=>by have:=h.ne;omega⟩
 rw[if_neg h0];by_cases h1:24<l.length
 ·rw[if_pos h1];exact⟨λh=>absurd h (by decide),λh=>by have:=h.len;omega⟩
 rw[if_neg h1];cases hf:findN (badSl l) 0 l.length with
 |inl e=>
  obtain⟨i,a,b,c,d⟩:=YX hf;simp only;exact⟨λh=>absurd h (qMO c),λh=>by rw[h.ok i (by omega)] at c;cases c⟩
 |inr u=>exact⟨λ_=>⟨by omega,by omega,λi hi=>TT.1 hf i (by omega) (by omega)⟩,λ_=>rfl⟩
theorem VSol.at {l:List qG} (h:VSol l) {i:Nat} (hi:i<l.length):VS (l.getD i du).Sec/\(l.getD i du).Sec.Rows≠[]/\1<=(l.getD i du).Len/\wB l (i+1)<=20000:=qFW.1 (h.ok i hi)
theorem VSol.bd {l:List qG} (h:VSol l) {i:Nat} (hi:i<=l.length):(i:Int)<=wB l i/\wB l i<=20000:=qBr (λj hj=>h.ok j (by omega))
theorem VSol.mono {l:List qG} (h:VSol l):∀{j:Nat},j<=l.length->∀{i:Nat},i<=j->wB l i<=wB l j
 |0,_,i,hi=>by rw[show i=0 by omega];exact kH _
 |j+1,hj,i,hi=>by
  by_cases e:i=j+1
  ·rw[e];exact kH _
  ·have:=h.mono (j:=j) (by omega) (i:=i) (by omega);have:=(h.at (i:=j) (by omega)).2.2.1;rw[wY];omega
def valL (l:List qG):List qG:=if FC l=0 then l else[]
theorem qGa (l:List qG):PZ l=some (valL l):=by
 unfold PZ valL;rw[(qBz l).1];simp only[kg];by_cases h:FC l=0
 ·rw[if_pos h,h];rfl
 ·rw[if_neg h,show(FC l !=0)=true by rw[uq];exact h];rfl
theorem qAz {l:List qG} (h:VSol l):valL l=l:=by unfold valL;rw[if_pos ((FZ l).2 h)]
def qZ (l:List qG):Int:=wB l l.length
theorem qIt {l:List qG} (h:VSol l):ZV l FUEL 0 0=some (qZ l)/\YC l FUEL 0 0=some (qZ l):=by
 have hl:=h.len;have f:∀k,WO (λi s=>s+(l.getD i du).Len) 0 k 0=wB l k:=by
  intro k
  induction k with
  |zero=>rfl
  |succ k ih=>rw[qAZ,ih,kv];rfl
 constructor
 ·have k:=(PU l.length (λn (s:Int) i=>ZV l n s i) (λi s=>s+(l.getD i du).Len) (λs=>s) (λi s=>s=wB l i) 0 (by omega) (by omega) (λn i s hi hs=>by
   have b:=h.bd (i:=i) (by omega);have b':=h.bd (i:=i+1) (by omega);rw[wY] at b';refine⟨?_,by rw[hs,wY]⟩;rw[ZV,ka (by omega),zH (by omega)];simp only[ki,ks,zM (show i<4611686018427387904 by omega)];rw[qY (by omega)]) (λn s _=>by rw[ZV,kd (by omega)];rfl) 0 rfl).1
  rw[uv,f] at k;exact k
 ·have k:=(PU l.length (λn (s:Int) i=>YC l n s i) (λi s=>s+(l.getD i du).Len) (λs=>s) (λi s=>s=wB l i) 0 (by omega) (by omega) (λn i s hi hs=>by
   have b:=h.bd (i:=i) (by omega);have b':=h.bd (i:=i+1) (by omega);rw[wY] at b';refine⟨?_,by rw[hs,wY]⟩;rw[YC,ka (by omega),zH (by omega)];simp only[ki,ks,zM (show i<4611686018427387904 by omega)];rw[qY (by omega)]) (λn s _=>by rw[YC,kd (by omega)];rfl) 0 rfl).1
  rw[uv,f] at k;exact k
theorem qHD (l:List qG):RO l=some (qZ (valL l))/\qCa l=some (qZ (valL l)):=by
 unfold RO qCa;rw[qGa,(qBz l).2];simp only[kg];by_cases h:FC l=0
 ·have v:=(FZ l).1 h;rw[qAz v,h,(qIt v).1,(qIt v).2];exact⟨rfl,rfl⟩
 ·have e:valL l=[]:=by unfold valL;rw[if_neg h]
  rw[e,show(FC l !=0)=true by rw[uq];exact h];constructor
  ·rw[yT];rfl
  ·rfl
def ext (l:List qG) (i:Nat):Span:=⟨wB l i,wB l (i+1)⟩
theorem qFH {α:Type} [Inhabited α] (f:Nat->α) {n i:Nat} (h:i<n):((List.range n).map f).getD i du=f i:=by
 rw[ke,kD,uU h];rfl
theorem qKI {l:List qG} (h:VSol l\/l=[]):UN l=some ((List.range l.length).map (ext l)):=by
 unfold UN;rcases h with h|h
 ·have hl:=h.len;rw[qLE (by omega) (by omega),ks];simp only[ki];have k:=PU l.length (λn (s:List Span×Int) i=>JF l n s.1 s.2 i) (λi s=>(s.1.set i (ext l i),wB l (i+1))) (λs=>s.1)
   (λi s=>s.1.length=l.length/\s.2=wB l i/\∀j,j<i->s.1.getD j du=ext l j) 0 (by omega) (by omega)
   (λn i s hi hs=>by
    obtain⟨s1,s2⟩:=s;obtain⟨e1,e2,e3⟩:=hs;simp only at e1 e2 e3;have b:=h.bd (i:=i) (by omega);have b':=h.bd (i:=i+1) (by omega);refine⟨?_,by simpa using e1,rfl,λj hj=>?_⟩
    ·simp only;rw[JF,ka (by omega),zH (by omega),zH (by omega)];simp only[ki,ks,zM (show i<4611686018427387904 by omega),e2];rw[wY] at b';rw[qY (by omega)];rfl
    ·simp only;by_cases c:j=i
     ·subst c;rw[qJS _ (by omega)]
     ·rw[qJQ _ (λe=>c e.symm),e3 j (by omega)])
   (λn s _=>by rw[JF,kd (by omega)];rfl) (List.replicate l.length (Span.mk 0 0),0) ⟨by simp,rfl,λj hj=>by omega⟩
  obtain⟨k1,k2,k3,k4⟩:=k;simp only[uv] at k1 k2 k3 k4;rw[show((0:Nat):Int)=0 from rfl] at k1;rw[k1];simp only[kg]
  congr 1
  refine qMA (by simp[k2]) (λj hj=>?_);rw[k2] at hj;rw[k4 j hj,qFH _ hj]
 ·subst h;rw[qLE (by simp) (by simp)];rw[yT];rfl
theorem mx_b' {x y:Span} {M:Int} (h:x.B-x.A<=M) (h0:0<=M):(nrm (mxS x y)).B-(nrm (mxS x y)).A<=M:=by
 unfold nrm;cases he:empS (mxS x y) with
 |true=>simpa using h0
 |false=>
  simp only[kp];unfold mxS;have:=VB x.A y.A;have:=imin_or x.B y.B;simp only;omega
theorem ml_eq' {x:Span} (y:Span) (h:x.B-x.A<=100000):YO (nrm (mxS x y))=some (ml x y):=by
 rw[NM (by have:=mx_b' (y:=y) h (by omega);omega),qKp];rfl
theorem qKi {l:List qG} (h:VSol l) {i:Nat} (hi:i<l.length):lenS (ext l i)=(l.getD i du).Len:=by
 have:=(h.at hi).2.2.1;rw[qGQ,show(ext l i).A=wB l i from rfl,show(ext l i).B=wB l i+(l.getD i du).Len from wY l i];rw[if_neg (by omega)];omega
def volS (l:List qG) (x y z:Span):Int:=sumN l.length (λi=>ml (ext l i) z*wI (l.getD i du).Sec x y)
theorem qIu {s:qP} (h:VS s) (x y:Span):0<=wI s x y/\wI s x y<=1440000:=⟨OT s x y,gb (qB3 s x y) (qJA h).2⟩
theorem qI7 {l:List qG} (h:VSol l) (x y z:Span) {i:Nat} (hi:i<l.length):0<=ml (ext l i) z*wI (l.getD i du).Sec x y/\ml (ext l i) z*wI (l.getD i du).Sec x y<=1440000*(l.getD i du).Len:=by
 have a:=qIu (h.at hi).1 x y;have b:=qBb (ext l i) z;have c:=qH6 (ext l i) z;rw[qKi h hi] at c;refine⟨kP b a.1,?_⟩;have:=gf c a.2 a.1 (by have:=(h.at hi).2.2.1;omega);rw[Int.mul_comm 1440000];exact this
theorem qEA {l:List qG} (h:VSol l) (x y z:Span):∀{k:Nat},k<=l.length->0<=sumN k (λi=>ml (ext l i) z*wI (l.getD i du).Sec x y)/\sumN k (λi=>ml (ext l i) z*wI (l.getD i du).Sec x y)<=1440000*wB l k
 |0,_=>by simp[sumN,wB]
 |k+1,hk=>by
  have a:=qEA h x y z (k:=k) (by omega);have b:=qI7 h x y z (i:=k) (by omega);rw[wY];simp only[sumN];omega
theorem qIg {l:List qG} (h:VSol l) (x y z:Span):0<=volS l x y z/\volS l x y z<=28800000000:=by
 have a:=qEA h x y z (ko l.length);have b:=(h.bd (ko l.length)).2;exact⟨a.1,gb a.2 (by omega)⟩
theorem qI4 {l:List qG} (h:VSol l) (b:Box):DE l b=some (volS l b.X b.Y b.Z):=by
 have hl:=h.len;unfold DE;rw[qGa,qAz h];simp only[kg];rw[qKI (.inl h)];simp only[kg];have hlen:((List.range l.length).map (ext l)).length=l.length:=by simp
 have k:=(PU l.length (λn (s:Int) i=>QR b l ((List.range l.length).map (ext l)) n s i) (λi s=>s+ml (ext l i) b.Z*wI (l.getD i du).Sec b.X b.Y) (λs=>s)
  (λi s=>s=sumN i (λi=>ml (ext l i) b.Z*wI (l.getD i du).Sec b.X b.Y)) 0 (by omega) (by omega)
  (λn i s hi hs=>by
   have p:=qEA h b.X b.Y b.Z (k:=i) (by omega);have t:=qI7 h b.X b.Y b.Z hi;have bd:=h.bd (i:=i) (by omega);have at':=(h.at hi).2.2;rw[wY] at at';refine⟨?_,by rw[hs];rfl⟩;rw[QR,hlen,ka (by omega),zH (by omega)];simp only[ki,ks,zM (show i<4611686018427387904 by omega),qFH _ hi,zbQ,kg,VO];rw[ml_eq' b.Z (show(ext l i).B-(ext l i).A<=100000 by rw[show(ext l i).A=wB l i from rfl,show(ext l i).B=wB l i+(l.getD i du).Len from wY l i];omega)];simp only[kg,qHo];rw[qED (h.at hi).1];by_cases c:ml (ext l i) b.Z>0
   ·rw[ka c];simp only[ki];rw[qY (n:=ml (ext l i) b.Z*wI (l.getD i du).Sec b.X b.Y) (by omega),qY (by omega)]
   ·have z:ml (ext l i) b.Z=0:=by have:=qBb (ext l i) b.Z;omega
    rw[kd c,z];simp)
  (λn s _=>by rw[QR,hlen,kd (by omega)];rfl) 0 rfl)
 rw[show((0:Nat):Int)=0 from rfl] at k;rw[k.1];simp only[kg];exact congrArg some k.2
end Saw
end Go.SL
