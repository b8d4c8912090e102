/- The sections' mathematics (turned from the section seat's texts by mkesec.py). -/
import Derived.Test.YtidlfgiogdjkaaaGreatDoorEMa1
set_option linter.unusedVariables false
set_option linter.unusedSimpArgs false
namespace Go.SL
namespace Saw
def empS (s:Span):Bool:=decide (s.B<=s.A)
def rngS (s:Span):Bool:=(decide (-600<=s.A)&&decide (s.A<=600))&&(decide (-600<=s.B)&&decide (s.B<=600))
def qD2 (s:Span):Bool:=(s.A==0)&&(s.B==0)
theorem IB {s:Span}:rngS s=true↔(-600<=s.A/\s.A<=600)/\(-600<=s.B/\s.B<=600):=by unfold rngS;simp
theorem OQ (s:Span):QZ s=some (empS s):=rfl
theorem qDd (s:Span):IW s=some (empS s):=rfl
theorem qFN (s:Span):KS s=some (rngS s):=by
 have e:rngS s=(decide (imin s.A s.B≥-600)&&decide (imax s.A s.B<=600)):=by
  rw[Bool.eq_iff_iff,IB,Bool.and_eq_true,decide_eq_true_eq,decide_eq_true_eq,ge_iff_le,le_imin,qRF];omega
 unfold KS PQ;rw[e];cases decide (imin s.A s.B≥-600)<;>rfl
theorem qJj (n:Int):EB n=some (!(decide (-600<=n)&&decide (n<=600))):=by
 unfold EB SS;by_cases h1:n< -600
 ·rw[decide_eq_true h1,decide_eq_false (show¬-600<=n by omega)];rfl
 ·rw[decide_eq_false h1,decide_eq_true (show-600<=n by omega)];by_cases h2:n>600
  ·rw[decide_eq_true h2,decide_eq_false (show¬n<=600 by omega)];rfl
  ·rw[decide_eq_false h2,decide_eq_true (show n<=600 by omega)];rfl
def bad9 (s:Span):Option Int:=bif rngS s then none else some 9
def bad19 (s:Span):Option Int:=bif empS s&&!qD2 s then some 19 else none
def qJF (s:qJ):Int:=
 match findE bad9 s.Rows with
 | .inl e=>e
 | .inr _=>
  if s.Rows.length=0 then(if s.Low=0 then 0 else 19)
  else if empS (s.Rows.getD 0 default)=true\/empS (s.Rows.getD (s.Rows.length-1) default)=true then 19
  else match findE bad19 s.Rows with
   | .inl e=>e
   | .inr _=>0
def KC (s:qJ):Int:=if 120<s.Rows.length then 4 else if s.Low< -60\/60-(s.Rows.length:Int)<s.Low then 9 else qJF s
theorem chk_L (s:qJ) (hl:s.Rows.length<=120):QH s FUEL 0=some (findE bad9 s.Rows)/\jD s FUEL 0=some (findE bad19 s.Rows)/\WN s FUEL 0=some (findE bad9 s.Rows)/\WH s FUEL 0=some (findE bad19 s.Rows):=by
 have e1:∀(l:List Span) (x:Nat),(l.length:Nat)<1000->x<l.length->decide ((x:Int)<((l.length:Nat):Int))=true/\inb (x:Int) l.length=true/\w64 ((x:Int)+1)=((x+1:Nat):Int):=λl x h hx=>⟨decide_eq_true (by omega),qK (by omega) (by omega),qP (by omega)⟩
 refine⟨KN s.Rows (QH s) bad9 (by omega) (λn x hx=>?_) (λn=>?_),KN s.Rows (jD s) bad19 (by omega) (λn x hx=>?_) (λn=>?_),KN s.Rows (WN s) bad9 (by omega) (λn x hx=>?_) (λn=>?_),KN s.Rows (WH s) bad19 (by omega) (λn x hx=>?_) (λn=>?_)⟩
 ·obtain⟨a1,a2,a3⟩:=e1 s.Rows x (by omega) hx;rw[QH];simp only[a1,a2,a3,cond_true,Int.toNat_natCast,qFN,Option.bind_some,bad9];cases rngS (s.Rows.getD x default)<;>rfl
 ·unfold QH;simp
 ·obtain⟨a1,a2,a3⟩:=e1 s.Rows x (by omega) hx;rw[jD];simp only[UK,a1,a2,a3,cond_true,Int.toNat_natCast,OQ,Option.bind_some,bad19,qD2,Bool.and_true];cases empS (s.Rows.getD x default)<;>cases ((s.Rows.getD x default).A==0&&(s.Rows.getD x default).B==0)<;>rfl
 ·unfold jD;simp
 ·obtain⟨a1,a2,a3⟩:=e1 s.Rows x (by omega) hx;rw[WN];simp only[AV,a1,a2,a3,cond_true,Int.toNat_natCast,qJj,Option.bind_some,bad9,rngS];cases (decide (-600<=(s.Rows.getD x default).A)&&decide ((s.Rows.getD x default).A<=600))<;>cases (decide (-600<=(s.Rows.getD x default).B)&&decide ((s.Rows.getD x default).B<=600))<;>rfl
 ·unfold WN;simp
 ·obtain⟨a1,a2,a3⟩:=e1 s.Rows x (by omega) hx;rw[WH];simp only[ES,a1,a2,a3,cond_true,Int.toNat_natCast,qDd,Option.bind_some,bad19,qD2,Bool.and_true];cases empS (s.Rows.getD x default)<;>cases ((s.Rows.getD x default).A==0&&(s.Rows.getD x default).B==0)<;>rfl
 ·unfold WH;simp
theorem qHz (s:qJ):KF s=some (KC s)/\qCT s=some (KC s):=by
 unfold KF qCT KC;by_cases h:120<s.Rows.length
 ·rw[decide_eq_true (show((s.Rows.length:Nat):Int)>120 by omega),if_pos h];exact⟨rfl,rfl⟩
 rw[decide_eq_false (show¬((s.Rows.length:Nat):Int)>120 by omega),if_neg h,qF (by omega) (by omega)];simp only[cond_false];obtain⟨l1,l2,l3,l4⟩:=chk_L s (by omega);by_cases h1:s.Low< -60
 ·rw[decide_eq_true h1,if_pos (.inl h1)];exact⟨rfl,rfl⟩
 rw[decide_eq_false h1];by_cases h2:60-(s.Rows.length:Int)<s.Low
 ·rw[decide_eq_true (show s.Low>_ from h2),if_pos (.inr h2)];exact⟨rfl,rfl⟩
 rw[decide_eq_false (show¬s.Low>_ from h2),if_neg (by omega)];unfold UQ ET UT AG qJF;simp only[cond_false,l1,l2,l3,l4,Option.bind_some,OQ,qDd];cases findE bad9 s.Rows with
 |inl e=>exact⟨rfl,rfl⟩
 |inr u=>
  simp only[Sum.elim_inr];by_cases h0:s.Rows.length=0
  ·rw[if_pos h0,h0];by_cases hw:s.Low=0
   ·rw[if_pos hw,hw];exact⟨rfl,rfl⟩
   ·rw[if_neg hw];have:(s.Low !=0)=true:=by simpa using hw
    simp[this]
  ·rw[if_neg h0];have e0:(((s.Rows.length:Nat):Int)==0)=false:=by rw[beq_eq_false_iff_ne];omega
   have e1:w64 (((s.Rows.length:Nat):Int)-1)=((s.Rows.length-1:Nat):Int):=by rw[qF (by omega) (by omega)];omega
   rw[e0,qK (by omega) (by omega),e1,qK (by omega) (by omega)];simp only[cond_false,cond_true,Int.toNat_zero,Int.toNat_natCast];cases hf:empS (s.Rows.getD 0 default) with
   |true=>simp
   |false=>cases hg:empS (s.Rows.getD (s.Rows.length-1) default) with
    |true=>simp
    |false=>
     simp only[cond_false,Bool.false_eq_true,or_self,if_false];cases findE bad19 s.Rows<;>exact⟨rfl,rfl⟩
def nilS :qJ:=⟨0,[]⟩
def IJ (s:qJ):qJ:=if KC s=0 then s else nilS
theorem qNF (s:qJ):JY s=some (IJ s):=by
 unfold JY IJ;rw[(qHz s).1];simp only[Option.bind_some];by_cases h:KC s=0
 ·rw[h];rfl
 ·have:(KC s !=0)=true:=by simpa using h
  rw[this,if_neg h];rfl
def nrm (x:Span):Span:=bif empS x then⟨0,0⟩ else x
theorem qOU (x:Span):empS (nrm x)=empS x:=by
 unfold nrm;cases h:empS x with
 |true=>rfl
 |false=>simpa using h
theorem qP5 {x:Span} (h:empS x=false):nrm x=x:=by unfold nrm;rw[h];rfl
theorem nrm_emp {x:Span} (h:empS x=true):nrm x=⟨0,0⟩:=by unfold nrm;rw[h];rfl
def row (s:qJ) (r:Int):Span:=if r<s.Low then⟨0,0⟩ else s.Rows.getD (r-s.Low).toNat default
structure Trim (s:qJ):Prop where
 nil:s.Rows=[]->s.Low=0
 first:s.Rows≠[]->empS (s.Rows.getD 0 default)=false
 last:s.Rows≠[]->empS (s.Rows.getD (s.Rows.length-1) default)=false
theorem qGc {α:Type} [Inhabited α] {l:List α} {i:Nat} (h:l.length<=i):l.getD i default=default:=by
 rw[List.getD_eq_getElem?_getD,List.getElem?_eq_none h];rfl
theorem row_at {s:qJ} {i:Nat}:row s (s.Low+i)=s.Rows.getD i default:=by
 unfold row;rw[if_neg (by omega)]
 congr 1
 omega
structure VS (s:qJ):Prop extends Trim s where
 len:s.Rows.length<=120
 low: -60<=s.Low
 high:s.Low+s.Rows.length<=60
 rng:∀x∈s.Rows,rngS x=true
 zero:∀x∈s.Rows,empS x=true->x=⟨0,0⟩
theorem qQw {x:Span}:bad9 x=none↔rngS x=true:=by unfold bad9;cases rngS x<;>simp
theorem zeroS_iff {x:Span}:qD2 x=true↔x=⟨0,0⟩:=by unfold qD2;cases x;simp
theorem qHZ {x:Span}:bad19 x=none↔(empS x=true->x=⟨0,0⟩):=by
 unfold bad19;cases h:empS x with
 |false=>simp
 |true=>cases hz:qD2 x with
  |true=>simp[zeroS_iff.1 hz]
  |false=>simp;intro e;rw[zeroS_iff.2 e] at hz;cases hz
theorem qCc {ε α:Type} {bad:α->Option ε} {l:List α} {e:ε} (h:findE bad l= .inl e):∃a∈l,bad a=some e:=by
 induction l with
 |nil=>cases h
 |cons a l ih=>
  unfold findE at h;cases hb:bad a with
  |some e'=>rw[hb] at h;cases h;exact⟨a,by simp,hb⟩
  |none=>rw[hb] at h;obtain⟨x,hx,hx'⟩:=ih h;exact⟨x,List.mem_cons_of_mem _ hx,hx'⟩
theorem chk10_zero (s:qJ):KC s=0↔VS s:=by
 unfold KC;by_cases h:120<s.Rows.length
 ·rw[if_pos h];exact⟨λh=>absurd h (by decide),λhv=>by have:=hv.len;omega⟩
 rw[if_neg h];by_cases h1:s.Low< -60\/60-(s.Rows.length:Int)<s.Low
 ·rw[if_pos h1];exact⟨λh=>absurd h (by decide),λhv=>by have:=hv.low;have:=hv.high;omega⟩
 rw[if_neg h1];unfold qJF;cases h9:findE bad9 s.Rows with
 |inl e=>
  obtain⟨a,ha,hb⟩:=qCc h9;have e9:e=9/\rngS a=false:=by unfold bad9 at hb;cases hr:rngS a<;>rw[hr] at hb<;>simp at hb;exact⟨hb.symm,rfl⟩
  simp only;refine⟨λh=>by omega,λhv=>?_⟩;have:=hv.rng a ha;rw[e9.2] at this;cases this
 |inr u=>
  have hr:∀x∈s.Rows,rngS x=true:=λx hx=>qQw.1 (UM.1 h9 x hx);simp only;by_cases h0:s.Rows.length=0
  ·have en:s.Rows=[]:=List.length_eq_zero_iff.1 h0;rw[if_pos h0];by_cases hw:s.Low=0
   ·rw[if_pos hw];exact⟨λ_=>⟨⟨λ_=>hw,λh=>absurd en h,λh=>absurd en h⟩,by omega,by omega,by omega,hr,λx hx=>by rw[en] at hx;cases hx⟩,λ_=>rfl⟩
   ·rw[if_neg hw];exact⟨λh=>absurd h (by decide),λhv=>absurd (hv.nil en) hw⟩
  ·rw[if_neg h0];have hne:s.Rows≠[]:=λe=>h0 (by rw[e];rfl);by_cases hf:empS (s.Rows.getD 0 default)=true\/empS (s.Rows.getD (s.Rows.length-1) default)=true
   ·rw[if_pos hf];refine⟨λh=>absurd h (by decide),λhv=>?_⟩;rcases hf with hf|hf
    ·rw[hv.first hne] at hf;cases hf
    ·rw[hv.last hne] at hf;cases hf
   ·rw[if_neg hf];have f1:empS (s.Rows.getD 0 default)=false:=by simpa using λh=>hf (.inl h)
    have f2:empS (s.Rows.getD (s.Rows.length-1) default)=false:=by simpa using λh=>hf (.inr h)
    cases h19:findE bad19 s.Rows with
    |inl e=>
     obtain⟨a,ha,hb⟩:=qCc h19;simp only;have e19:e=19:=by unfold bad19 at hb;cases hr:(empS a&&!qD2 a)<;>rw[hr] at hb<;>simp at hb;exact hb.symm
     refine⟨λh=>by omega,λhv=>?_⟩;have:=qHZ.2 (hv.zero a ha);rw[this] at hb;cases hb
    |inr u'=>
     exact⟨λ_=>⟨⟨λe=>absurd e hne,λ_=>f1,λ_=>f2⟩,by omega,by omega,by omega,hr,λx hx=>qHZ.1 (UM.1 h19 x hx)⟩,λ_=>rfl⟩
theorem VS_nil :VS nilS:=(chk10_zero nilS).1 rfl
theorem qMj (s:qJ):VS (IJ s):=by
 unfold IJ;split
 ·rename_i h;exact(chk10_zero s).1 h
 ·exact VS_nil
theorem qHD {s:qJ} (h:VS s):IJ s=s:=by unfold IJ;rw[if_pos ((chk10_zero s).2 h)]
theorem VS.row_rng {s:qJ} (h:VS s) (r:Int):rngS (row s r)=true:=by
 unfold row;split
 ·rfl
 ·by_cases hi:(r-s.Low).toNat<s.Rows.length
  ·exact h.rng _ (wL hi)
  ·rw[qGc (by omega)];rfl
def mxS (x y:Span):Span:=⟨imax x.A y.A,imin x.B y.B⟩
theorem qBv (x y:Span):YW x y=some (nrm (mxS x y)):=by
 unfold YW nrm mxS empS;simp only[ge_iff_le];cases decide (imin x.B y.B<=imax x.A y.A)<;>rfl
def lenS (x:Span):Int:=bif empS x then 0 else x.B-x.A
theorem qMJ (n:Int):IntKind.u64.wrap n=n % 18446744073709551616:=by
 unfold IntKind.wrap;simp only[IntKind.bits,IntKind.signed,Bool.false_and];simp
theorem FW {x:Span} (h:x.B-x.A<=9223372036854775807):YD x=some (lenS x):=by
 unfold YD qCa SG lenS empS;by_cases he:x.B<=x.A
 ·rw[decide_eq_true (show x.A≥x.B from he)];rfl
 ·rw[decide_eq_false (show¬x.A≥x.B from he),qMJ,qMJ,qMJ];simp only[cond_false,Option.bind_some];rw[show(x.B % 18446744073709551616-x.A % 18446744073709551616) % 18446744073709551616=x.B-x.A by omega];have:imin (x.B-x.A) 9223372036854775807=x.B-x.A:=by have:=imin_or (x.B-x.A) 9223372036854775807;omega
  rw[this,qF (by omega) (by omega)]
theorem qOt (x:Span):lenS (nrm x)=lenS x:=by
 unfold lenS;rw[qOU];cases h:empS x with
 |true=>rfl
 |false=>rw[qP5 h]
theorem len_nn (x:Span):0<=lenS x:=by unfold lenS empS;by_cases h:x.B<=x.A<;>simp[h];omega
def ml (x y:Span):Int:=lenS (mxS x y)
theorem ml_b {x:Span} (y:Span) (h:rngS x=true):0<=ml x y/\ml x y<=1200/\ml x y<=lenS x:=by
 rw[IB] at h;have a1:=WP x.A y.A;have a2:=imin_or x.B y.B;unfold ml lenS empS mxS;simp only;by_cases c:imin x.B y.B<=imax x.A y.A
 ·rw[decide_eq_true c];by_cases c2:x.B<=x.A
  ·rw[decide_eq_true c2];simp
  ·rw[decide_eq_false c2];simp;omega
 ·rw[decide_eq_false c,decide_eq_false (show¬x.B<=x.A by omega)];simp only[cond_false];omega
theorem mx_b {x y:Span} (h:rngS x=true):(nrm (mxS x y)).B-(nrm (mxS x y)).A<=1200:=by
 cases he:empS (mxS x y) with
 |true=>rw[nrm_emp he];decide
 |false=>
  rw[qP5 he];rw[IB] at h;have a1:=WP x.A y.A;have a2:=imin_or x.B y.B;unfold mxS;simp only;omega
theorem ml_eq {x:Span} (y:Span) (h:rngS x=true):YD (nrm (mxS x y))=some (ml x y):=by
 have:=mx_b (y:=y) h;rw[FW (by omega),qOt];rfl
def hgt (r:Int):Span:=⟨10*r,10*(r+1)⟩
theorem qOT {r:Int} (h1: -60<=r) (h2:r<60):rngS (hgt r)=true:=by rw[IB];unfold hgt;simp only;omega
theorem hgt_len (r:Int):lenS (hgt r)=10:=by unfold lenS empS hgt;simp only;rw[decide_eq_false (by omega)];simp only[cond_false];omega
theorem hgt_eq {r:Int} (h1: -60<=r) (h2:r<60):JN r (w64 (r+1))=some (hgt r):=by
 unfold JN hgt;rw[qF (n:=r+1) (by omega) (by omega),qF (by omega) (by omega),qF (by omega) (by omega)]
def sumR (f:Int->Int):Int:=sumN 120 (λj=>f ((j:Int)-60))
theorem qA1 {f g:Int->Int} (h:∀r,-60<=r->r<60->f r=g r):sumR f=sumR g:=WZ (λi hi=>h _ (by omega) (by omega))
theorem qNb {s:qJ} (h:VS s) (F:Int->Span->Int) (h0:∀r,F r ⟨0,0⟩=0):sumN s.Rows.length (λi=>F (s.Low+i) (s.Rows.getD i default))=sumR (λr=>F r (row s r)):=by
 have b1:=h.low;have b2:=h.high;have b3:=h.len;unfold sumR;have e:120=(s.Low+60).toNat+(s.Rows.length+(120-(s.Low+60).toNat-s.Rows.length)):=by omega
 rw[e,qEi,qEi];have z1:sumN (s.Low+60).toNat (λj=>F ((j:Int)-60) (row s ((j:Int)-60)))=0:=CD (λi hi=>by
  have:row s ((i:Int)-60)=⟨0,0⟩:=by unfold row;rw[if_pos (by omega)]
  rw[this,h0])
 have z2:sumN (120-(s.Low+60).toNat-s.Rows.length) (λi=>F ((((s.Low+60).toNat+(s.Rows.length+i):Nat):Int)-60) (row s ((((s.Low+60).toNat+(s.Rows.length+i):Nat):Int)-60)))=0:=CD (λi hi=>by
  have:row s ((((s.Low+60).toNat+(s.Rows.length+i):Nat):Int)-60)=⟨0,0⟩:=by
   unfold row;rw[if_neg (by omega),qGc (by omega)];rfl
  rw[this,h0])
 have z3:sumN s.Rows.length (λi=>F ((((s.Low+60).toNat+i:Nat):Int)-60) (row s ((((s.Low+60).toNat+i:Nat):Int)-60)))=sumN s.Rows.length (λi=>F (s.Low+i) (s.Rows.getD i default)):=WZ (λi hi=>by
  have:(((s.Low+60).toNat+i:Nat):Int)-60=s.Low+i:=by omega
  rw[this,row_at])
 rw[z1,z3];rw[z2];omega
def NE (s:qJ):Int:=10*sumR (λr=>lenS (row s r))
def zC (s:qJ) (x y:Span):Int:=sumR (λr=>ml (row s r) x*ml (hgt r) y)
theorem VS.len_b {s:qJ} (h:VS s) {i:Nat} (hi:i<s.Rows.length):0<=lenS (s.Rows.getD i default)/\lenS (s.Rows.getD i default)<=1200/\(s.Rows.getD i default).B-(s.Rows.getD i default).A=lenS (s.Rows.getD i default):=by
 have m:=wL hi;have r:=IB.1 (h.rng _ m);have z:=h.zero _ m;have e:lenS (s.Rows.getD i default)=bif empS (s.Rows.getD i default) then 0 else(s.Rows.getD i default).B-(s.Rows.getD i default).A:=rfl;cases he:empS (s.Rows.getD i default) with
 |true=>rw[z he];decide
 |false=>
  rw[he] at e;simp only[cond_false] at e;have hlt:¬(s.Rows.getD i default).B<=(s.Rows.getD i default).A:=of_decide_eq_false he;omega
theorem qK7 (s:qJ) (R:Rect):XI s R=some (zC (IJ s) R.X R.Y):=by
 have h:=qMj s;unfold XI;rw[qNF s];simp only[Option.bind_some];generalize IJ s=t at*;have b:=h.len;have b1:=h.low;have b2:=h.high;have pb:∀x,x<t.Rows.length->0<=ml (t.Rows.getD x default) R.X*ml (hgt (t.Low+x)) R.Y/\ml (t.Rows.getD x default) R.X*ml (hgt (t.Low+x)) R.Y<=1440000:=λx hx=>by
  have m1:=ml_b R.X (h.rng _ (wL hx));have m2:=ml_b R.Y (qOT (r:=t.Low+x) (by omega) (by omega));have:=ZR (a:=ml (t.Rows.getD x default) R.X) (b:=ml (hgt (t.Low+x)) R.Y) (m:=1200) (n:=1200) (by omega) (by omega) (by omega) (by omega) (by omega) (by omega);exact⟨Int.mul_nonneg m1.1 m2.1,by omega⟩
 have k1:=BN t.Rows (λn (a:Int) x=>ZN R t n a x) (λx=>(x:Int)) (λx a s=>s+ml a R.X*ml (hgt (t.Low+x)) R.Y) (λs=>s) (λx s=>0<=s/\s<=1440000*(x:Int)) (by omega)
  (λn x a hx hi=>by
   have p:=pb x hx;refine⟨?_,by omega⟩;rw[ZN,decide_eq_true (show(x:Int)<_ by omega),qK (by omega) (by omega),qP (by omega),qF (n:=t.Low+x) (by omega) (by omega),hgt_eq (r:=t.Low+x) (by omega) (by omega)];simp only[cond_true,Int.toNat_natCast,Option.bind_some,qBv];rw[ml_eq R.X (h.rng _ (wL hx)),ml_eq R.Y (qOT (r:=t.Low+x) (by omega) (by omega))];simp only[Option.bind_some];rw[qF (n:=_*_) (by omega) (by omega),qF (by omega) (by omega)])
  (λn a _=>by rw[ZN];simp) (i:=0) rfl 0 (by omega)
 rw[qCP (λx a=>ml a R.X*ml (hgt (t.Low+x)) R.Y)] at k1;have e:=qNb h (λr a=>ml a R.X*ml (hgt r) R.Y) (λr=>by
  have:ml ⟨0,0⟩ R.X=0:=by have:=ml_b (x:=⟨0,0⟩) R.X rfl;have e:lenS ⟨0,0⟩=0:=rfl;omega
  rw[this];simp)
 simp only[Nat.zero_add,Int.zero_add] at k1;rw[e] at k1;rw[k1.1];rfl
theorem qFs (x y:Span):ml x y=if imin x.B y.B<=imax x.A y.A then 0 else imin x.B y.B-imax x.A y.A:=by
 unfold ml lenS empS mxS;simp only;by_cases c:imin x.B y.B<=imax x.A y.A
 ·rw[decide_eq_true c,if_pos c];rfl
 ·rw[decide_eq_false c,if_neg c];rfl
theorem qCu (x y:Span):0<=ml x y:=len_nn _
theorem qKa (x:Span):lenS x=if x.B<=x.A then 0 else x.B-x.A:=by
 unfold lenS empS;by_cases c:x.B<=x.A
 ·rw[decide_eq_true c,if_pos c];rfl
 ·rw[decide_eq_false c,if_neg c];rfl
theorem qIb (x:Span) {A m B:Int} (h1:A<=m) (h2:m<=B):ml x ⟨A,m⟩+ml x ⟨m,B⟩=ml x ⟨A,B⟩:=by
 have a1:=imin_or x.B m;have a2:=imin_or x.B B;have a3:=WP x.A A;have a4:=WP x.A m;simp only[qFs];split<;>split<;>split<;>omega
theorem qIJ (x y:Span):ml x y<=lenS x:=by
 have a2:=imin_or x.B y.B;have a3:=WP x.A y.A;rw[qFs,qKa];split<;>split<;>omega
theorem qQc {x:Span} (y:Span) (h:empS x=true):ml x y=0:=by
 have:=qIJ x y;have:=qCu x y;have e:lenS x=0:=by unfold lenS;rw[h];rfl
 omega
theorem qNf (s:qJ):NE s=sumR (λr=>10*lenS (row s r)):=(qMX 120 10 _).symm
theorem qKc {f g:Int->Int} (h:∀r,-60<=r->r<60->f r<=g r):sumR f<=sumR g:=qJr (λi hi=>h _ (by omega) (by omega))
theorem qHO (f g:Int->Int):sumR (λr=>f r+g r)=sumR f+sumR g:=qBC 120 _ _
theorem qP6 :sumR (λ_=>0)=0:=CD (λ_ _=>rfl)
theorem qCM (s:qJ) (x y:Span):0<=zC s x y:=by
 have:=qKc (f:=λ_=>0) (g:=λr=>ml (row s r) x*ml (hgt r) y) (λr _ _=>Int.mul_nonneg (qCu _ _) (qCu _ _));rw[qP6] at this;exact this
theorem qFq (s:qJ) (x y:Span):zC s x y<=NE s:=by
 rw[qNf];refine qKc (λr _ _=>?_);have h1:=qIJ (row s r) x;have h2:=qIJ (hgt r) y;rw[hgt_len] at h2;have a:=Int.mul_le_mul_of_nonneg_left h2 (qCu (row s r) x);have b:=Int.mul_le_mul_of_nonneg_right h1 (show(0:Int)<=10 by decide);rw[Int.mul_comm 10];exact Int.le_trans a b
theorem qMw {s:qJ} (h:VS s):0<=NE s/\NE s<=1440000:=by
 constructor
 ·exact Int.le_trans (qCM s ⟨0,0⟩ ⟨0,0⟩) (qFq s _ _)
 ·rw[qNf];refine Int.le_trans (qKc (g:=λ_=>12000) (λr _ _=>?_)) (by unfold sumR;rw[qPn];omega);have hr:=IB.1 (h.row_rng r);rw[qKa];split<;>omega
def shS (dx:Int) (x:Span):Span:=bif empS x then x else⟨x.A+dx,x.B+dx⟩
theorem sh_emp (dx:Int) (x:Span):empS (shS dx x)=empS x:=by
 unfold shS;cases h:empS x with
 |true=>exact h
 |false=>
  unfold empS at h⊢;simp only[cond_false];have:=of_decide_eq_false h;exact decide_eq_false (by omega)
end Saw
end Go.SL

namespace Go.SL
theorem qIt {ε σ:Type} (N:Nat) (L:Nat->σ->Int->Option (ε⊕Unit)) (bad:Nat->Option ε) (st:Nat->σ) (hN:N<=1000000000)
  (h0:∀n i,i<N->(∀j,j<i->bad j=none)->L (n+1) (st i) (i:Int)=match bad i with|some e=>some (.inl e)|none=>L n (st (i+1)) ((i+1:Nat):Int))
  (h1:∀n,L (n+1) (st N) (N:Int)=some (.inr ())):L FUEL (st 0) 0=some (findN bad 0 N):=by
 have key:∀k n x,x+k=N->k<n->(∀j,j<x->bad j=none)->L n (st x) (x:Int)=some (findN bad x k):=by
  intro k
  induction k with
  |zero=>
   intro n x hx hn hb;obtain⟨n,rfl⟩:∃m,n=m+1:=⟨n-1,by omega⟩
   rw[Nat.add_zero] at hx;subst hx;exact h1 n
  |succ k ih=>
   intro n x hx hn hb;obtain⟨n,rfl⟩:∃m,n=m+1:=⟨n-1,by omega⟩
   rw[h0 n x (by omega) hb,findN];cases hc:bad x with
   |some e=>rfl
   |none=>
    exact ih n (x+1) (by omega) (by omega) (λj hj=>by
     by_cases e:j=x
     ·subst e;exact hc
     ·exact hb j (by omega))
 exact key N FUEL 0 (by omega) (by rw[FUEL_eq];omega) (λj hj=>by omega)
namespace Saw
def lenTo (l:List qA) (k:Nat):Int:=sumN k (λi=>(l.getD i default).Len)
theorem wI (l:List qA) (k:Nat):lenTo l (k+1)=lenTo l k+(l.getD k default).Len:=rfl
def badSl (l:List qA) (i:Nat):Option Int:=
 if KC (l.getD i default).Sec≠0 then some (KC (l.getD i default).Sec)
 else if(l.getD i default).Sec.Rows.length=0 then some 18
 else if(l.getD i default).Len<1\/20000-lenTo l i<(l.getD i default).Len then some 9 else none
theorem qIN {l:List qA} {i:Nat}:badSl l i=none↔VS (l.getD i default).Sec/\(l.getD i default).Sec.Rows≠[]/\1<=(l.getD i default).Len/\lenTo l (i+1)<=20000:=by
 unfold badSl;rw[<-chk10_zero,wI];by_cases h1:KC (l.getD i default).Sec≠0
 ·rw[if_pos h1];exact⟨λh=>(by cases h),λh=>absurd h.1 h1⟩
 rw[if_neg h1];have h1':KC (l.getD i default).Sec=0:=by omega
 by_cases h2:(l.getD i default).Sec.Rows.length=0
 ·rw[if_pos h2];exact⟨λh=>(by cases h),λh=>absurd (List.length_eq_zero_iff.1 h2) h.2.1⟩
 rw[if_neg h2];have h2':(l.getD i default).Sec.Rows≠[]:=λe=>h2 (by rw[e];rfl);by_cases h3:(l.getD i default).Len<1\/20000-lenTo l i<(l.getD i default).Len
 ·rw[if_pos h3];simp only[reduceCtorEq,false_iff];rintro⟨_,_,a,b⟩;omega
 ·rw[if_neg h3];simp only[true_iff];exact⟨h1',h2',by omega,by omega⟩
theorem qRK {l:List qA} {i:Nat} {e:Int} (h:badSl l i=some e):e≠0:=by
 unfold badSl at h;split at h
 ·cases h;assumption
 ·split at h
  ·cases h;decide
  ·split at h
   ·cases h;decide
   ·cases h
theorem qD7 {l:List qA}:∀{i:Nat},(∀j,j<i->badSl l j=none)->(i:Int)<=lenTo l i/\lenTo l i<=20000
 |0,_=>⟨by simp[lenTo,sumN],by simp[lenTo,sumN]⟩
 |i+1,h=>by
  have a:=qIN.1 (h i (by omega));have b:=qD7 (i:=i) (λj hj=>h j (by omega));rw[wI] at*;exact⟨by omega,a.2.2.2⟩
def RB (l:List qA):Int:=if l.length=0 then 3 else if 24<l.length then 4 else match findN (badSl l) 0 l.length with| .inl e=>e| .inr _=>0
theorem qOJ (l:List qA) (h:l.length<=24):yE l FUEL 0 0=some (findN (badSl l) 0 l.length)/\WL l FUEL 0 0=some (findN (badSl l) 0 l.length):=by
 constructor
 ·refine qIt l.length (yE l) (badSl l) (lenTo l) (by omega) (λn i hi hb=>?_) (λn=>?_)
  ·have b:=qD7 hb;rw[yE,decide_eq_true (by omega),qK (by omega) (by omega)];simp only[cond_true,Int.toNat_natCast,(qHz _).1,Option.bind_some,NC,qP (show i<4611686018427387904 by omega)];rw[qF (n:=20000-lenTo l i) (by omega) (by omega)];unfold badSl;by_cases h1:KC (l.getD i default).Sec≠0
   ·rw[if_pos h1,show(KC (l.getD i default).Sec !=0)=true by rw[bne_iff_ne];exact h1];rfl
   rw[if_neg h1,show(KC (l.getD i default).Sec !=0)=false by rw[bne_eq_false_iff_eq];omega];by_cases h2:(l.getD i default).Sec.Rows.length=0
   ·rw[if_pos h2,h2];rfl
   rw[if_neg h2,show((((l.getD i default).Sec.Rows.length:Nat):Int)==0)=false by rw[beq_eq_false_iff_ne];omega];by_cases h3:(l.getD i default).Len<1
   ·rw[if_pos (.inl h3),decide_eq_true h3];rfl
   rw[decide_eq_false h3];by_cases h4:20000-lenTo l i<(l.getD i default).Len
   ·rw[if_pos (.inr h4),decide_eq_true (show(l.getD i default).Len>20000-lenTo l i from h4)];rfl
   rw[if_neg (by omega),decide_eq_false (show¬(l.getD i default).Len>20000-lenTo l i from h4),wI,qF (by omega) (by omega)];rfl
  ·rw[yE,decide_eq_false (by omega)];rfl
 ·refine qIt l.length (WL l) (badSl l) (lenTo l) (by omega) (λn i hi hb=>?_) (λn=>?_)
  ·have b:=qD7 hb;rw[WL,decide_eq_true (by omega),qK (by omega) (by omega)];simp only[cond_true,Int.toNat_natCast,(qHz _).2,Option.bind_some,AY,qP (show i<4611686018427387904 by omega)];rw[qF (n:=20000-lenTo l i) (by omega) (by omega)];unfold badSl;by_cases h1:KC (l.getD i default).Sec≠0
   ·rw[if_pos h1,show(KC (l.getD i default).Sec !=0)=true by rw[bne_iff_ne];exact h1];rfl
   rw[if_neg h1,show(KC (l.getD i default).Sec !=0)=false by rw[bne_eq_false_iff_eq];omega];by_cases h2:(l.getD i default).Sec.Rows.length=0
   ·rw[if_pos h2,h2];rfl
   rw[if_neg h2,show((((l.getD i default).Sec.Rows.length:Nat):Int)==0)=false by rw[beq_eq_false_iff_ne];omega];by_cases h3:(l.getD i default).Len<1
   ·rw[if_pos (.inl h3),decide_eq_true h3];rfl
   rw[decide_eq_false h3];by_cases h4:20000-lenTo l i<(l.getD i default).Len
   ·rw[if_pos (.inr h4),decide_eq_true (show(l.getD i default).Len>20000-lenTo l i from h4)];rfl
   rw[if_neg (by omega),decide_eq_false (show¬(l.getD i default).Len>20000-lenTo l i from h4),wI,qF (by omega) (by omega)];rfl
  ·rw[WL,decide_eq_false (by omega)];rfl
theorem AC (l:List qA):WT l=some (RB l)/\qCZ l=some (RB l):=by
 unfold WT qCZ RB;by_cases h0:l.length=0
 ·rw[if_pos h0,h0];exact⟨rfl,rfl⟩
 rw[if_neg h0,show(((l.length:Nat):Int)==0)=false by rw[beq_eq_false_iff_ne];omega];by_cases h1:24<l.length
 ·rw[if_pos h1,decide_eq_true (by omega)];exact⟨rfl,rfl⟩
 rw[if_neg h1,decide_eq_false (by omega)];simp only[cond_false];rw[(qOJ l (by omega)).1,(qOJ l (by omega)).2];cases findN (badSl l) 0 l.length<;>exact⟨rfl,rfl⟩
structure VSol (l:List qA):Prop where
 ne:0<l.length
 len:l.length<=24
 ok:∀i,i<l.length->badSl l i=none
theorem UR (l:List qA):RB l=0↔VSol l:=by
 unfold RB;by_cases h0:l.length=0
 ·rw[if_pos h0];exact⟨λh=>absurd h (by decide),λh=>by have:=h.ne;omega⟩
 rw[if_neg h0];by_cases h1:24<l.length
 ·rw[if_pos h1];exact⟨λh=>absurd h (by decide),λh=>by have:=h.len;omega⟩
 rw[if_neg h1];cases hf:findN (badSl l) 0 l.length with
 |inl e=>
  obtain⟨i,a,b,c,d⟩:=YL hf;simp only;exact⟨λh=>absurd h (qRK c),λh=>by rw[h.ok i (by omega)] at c;cases c⟩
 |inr u=>exact⟨λ_=>⟨by omega,by omega,λi hi=>PE.1 hf i (by omega) (by omega)⟩,λ_=>rfl⟩
theorem VSol.at {l:List qA} (h:VSol l) {i:Nat} (hi:i<l.length):VS (l.getD i default).Sec/\(l.getD i default).Sec.Rows≠[]/\1<=(l.getD i default).Len/\lenTo l (i+1)<=20000:=qIN.1 (h.ok i hi)
theorem VSol.bd {l:List qA} (h:VSol l) {i:Nat} (hi:i<=l.length):(i:Int)<=lenTo l i/\lenTo l i<=20000:=qD7 (λj hj=>h.ok j (by omega))
theorem VSol.mono {l:List qA} (h:VSol l):∀{j:Nat},j<=l.length->∀{i:Nat},i<=j->lenTo l i<=lenTo l j
 |0,_,i,hi=>by rw[show i=0 by omega];exact Int.le_refl _
 |j+1,hj,i,hi=>by
  by_cases e:i=j+1
  ·rw[e];exact Int.le_refl _
  ·have:=h.mono (j:=j) (by omega) (i:=i) (by omega);have:=(h.at (i:=j) (by omega)).2.2.1;rw[wI];omega
def valL (l:List qA):List qA:=if RB l=0 then l else[]
theorem qJK (l:List qA):YU l=some (valL l):=by
 unfold YU valL;rw[(AC l).1];simp only[Option.bind_some];by_cases h:RB l=0
 ·rw[if_pos h,h];rfl
 ·rw[if_neg h,show(RB l !=0)=true by rw[bne_iff_ne];exact h];rfl
theorem MU {l:List qA} (h:VSol l):valL l=l:=by unfold valL;rw[if_pos ((UR l).2 h)]
def solLen (l:List qA):Int:=lenTo l l.length
theorem qNI {l:List qA} (h:VSol l):QT l FUEL 0 0=some (solLen l)/\JT l FUEL 0 0=some (solLen l):=by
 have hl:=h.len;have f:∀k,foldN (λi s=>s+(l.getD i default).Len) 0 k 0=lenTo l k:=by
  intro k
  induction k with
  |zero=>rfl
  |succ k ih=>rw[YO,ih,Nat.zero_add];rfl
 constructor
 ·have k:=(zR l.length (λn (s:Int) i=>QT l n s i) (λi s=>s+(l.getD i default).Len) (λs=>s) (λi s=>s=lenTo l i) 0 (by omega) (by omega) (λn i s hi hs=>by
   have b:=h.bd (i:=i) (by omega);have b':=h.bd (i:=i+1) (by omega);rw[wI] at b';refine⟨?_,by rw[hs,wI]⟩;rw[QT,decide_eq_true (by omega),qK (by omega) (by omega)];simp only[cond_true,Int.toNat_natCast,qP (show i<4611686018427387904 by omega)];rw[qF (by omega) (by omega)]) (λn s _=>by rw[QT,decide_eq_false (by omega)];rfl) 0 rfl).1
  rw[Nat.sub_zero,f] at k;exact k
 ·have k:=(zR l.length (λn (s:Int) i=>JT l n s i) (λi s=>s+(l.getD i default).Len) (λs=>s) (λi s=>s=lenTo l i) 0 (by omega) (by omega) (λn i s hi hs=>by
   have b:=h.bd (i:=i) (by omega);have b':=h.bd (i:=i+1) (by omega);rw[wI] at b';refine⟨?_,by rw[hs,wI]⟩;rw[JT,decide_eq_true (by omega),qK (by omega) (by omega)];simp only[cond_true,Int.toNat_natCast,qP (show i<4611686018427387904 by omega)];rw[qF (by omega) (by omega)]) (λn s _=>by rw[JT,decide_eq_false (by omega)];rfl) 0 rfl).1
  rw[Nat.sub_zero,f] at k;exact k
theorem HB (l:List qA):yU l=some (solLen (valL l))/\qFr l=some (solLen (valL l)):=by
 unfold yU qFr;rw[qJK,(AC l).2];simp only[Option.bind_some];by_cases h:RB l=0
 ·have v:=(UR l).1 h;rw[MU v,h,(qNI v).1,(qNI v).2];exact⟨rfl,rfl⟩
 ·have e:valL l=[]:=by unfold valL;rw[if_neg h]
  rw[e,show(RB l !=0)=true by rw[bne_iff_ne];exact h];constructor
  ·rw[FUEL_eq];rfl
  ·rfl
def ext (l:List qA) (i:Nat):Span:=⟨lenTo l i,lenTo l (i+1)⟩
theorem zO {α:Type} [Inhabited α] (f:Nat->α) {n i:Nat} (h:i<n):((List.range n).map f).getD i default=f i:=by
 rw[List.getD_eq_getElem?_getD,List.getElem?_map,List.getElem?_range h];rfl
theorem qPo {l:List qA} (h:VSol l\/l=[]):UX l=some ((List.range l.length).map (ext l)):=by
 unfold UX;rcases h with h|h
 ·have hl:=h.len;rw[qH4 (by omega) (by omega),Int.toNat_natCast];simp only[cond_true];have k:=zR l.length (λn (s:List Span×Int) i=>WA l n s.1 s.2 i) (λi s=>(s.1.set i (ext l i),lenTo l (i+1))) (λs=>s.1)
   (λi s=>s.1.length=l.length/\s.2=lenTo l i/\∀j,j<i->s.1.getD j default=ext l j) 0 (by omega) (by omega)
   (λn i s hi hs=>by
    obtain⟨s1,s2⟩:=s;obtain⟨e1,e2,e3⟩:=hs;simp only at e1 e2 e3;have b:=h.bd (i:=i) (by omega);have b':=h.bd (i:=i+1) (by omega);refine⟨?_,by simpa using e1,rfl,λj hj=>?_⟩
    ·simp only;rw[WA,decide_eq_true (by omega),qK (by omega) (by omega),qK (by omega) (by omega)];simp only[cond_true,Int.toNat_natCast,qP (show i<4611686018427387904 by omega),e2];rw[wI] at b';rw[qF (by omega) (by omega)];rfl
    ·simp only;by_cases c:j=i
     ·subst c;rw[IQ _ (by omega)]
     ·rw[LD _ (λe=>c e.symm),e3 j (by omega)])
   (λn s _=>by rw[WA,decide_eq_false (by omega)];rfl) (List.replicate l.length (Span.mk 0 0),0) ⟨by simp,rfl,λj hj=>by omega⟩
  obtain⟨k1,k2,k3,k4⟩:=k;simp only[Nat.sub_zero] at k1 k2 k3 k4;rw[show((0:Nat):Int)=0 from rfl] at k1;rw[k1];simp only[Option.bind_some]
  congr 1
  refine qNn (by simp[k2]) (λj hj=>?_);rw[k2] at hj;rw[k4 j hj,zO _ hj]
 ·subst h;rw[qH4 (by simp) (by simp)];rw[FUEL_eq];rfl
theorem mx_b' {x y:Span} {M:Int} (h:x.B-x.A<=M) (h0:0<=M):(nrm (mxS x y)).B-(nrm (mxS x y)).A<=M:=by
 unfold nrm;cases he:empS (mxS x y) with
 |true=>simpa using h0
 |false=>
  simp only[cond_false];unfold mxS;have:=WP x.A y.A;have:=imin_or x.B y.B;simp only;omega
theorem ml_eq' {x:Span} (y:Span) (h:x.B-x.A<=100000):YD (nrm (mxS x y))=some (ml x y):=by
 rw[FW (by have:=mx_b' (y:=y) h (by omega);omega),qOt];rfl
theorem qO8 {l:List qA} (h:VSol l) {i:Nat} (hi:i<l.length):lenS (ext l i)=(l.getD i default).Len:=by
 have:=(h.at hi).2.2.1;rw[qKa,show(ext l i).A=lenTo l i from rfl,show(ext l i).B=lenTo l i+(l.getD i default).Len from wI l i];rw[if_neg (by omega)];omega
def volS (l:List qA) (x y z:Span):Int:=sumN l.length (λi=>ml (ext l i) z*zC (l.getD i default).Sec x y)
theorem qMd {s:qJ} (h:VS s) (x y:Span):0<=zC s x y/\zC s x y<=1440000:=⟨qCM s x y,Int.le_trans (qFq s x y) (qMw h).2⟩
theorem qLT {l:List qA} (h:VSol l) (x y z:Span) {i:Nat} (hi:i<l.length):0<=ml (ext l i) z*zC (l.getD i default).Sec x y/\ml (ext l i) z*zC (l.getD i default).Sec x y<=1440000*(l.getD i default).Len:=by
 have a:=qMd (h.at hi).1 x y;have b:=qCu (ext l i) z;have c:=qIJ (ext l i) z;rw[qO8 h hi] at c;refine⟨Int.mul_nonneg b a.1,?_⟩;have:=Int.mul_le_mul c a.2 a.1 (by have:=(h.at hi).2.2.1;omega);rw[Int.mul_comm 1440000];exact this
theorem qG2 {l:List qA} (h:VSol l) (x y z:Span):∀{k:Nat},k<=l.length->0<=sumN k (λi=>ml (ext l i) z*zC (l.getD i default).Sec x y)/\sumN k (λi=>ml (ext l i) z*zC (l.getD i default).Sec x y)<=1440000*lenTo l k
 |0,_=>by simp[sumN,lenTo]
 |k+1,hk=>by
  have a:=qG2 h x y z (k:=k) (by omega);have b:=qLT h x y z (i:=k) (by omega);rw[wI];simp only[sumN];omega
theorem qAV {l:List qA} (h:VSol l) (x y z:Span):0<=volS l x y z/\volS l x y z<=28800000000:=by
 have a:=qG2 h x y z (Nat.le_refl l.length);have b:=(h.bd (Nat.le_refl l.length)).2;exact⟨a.1,Int.le_trans a.2 (by omega)⟩
theorem HR {l:List qA} (h:VSol l) (b:Box):QA l b=some (volS l b.X b.Y b.Z):=by
 have hl:=h.len;unfold QA;rw[qJK,MU h];simp only[Option.bind_some];rw[qPo (.inl h)];simp only[Option.bind_some];have hlen:((List.range l.length).map (ext l)).length=l.length:=by simp
 have k:=(zR l.length (λn (s:Int) i=>yN b l ((List.range l.length).map (ext l)) n s i) (λi s=>s+ml (ext l i) b.Z*zC (l.getD i default).Sec b.X b.Y) (λs=>s)
  (λi s=>s=sumN i (λi=>ml (ext l i) b.Z*zC (l.getD i default).Sec b.X b.Y)) 0 (by omega) (by omega)
  (λn i s hi hs=>by
   have p:=qG2 h b.X b.Y b.Z (k:=i) (by omega);have t:=qLT h b.X b.Y b.Z hi;have bd:=h.bd (i:=i) (by omega);have at':=(h.at hi).2.2;rw[wI] at at';refine⟨?_,by rw[hs];rfl⟩;rw[yN,hlen,decide_eq_true (by omega),qK (by omega) (by omega)];simp only[cond_true,Int.toNat_natCast,qP (show i<4611686018427387904 by omega),zO _ hi,qBv,Option.bind_some,DA];rw[ml_eq' b.Z (show(ext l i).B-(ext l i).A<=100000 by rw[show(ext l i).A=lenTo l i from rfl,show(ext l i).B=lenTo l i+(l.getD i default).Len from wI l i];omega)];simp only[Option.bind_some,qK7];rw[qHD (h.at hi).1];by_cases c:ml (ext l i) b.Z>0
   ·rw[decide_eq_true c];simp only[cond_true];rw[qF (n:=ml (ext l i) b.Z*zC (l.getD i default).Sec b.X b.Y) (by omega) (by omega),qF (by omega) (by omega)]
   ·have z:ml (ext l i) b.Z=0:=by have:=qCu (ext l i) b.Z;omega
    rw[decide_eq_false c,z];simp)
  (λn s _=>by rw[yN,hlen,decide_eq_false (by omega)];rfl) 0 rfl)
 rw[show((0:Nat):Int)=0 from rfl] at k;rw[k.1];simp only[Option.bind_some];exact congrArg some k.2
theorem qQ3 {l:List qA} (h:VSol l) (r:Rect) (z:Span):WY l r z=some (volS l r.X r.Y z):=by
 unfold WY;rw[HR h];rfl
end Saw
end Go.SL
