import Derived.Test.YtidlfgiogdjkaaaGreatDoorEMa1
set_option linter.unusedVariables false
set_option linter.unusedSimpArgs false
namespace Go.SL
namespace Saw
def empS (s:Span):Bool:=decide (s.B<=s.A)
def rngS (s:Span):Bool:=(decide (-600<=s.A)&&decide (s.A<=600))&&(decide (-600<=s.B)&&decide (s.B<=600))
def qD8 (s:Span):Bool:=(s.A==0)&&(s.B==0)
theorem zbQ {s:Span}:rngS s=true↔(-600<=s.A/\s.A<=600)/\(-600<=s.B/\s.B<=600):=by unfold rngS;simp
theorem qAk (s:Span):ZL s=some (empS s):=rfl
theorem qDQ (s:Span):CP s=some (empS s):=rfl
theorem qFB (s:Span):RS s=some (rngS s):=by
 have e:rngS s=(decide (imin s.A s.B≥-600)&&decide (imax s.A s.B<=600)):=by
  rw[Bool.eq_iff_iff,zbQ,Bool.and_eq_true,decide_eq_true_eq,decide_eq_true_eq,ge_iff_le,le_imin,qTQ];omega
 unfold RS RL;rw[e];cases decide (imin s.A s.B≥-600)<;>rfl
theorem qJO (n:Int):AR n=some (!(decide (-600<=n)&&decide (n<=600))):=by
 unfold AR AB;by_cases h1:n< -600
 ·rw[decide_eq_true h1,decide_eq_false (show¬-600<=n by omega)];rfl
 ·rw[decide_eq_false h1,decide_eq_true (show-600<=n by omega)];by_cases h2:n>600
  ·rw[decide_eq_true h2,decide_eq_false (show¬n<=600 by omega)];rfl
  ·rw[decide_eq_false h2,decide_eq_true (show n<=600 by omega)];rfl
def bad9 (s:Span):Option Int:=bif rngS s then none else some 9
def bad19 (s:Span):Option Int:=bif empS s&&!qD8 s then some 19 else none
def qMc (s:qK):Int:=
 match findE bad9 s.Rows with
 | .inl e=>e
 | .inr _=>
  if s.Rows.length=0 then(if s.Low=0 then 0 else 19)
  else if empS (s.Rows.getD 0 default)=true\/empS (s.Rows.getD (s.Rows.length-1) default)=true then 19
  else match findE bad19 s.Rows with
   | .inl e=>e
   | .inr _=>0
def PJ (s:qK):Int:=if 120<s.Rows.length then 4 else if s.Low< -60\/60-(s.Rows.length:Int)<s.Low then 9 else qMc s
theorem chk_L (s:qK) (hl:s.Rows.length<=120):QQ s FUEL 0=some (findE bad9 s.Rows)/\jF s FUEL 0=some (findE bad19 s.Rows)/\JH s FUEL 0=some (findE bad9 s.Rows)/\JC s FUEL 0=some (findE bad19 s.Rows):=by
 have e1:∀(l:List Span) (x:Nat),(l.length:Nat)<1000->x<l.length->decide ((x:Int)<((l.length:Nat):Int))=true/\inb (x:Int) l.length=true/\w64 ((x:Int)+1)=((x+1:Nat):Int):=λl x h hx=>⟨decide_eq_true (by omega),qL (by omega) (by omega),qP (by omega)⟩
 refine⟨RH s.Rows (QQ s) bad9 (by omega) (λn x hx=>?_) (λn=>?_),RH s.Rows (jF s) bad19 (by omega) (λn x hx=>?_) (λn=>?_),RH s.Rows (JH s) bad9 (by omega) (λn x hx=>?_) (λn=>?_),RH s.Rows (JC s) bad19 (by omega) (λn x hx=>?_) (λn=>?_)⟩
 ·obtain⟨a1,a2,a3⟩:=e1 s.Rows x (by omega) hx;rw[QQ];simp only[a1,a2,a3,cond_true,Int.toNat_natCast,qFB,Option.bind_some,bad9];cases rngS (s.Rows.getD x default)<;>rfl
 ·unfold QQ;simp
 ·obtain⟨a1,a2,a3⟩:=e1 s.Rows x (by omega) hx;rw[jF];simp only[DC,a1,a2,a3,cond_true,Int.toNat_natCast,qAk,Option.bind_some,bad19,qD8,Bool.and_true];cases empS (s.Rows.getD x default)<;>cases ((s.Rows.getD x default).A==0&&(s.Rows.getD x default).B==0)<;>rfl
 ·unfold jF;simp
 ·obtain⟨a1,a2,a3⟩:=e1 s.Rows x (by omega) hx;rw[JH];simp only[OF,a1,a2,a3,cond_true,Int.toNat_natCast,qJO,Option.bind_some,bad9,rngS];cases (decide (-600<=(s.Rows.getD x default).A)&&decide ((s.Rows.getD x default).A<=600))<;>cases (decide (-600<=(s.Rows.getD x default).B)&&decide ((s.Rows.getD x default).B<=600))<;>rfl
 ·unfold JH;simp
 ·obtain⟨a1,a2,a3⟩:=e1 s.Rows x (by omega) hx;rw[JC];simp only[OG,a1,a2,a3,cond_true,Int.toNat_natCast,qDQ,Option.bind_some,bad19,qD8,Bool.and_true];cases empS (s.Rows.getD x default)<;>cases ((s.Rows.getD x default).A==0&&(s.Rows.getD x default).B==0)<;>rfl
 ·unfold JC;simp
theorem qIK (s:qK):PQ s=some (PJ s)/\qC8 s=some (PJ s):=by
 unfold PQ qC8 PJ;by_cases h:120<s.Rows.length
 ·rw[decide_eq_true (show((s.Rows.length:Nat):Int)>120 by omega),if_pos h];exact⟨rfl,rfl⟩
 rw[decide_eq_false (show¬((s.Rows.length:Nat):Int)>120 by omega),if_neg h,qF (by omega) (by omega)];simp only[cond_false];obtain⟨l1,l2,l3,l4⟩:=chk_L s (by omega);by_cases h1:s.Low< -60
 ·rw[decide_eq_true h1,if_pos (.inl h1)];exact⟨rfl,rfl⟩
 rw[decide_eq_false h1];by_cases h2:60-(s.Rows.length:Int)<s.Low
 ·rw[decide_eq_true (show s.Low>_ from h2),if_pos (.inr h2)];exact⟨rfl,rfl⟩
 rw[decide_eq_false (show¬s.Low>_ from h2),if_neg (by omega)];unfold DE OQ GL OT qMc;simp only[cond_false,l1,l2,l3,l4,Option.bind_some,qAk,qDQ];cases findE bad9 s.Rows with
 |inl e=>exact⟨rfl,rfl⟩
 |inr u=>
  simp only[Sum.elim_inr];by_cases h0:s.Rows.length=0
  ·rw[if_pos h0,h0];by_cases hw:s.Low=0
   ·rw[if_pos hw,hw];exact⟨rfl,rfl⟩
   ·rw[if_neg hw];have:(s.Low !=0)=true:=by simpa using hw
    simp[this]
  ·rw[if_neg h0];have e0:(((s.Rows.length:Nat):Int)==0)=false:=by rw[beq_eq_false_iff_ne];omega
   have e1:w64 (((s.Rows.length:Nat):Int)-1)=((s.Rows.length-1:Nat):Int):=by rw[qF (by omega) (by omega)];omega
   rw[e0,qL (by omega) (by omega),e1,qL (by omega) (by omega)];simp only[cond_false,cond_true,Int.toNat_zero,Int.toNat_natCast];cases hf:empS (s.Rows.getD 0 default) with
   |true=>simp
   |false=>cases hg:empS (s.Rows.getD (s.Rows.length-1) default) with
    |true=>simp
    |false=>
     simp only[cond_false,Bool.false_eq_true,or_self,if_false];cases findE bad19 s.Rows<;>exact⟨rfl,rfl⟩
def nilS :qK:=⟨0,[]⟩
def CU (s:qK):qK:=if PJ s=0 then s else nilS
theorem qOd (s:qK):YY s=some (CU s):=by
 unfold YY CU;rw[(qIK s).1];simp only[Option.bind_some];by_cases h:PJ s=0
 ·rw[h];rfl
 ·have:(PJ s !=0)=true:=by simpa using h
  rw[this,if_neg h];rfl
def nrm (x:Span):Span:=bif empS x then⟨0,0⟩ else x
theorem qQ9 (x:Span):empS (nrm x)=empS x:=by
 unfold nrm;cases h:empS x with
 |true=>rfl
 |false=>simpa using h
theorem qSr {x:Span} (h:empS x=false):nrm x=x:=by unfold nrm;rw[h];rfl
theorem nrm_emp {x:Span} (h:empS x=true):nrm x=⟨0,0⟩:=by unfold nrm;rw[h];rfl
def row (s:qK) (r:Int):Span:=if r<s.Low then⟨0,0⟩ else s.Rows.getD (r-s.Low).toNat default
structure Trim (s:qK):Prop where
 nil:s.Rows=[]->s.Low=0
 first:s.Rows≠[]->empS (s.Rows.getD 0 default)=false
 last:s.Rows≠[]->empS (s.Rows.getD (s.Rows.length-1) default)=false
theorem qGW {α:Type} [Inhabited α] {l:List α} {i:Nat} (h:l.length<=i):l.getD i default=default:=by
 rw[List.getD_eq_getElem?_getD,List.getElem?_eq_none h];rfl
theorem row_at {s:qK} {i:Nat}:row s (s.Low+i)=s.Rows.getD i default:=by
 unfold row;rw[if_neg (by omega)]
 congr 1
 omega
structure VS (s:qK):Prop extends Trim s where
 len:s.Rows.length<=120
 low: -60<=s.Low
 high:s.Low+s.Rows.length<=60
 rng:∀x∈s.Rows,rngS x=true
 zero:∀x∈s.Rows,empS x=true->x=⟨0,0⟩
theorem qTw {x:Span}:bad9 x=none↔rngS x=true:=by unfold bad9;cases rngS x<;>simp
theorem zeroS_iff {x:Span}:qD8 x=true↔x=⟨0,0⟩:=by unfold qD8;cases x;simp
theorem qJW {x:Span}:bad19 x=none↔(empS x=true->x=⟨0,0⟩):=by
 unfold bad19;cases h:empS x with
 |false=>simp
 |true=>cases hz:qD8 x with
  |true=>simp[zeroS_iff.1 hz]
  |false=>simp;intro e;rw[zeroS_iff.2 e] at hz;cases hz
theorem qCl {ε α:Type} {bad:α->Option ε} {l:List α} {e:ε} (h:findE bad l= .inl e):∃a∈l,bad a=some e:=by
 induction l with
 |nil=>cases h
 |cons a l ih=>
  unfold findE at h;cases hb:bad a with
  |some e'=>rw[hb] at h;cases h;exact⟨a,by simp,hb⟩
  |none=>rw[hb] at h;obtain⟨x,hx,hx'⟩:=ih h;exact⟨x,List.mem_cons_of_mem _ hx,hx'⟩
theorem chk10_zero (s:qK):PJ s=0↔VS s:=by
 unfold PJ;by_cases h:120<s.Rows.length
 ·rw[if_pos h];exact⟨λh=>absurd h (by decide),λhv=>by have:=hv.len;omega⟩
 rw[if_neg h];by_cases h1:s.Low< -60\/60-(s.Rows.length:Int)<s.Low
 ·rw[if_pos h1];exact⟨λh=>absurd h (by decide),λhv=>by have:=hv.low;have:=hv.high;omega⟩
 rw[if_neg h1];unfold qMc;cases h9:findE bad9 s.Rows with
 |inl e=>
  obtain⟨a,ha,hb⟩:=qCl h9;have e9:e=9/\rngS a=false:=by unfold bad9 at hb;cases hr:rngS a<;>rw[hr] at hb<;>simp at hb;exact⟨hb.symm,rfl⟩
  simp only;refine⟨λh=>by omega,λhv=>?_⟩;have:=hv.rng a ha;rw[e9.2] at this;cases this
 |inr u=>
  have hr:∀x∈s.Rows,rngS x=true:=λx hx=>qTw.1 (GW.1 h9 x hx);simp only;by_cases h0:s.Rows.length=0
  ·have en:s.Rows=[]:=List.length_eq_zero_iff.1 h0;rw[if_pos h0];by_cases hw:s.Low=0
   ·rw[if_pos hw];exact⟨λ_=>⟨⟨λ_=>hw,λh=>absurd en h,λh=>absurd en h⟩,by omega,by omega,by omega,hr,λx hx=>by rw[en] at hx;cases hx⟩,λ_=>rfl⟩
   ·rw[if_neg hw];exact⟨λh=>absurd h (by decide),λhv=>absurd (hv.nil en) hw⟩
  ·rw[if_neg h0];have hne:s.Rows≠[]:=λe=>h0 (by rw[e];rfl);by_cases hf:empS (s.Rows.getD 0 default)=true\/empS (s.Rows.getD (s.Rows.length-1) default)=true
   ·rw[if_pos hf];refine⟨λh=>absurd h (by decide),λhv=>?_⟩;rcases hf with hf|hf
    ·rw[hv.first hne] at hf;cases hf
    ·rw[hv.last hne] at hf;cases hf
   ·rw[if_neg hf];have f1:empS (s.Rows.getD 0 default)=false:=by simpa using λh=>hf (.inl h)
    have f2:empS (s.Rows.getD (s.Rows.length-1) default)=false:=by simpa using λh=>hf (.inr h)
    cases h19:findE bad19 s.Rows with
    |inl e=>
     obtain⟨a,ha,hb⟩:=qCl h19;simp only;have e19:e=19:=by unfold bad19 at hb;cases hr:(empS a&&!qD8 a)<;>rw[hr] at hb<;>simp at hb;exact hb.symm
     refine⟨λh=>by omega,λhv=>?_⟩;have:=qJW.2 (hv.zero a ha);rw[this] at hb;cases hb
    |inr u'=>
     exact⟨λ_=>⟨⟨λe=>absurd e hne,λ_=>f1,λ_=>f2⟩,by omega,by omega,by omega,hr,λx hx=>qJW.1 (GW.1 h19 x hx)⟩,λ_=>rfl⟩
theorem VS_nil :VS nilS:=(chk10_zero nilS).1 rfl
theorem qOx (s:qK):VS (CU s):=by
 unfold CU;split
 ·rename_i h;exact(chk10_zero s).1 h
 ·exact VS_nil
theorem qJe {s:qK} (h:VS s):CU s=s:=by unfold CU;rw[if_pos ((chk10_zero s).2 h)]
theorem VS.row_rng {s:qK} (h:VS s) (r:Int):rngS (row s r)=true:=by
 unfold row;split
 ·rfl
 ·by_cases hi:(r-s.Low).toNat<s.Rows.length
  ·exact h.rng _ (jS hi)
  ·rw[qGW (by omega)];rfl
def mxS (x y:Span):Span:=⟨imax x.A y.A,imin x.B y.B⟩
theorem qBZ (x y:Span):XO x y=some (nrm (mxS x y)):=by
 unfold XO nrm mxS empS;simp only[ge_iff_le];cases decide (imin x.B y.B<=imax x.A y.A)<;>rfl
def lenS (x:Span):Int:=bif empS x then 0 else x.B-x.A
theorem qP2 (n:Int):IntKind.u64.wrap n=n % 18446744073709551616:=by
 unfold IntKind.wrap;simp only[IntKind.bits,IntKind.signed,Bool.false_and];simp
theorem HF {x:Span} (h:x.B-x.A<=9223372036854775807):XA x=some (lenS x):=by
 unfold XA qCT EM lenS empS;by_cases he:x.B<=x.A
 ·rw[decide_eq_true (show x.A≥x.B from he)];rfl
 ·rw[decide_eq_false (show¬x.A≥x.B from he),qP2,qP2,qP2];simp only[cond_false,Option.bind_some];rw[show(x.B % 18446744073709551616-x.A % 18446744073709551616) % 18446744073709551616=x.B-x.A by omega];have:imin (x.B-x.A) 9223372036854775807=x.B-x.A:=by have:=imin_or (x.B-x.A) 9223372036854775807;omega
  rw[this,qF (by omega) (by omega)]
theorem qQJ (x:Span):lenS (nrm x)=lenS x:=by
 unfold lenS;rw[qQ9];cases h:empS x with
 |true=>rfl
 |false=>rw[qSr h]
theorem len_nn (x:Span):0<=lenS x:=by unfold lenS empS;by_cases h:x.B<=x.A<;>simp[h];omega
def ml (x y:Span):Int:=lenS (mxS x y)
theorem ml_b {x:Span} (y:Span) (h:rngS x=true):0<=ml x y/\ml x y<=1200/\ml x y<=lenS x:=by
 rw[zbQ] at h;have a1:=JA x.A y.A;have a2:=imin_or x.B y.B;unfold ml lenS empS mxS;simp only;by_cases c:imin x.B y.B<=imax x.A y.A
 ·rw[decide_eq_true c];by_cases c2:x.B<=x.A
  ·rw[decide_eq_true c2];simp
  ·rw[decide_eq_false c2];simp;omega
 ·rw[decide_eq_false c,decide_eq_false (show¬x.B<=x.A by omega)];simp only[cond_false];omega
theorem mx_b {x y:Span} (h:rngS x=true):(nrm (mxS x y)).B-(nrm (mxS x y)).A<=1200:=by
 cases he:empS (mxS x y) with
 |true=>rw[nrm_emp he];decide
 |false=>
  rw[qSr he];rw[zbQ] at h;have a1:=JA x.A y.A;have a2:=imin_or x.B y.B;unfold mxS;simp only;omega
theorem ml_eq {x:Span} (y:Span) (h:rngS x=true):XA (nrm (mxS x y))=some (ml x y):=by
 have:=mx_b (y:=y) h;rw[HF (by omega),qQJ];rfl
def hgt (r:Int):Span:=⟨10*r,10*(r+1)⟩
theorem qRn {r:Int} (h1: -60<=r) (h2:r<60):rngS (hgt r)=true:=by rw[zbQ];unfold hgt;simp only;omega
theorem hgt_len (r:Int):lenS (hgt r)=10:=by unfold lenS empS hgt;simp only;rw[decide_eq_false (by omega)];simp only[cond_false];omega
theorem hgt_eq {r:Int} (h1: -60<=r) (h2:r<60):YQ r (w64 (r+1))=some (hgt r):=by
 unfold YQ hgt;rw[qF (n:=r+1) (by omega) (by omega),qF (by omega) (by omega),qF (by omega) (by omega)]
def sumR (f:Int->Int):Int:=sumN 120 (λj=>f ((j:Int)-60))
theorem qBj {f g:Int->Int} (h:∀r,-60<=r->r<60->f r=g r):sumR f=sumR g:=yJ (λi hi=>h _ (by omega) (by omega))
theorem qPn {s:qK} (h:VS s) (F:Int->Span->Int) (h0:∀r,F r ⟨0,0⟩=0):sumN s.Rows.length (λi=>F (s.Low+i) (s.Rows.getD i default))=sumR (λr=>F r (row s r)):=by
 have b1:=h.low;have b2:=h.high;have b3:=h.len;unfold sumR;have e:120=(s.Low+60).toNat+(s.Rows.length+(120-(s.Low+60).toNat-s.Rows.length)):=by omega
 rw[e,qEh,qEh];have z1:sumN (s.Low+60).toNat (λj=>F ((j:Int)-60) (row s ((j:Int)-60)))=0:=qAl (λi hi=>by
  have:row s ((i:Int)-60)=⟨0,0⟩:=by unfold row;rw[if_pos (by omega)]
  rw[this,h0])
 have z2:sumN (120-(s.Low+60).toNat-s.Rows.length) (λi=>F ((((s.Low+60).toNat+(s.Rows.length+i):Nat):Int)-60) (row s ((((s.Low+60).toNat+(s.Rows.length+i):Nat):Int)-60)))=0:=qAl (λi hi=>by
  have:row s ((((s.Low+60).toNat+(s.Rows.length+i):Nat):Int)-60)=⟨0,0⟩:=by
   unfold row;rw[if_neg (by omega),qGW (by omega)];rfl
  rw[this,h0])
 have z3:sumN s.Rows.length (λi=>F ((((s.Low+60).toNat+i:Nat):Int)-60) (row s ((((s.Low+60).toNat+i:Nat):Int)-60)))=sumN s.Rows.length (λi=>F (s.Low+i) (s.Rows.getD i default)):=yJ (λi hi=>by
  have:(((s.Low+60).toNat+i:Nat):Int)-60=s.Low+i:=by omega
  rw[this,row_at])
 rw[z1,z3];rw[z2];omega
def LH (s:qK):Int:=10*sumR (λr=>lenS (row s r))
def zG (s:qK) (x y:Span):Int:=sumR (λr=>ml (row s r) x*ml (hgt r) y)
theorem VS.len_b {s:qK} (h:VS s) {i:Nat} (hi:i<s.Rows.length):0<=lenS (s.Rows.getD i default)/\lenS (s.Rows.getD i default)<=1200/\(s.Rows.getD i default).B-(s.Rows.getD i default).A=lenS (s.Rows.getD i default):=by
 have m:=jS hi;have r:=zbQ.1 (h.rng _ m);have z:=h.zero _ m;have e:lenS (s.Rows.getD i default)=bif empS (s.Rows.getD i default) then 0 else(s.Rows.getD i default).B-(s.Rows.getD i default).A:=rfl;cases he:empS (s.Rows.getD i default) with
 |true=>rw[z he];decide
 |false=>
  rw[he] at e;simp only[cond_false] at e;have hlt:¬(s.Rows.getD i default).B<=(s.Rows.getD i default).A:=of_decide_eq_false he;omega
theorem qMO (s:qK) (R:Rect):KC s R=some (zG (CU s) R.X R.Y):=by
 have h:=qOx s;unfold KC;rw[qOd s];simp only[Option.bind_some];generalize CU s=t at*;have b:=h.len;have b1:=h.low;have b2:=h.high;have pb:∀x,x<t.Rows.length->0<=ml (t.Rows.getD x default) R.X*ml (hgt (t.Low+x)) R.Y/\ml (t.Rows.getD x default) R.X*ml (hgt (t.Low+x)) R.Y<=1440000:=λx hx=>by
  have m1:=ml_b R.X (h.rng _ (jS hx));have m2:=ml_b R.Y (qRn (r:=t.Low+x) (by omega) (by omega));have:=WC (a:=ml (t.Rows.getD x default) R.X) (b:=ml (hgt (t.Low+x)) R.Y) (m:=1200) (n:=1200) (by omega) (by omega) (by omega) (by omega) (by omega) (by omega);exact⟨Int.mul_nonneg m1.1 m2.1,by omega⟩
 have k1:=VU t.Rows (λn (a:Int) x=>WB R t n a x) (λx=>(x:Int)) (λx a s=>s+ml a R.X*ml (hgt (t.Low+x)) R.Y) (λs=>s) (λx s=>0<=s/\s<=1440000*(x:Int)) (by omega)
  (λn x a hx hi=>by
   have p:=pb x hx;refine⟨?_,by omega⟩;rw[WB,decide_eq_true (show(x:Int)<_ by omega),qL (by omega) (by omega),qP (by omega),qF (n:=t.Low+x) (by omega) (by omega),hgt_eq (r:=t.Low+x) (by omega) (by omega)];simp only[cond_true,Int.toNat_natCast,Option.bind_some,qBZ];rw[ml_eq R.X (h.rng _ (jS hx)),ml_eq R.Y (qRn (r:=t.Low+x) (by omega) (by omega))];simp only[Option.bind_some];rw[qF (n:=_*_) (by omega) (by omega),qF (by omega) (by omega)])
  (λn a _=>by rw[WB];simp) (i:=0) rfl 0 (by omega)
 rw[qCW (λx a=>ml a R.X*ml (hgt (t.Low+x)) R.Y)] at k1;have e:=qPn h (λr a=>ml a R.X*ml (hgt r) R.Y) (λr=>by
  have:ml ⟨0,0⟩ R.X=0:=by have:=ml_b (x:=⟨0,0⟩) R.X rfl;have e:lenS ⟨0,0⟩=0:=rfl;omega
  rw[this];simp)
 simp only[Nat.zero_add,Int.zero_add] at k1;rw[e] at k1;rw[k1.1];rfl
theorem qF1 (x y:Span):ml x y=if imin x.B y.B<=imax x.A y.A then 0 else imin x.B y.B-imax x.A y.A:=by
 unfold ml lenS empS mxS;simp only;by_cases c:imin x.B y.B<=imax x.A y.A
 ·rw[decide_eq_true c,if_pos c];rfl
 ·rw[decide_eq_false c,if_neg c];rfl
theorem qCM (x y:Span):0<=ml x y:=len_nn _
theorem qL4 (x:Span):lenS x=if x.B<=x.A then 0 else x.B-x.A:=by
 unfold lenS empS;by_cases c:x.B<=x.A
 ·rw[decide_eq_true c,if_pos c];rfl
 ·rw[decide_eq_false c,if_neg c];rfl
theorem qJR (x:Span) {A m B:Int} (h1:A<=m) (h2:m<=B):ml x ⟨A,m⟩+ml x ⟨m,B⟩=ml x ⟨A,B⟩:=by
 have a1:=imin_or x.B m;have a2:=imin_or x.B B;have a3:=JA x.A A;have a4:=JA x.A m;simp only[qF1];split<;>split<;>split<;>omega
theorem qJY (x y:Span):ml x y<=lenS x:=by
 have a2:=imin_or x.B y.B;have a3:=JA x.A y.A;rw[qF1,qL4];split<;>split<;>omega
theorem qTg {x:Span} (y:Span) (h:empS x=true):ml x y=0:=by
 have:=qJY x y;have:=qCM x y;have e:lenS x=0:=by unfold lenS;rw[h];rfl
 omega
theorem qOy (s:qK):LH s=sumR (λr=>10*lenS (row s r)):=(qBM 120 10 _).symm
theorem qL1 {f g:Int->Int} (h:∀r,-60<=r->r<60->f r<=g r):sumR f<=sumR g:=qMg (λi hi=>h _ (by omega) (by omega))
theorem qIq (f g:Int->Int):sumR (λr=>f r+g r)=sumR f+sumR g:=qBB 120 _ _
theorem qSN :sumR (λ_=>0)=0:=qAl (λ_ _=>rfl)
theorem qCy (s:qK) (x y:Span):0<=zG s x y:=by
 have:=qL1 (f:=λ_=>0) (g:=λr=>ml (row s r) x*ml (hgt r) y) (λr _ _=>Int.mul_nonneg (qCM _ _) (qCM _ _));rw[qSN] at this;exact this
theorem qGs (s:qK) (x y:Span):zG s x y<=LH s:=by
 rw[qOy];refine qL1 (λr _ _=>?_);have h1:=qJY (row s r) x;have h2:=qJY (hgt r) y;rw[hgt_len] at h2;have a:=Int.mul_le_mul_of_nonneg_left h2 (qCM (row s r) x);have b:=Int.mul_le_mul_of_nonneg_right h1 (show(0:Int)<=10 by decide);rw[Int.mul_comm 10];exact Int.le_trans a b
theorem qOB {s:qK} (h:VS s):0<=LH s/\LH s<=1440000:=by
 constructor
 ·exact Int.le_trans (qCy s ⟨0,0⟩ ⟨0,0⟩) (qGs s _ _)
 ·rw[qOy];refine Int.le_trans (qL1 (g:=λ_=>12000) (λr _ _=>?_)) (by unfold sumR;rw[qSb];omega);have hr:=zbQ.1 (h.row_rng r);rw[qL4];split<;>omega
def shS (dx:Int) (x:Span):Span:=bif empS x then x else⟨x.A+dx,x.B+dx⟩
theorem sh_emp (dx:Int) (x:Span):empS (shS dx x)=empS x:=by
 unfold shS;cases h:empS x with
 |true=>exact h
 |false=>
  unfold empS at h⊢;simp only[cond_false];have:=of_decide_eq_false h;exact decide_eq_false (by omega)
end Saw
end Go.SL
namespace Go.SL
theorem qKd {ε σ:Type} (N:Nat) (L:Nat->σ->Int->Option (ε⊕Unit)) (bad:Nat->Option ε) (st:Nat->σ) (hN:N<=1000000000)
  (h0:∀n i,i<N->(∀j,j<i->bad j=none)->L (n+1) (st i) (i:Int)=match bad i with|some e=>some (.inl e)|none=>L n (st (i+1)) ((i+1:Nat):Int))
  (h1:∀n,L (n+1) (st N) (N:Int)=some (.inr ())):L FUEL (st 0) 0=some (findN bad 0 N):=by
 have key:∀k n x,x+k=N->k<n->(∀j,j<x->bad j=none)->L n (st x) (x:Int)=some (findN bad x k):=by
  intro k
  induction k with
  |zero=>
   intro n x hx hn hb;obtain⟨n,rfl⟩:∃m,n=m+1:=⟨n-1,by omega⟩
   rw[Nat.add_zero] at hx;subst hx;exact h1 n
  |succ k ih=>
   intro n x hx hn hb;obtain⟨n,rfl⟩:∃m,n=m+1:=⟨n-1,by omega⟩
   rw[h0 n x (by omega) hb,findN];cases hc:bad x with
   |some e=>rfl
   |none=>
    exact ih n (x+1) (by omega) (by omega) (λj hj=>by
     by_cases e:j=x
     ·subst e;exact hc
     ·exact hb j (by omega))
 exact key N FUEL 0 (by omega) (by rw[FUEL_eq];omega) (λj hj=>by omega)
namespace Saw
def lenTo (l:List qB) (k:Nat):Int:=sumN k (λi=>(l.getD i default).Len)
theorem wJ (l:List qB) (k:Nat):lenTo l (k+1)=lenTo l k+(l.getD k default).Len:=rfl
def badSl (l:List qB) (i:Nat):Option Int:=
 if PJ (l.getD i default).Sec≠0 then some (PJ (l.getD i default).Sec)
 else if(l.getD i default).Sec.Rows.length=0 then some 18
 else if(l.getD i default).Len<1\/20000-lenTo l i<(l.getD i default).Len then some 9 else none
theorem qKt {l:List qB} {i:Nat}:badSl l i=none↔VS (l.getD i default).Sec/\(l.getD i default).Sec.Rows≠[]/\1<=(l.getD i default).Len/\lenTo l (i+1)<=20000:=by
 unfold badSl;rw[<-chk10_zero,wJ];by_cases h1:PJ (l.getD i default).Sec≠0
 ·rw[if_pos h1];exact⟨λh=>(by cases h),λh=>absurd h.1 h1⟩
 rw[if_neg h1];have h1':PJ (l.getD i default).Sec=0:=by omega
 by_cases h2:(l.getD i default).Sec.Rows.length=0
 ·rw[if_pos h2];exact⟨λh=>(by cases h),λh=>absurd (List.length_eq_zero_iff.1 h2) h.2.1⟩
 rw[if_neg h2];have h2':(l.getD i default).Sec.Rows≠[]:=λe=>h2 (by rw[e];rfl);by_cases h3:(l.getD i default).Len<1\/20000-lenTo l i<(l.getD i default).Len
 ·rw[if_pos h3];simp only[reduceCtorEq,false_iff];rintro⟨_,_,a,b⟩;omega
 ·rw[if_neg h3];simp only[true_iff];exact⟨h1',h2',by omega,by omega⟩
theorem qUn {l:List qB} {i:Nat} {e:Int} (h:badSl l i=some e):e≠0:=by
 unfold badSl at h;split at h
 ·cases h;assumption
 ·split at h
  ·cases h;decide
  ·split at h
   ·cases h;decide
   ·cases h
theorem qEl {l:List qB}:∀{i:Nat},(∀j,j<i->badSl l j=none)->(i:Int)<=lenTo l i/\lenTo l i<=20000
 |0,_=>⟨by simp[lenTo,sumN],by simp[lenTo,sumN]⟩
 |i+1,h=>by
  have a:=qKt.1 (h i (by omega));have b:=qEl (i:=i) (λj hj=>h j (by omega));rw[wJ] at*;exact⟨by omega,a.2.2.2⟩
def TP (l:List qB):Int:=if l.length=0 then 3 else if 24<l.length then 4 else match findN (badSl l) 0 l.length with| .inl e=>e| .inr _=>0
theorem qRp (l:List qB) (h:l.length<=24):yO l FUEL 0 0=some (findN (badSl l) 0 l.length)/\JD l FUEL 0 0=some (findN (badSl l) 0 l.length):=by
 constructor
 ·refine qKd l.length (yO l) (badSl l) (lenTo l) (by omega) (λn i hi hb=>?_) (λn=>?_)
  ·have b:=qEl hb;rw[yO,decide_eq_true (by omega),qL (by omega) (by omega)];simp only[cond_true,Int.toNat_natCast,(qIK _).1,Option.bind_some,LR,qP (show i<4611686018427387904 by omega)];rw[qF (n:=20000-lenTo l i) (by omega) (by omega)];unfold badSl;by_cases h1:PJ (l.getD i default).Sec≠0
   ·rw[if_pos h1,show(PJ (l.getD i default).Sec !=0)=true by rw[bne_iff_ne];exact h1];rfl
   rw[if_neg h1,show(PJ (l.getD i default).Sec !=0)=false by rw[bne_eq_false_iff_eq];omega];by_cases h2:(l.getD i default).Sec.Rows.length=0
   ·rw[if_pos h2,h2];rfl
   rw[if_neg h2,show((((l.getD i default).Sec.Rows.length:Nat):Int)==0)=false by rw[beq_eq_false_iff_ne];omega];by_cases h3:(l.getD i default).Len<1
   ·rw[if_pos (.inl h3),decide_eq_true h3];rfl
   rw[decide_eq_false h3];by_cases h4:20000-lenTo l i<(l.getD i default).Len
   ·rw[if_pos (.inr h4),decide_eq_true (show(l.getD i default).Len>20000-lenTo l i from h4)];rfl
   rw[if_neg (by omega),decide_eq_false (show¬(l.getD i default).Len>20000-lenTo l i from h4),wJ,qF (by omega) (by omega)];rfl
  ·rw[yO,decide_eq_false (by omega)];rfl
 ·refine qKd l.length (JD l) (badSl l) (lenTo l) (by omega) (λn i hi hb=>?_) (λn=>?_)
  ·have b:=qEl hb;rw[JD,decide_eq_true (by omega),qL (by omega) (by omega)];simp only[cond_true,Int.toNat_natCast,(qIK _).2,Option.bind_some,OU,qP (show i<4611686018427387904 by omega)];rw[qF (n:=20000-lenTo l i) (by omega) (by omega)];unfold badSl;by_cases h1:PJ (l.getD i default).Sec≠0
   ·rw[if_pos h1,show(PJ (l.getD i default).Sec !=0)=true by rw[bne_iff_ne];exact h1];rfl
   rw[if_neg h1,show(PJ (l.getD i default).Sec !=0)=false by rw[bne_eq_false_iff_eq];omega];by_cases h2:(l.getD i default).Sec.Rows.length=0
   ·rw[if_pos h2,h2];rfl
   rw[if_neg h2,show((((l.getD i default).Sec.Rows.length:Nat):Int)==0)=false by rw[beq_eq_false_iff_ne];omega];by_cases h3:(l.getD i default).Len<1
   ·rw[if_pos (.inl h3),decide_eq_true h3];rfl
   rw[decide_eq_false h3];by_cases h4:20000-lenTo l i<(l.getD i default).Len
   ·rw[if_pos (.inr h4),decide_eq_true (show(l.getD i default).Len>20000-lenTo l i from h4)];rfl
   rw[if_neg (by omega),decide_eq_false (show¬(l.getD i default).Len>20000-lenTo l i from h4),wJ,qF (by omega) (by omega)];rfl
  ·rw[JD,decide_eq_false (by omega)];rfl
theorem OO (l:List qB):JS l=some (TP l)/\qC2 l=some (TP l):=by
 unfold JS qC2 TP;by_cases h0:l.length=0
 ·rw[if_pos h0,h0];exact⟨rfl,rfl⟩
 rw[if_neg h0,show(((l.length:Nat):Int)==0)=false by rw[beq_eq_false_iff_ne];omega];by_cases h1:24<l.length
 ·rw[if_pos h1,decide_eq_true (by omega)];exact⟨rfl,rfl⟩
 rw[if_neg h1,decide_eq_false (by omega)];simp only[cond_false];rw[(qRp l (by omega)).1,(qRp l (by omega)).2];cases findN (badSl l) 0 l.length<;>exact⟨rfl,rfl⟩
structure VSol (l:List qB):Prop where
 ne:0<l.length
 len:l.length<=24
 ok:∀i,i<l.length->badSl l i=none
theorem GU (l:List qB):TP l=0↔VSol l:=by
 unfold TP;by_cases h0:l.length=0
 ·rw[if_pos h0];exact⟨λh=>absurd h (by decide),λh=>by have:=h.ne;omega⟩
 rw[if_neg h0];by_cases h1:24<l.length
 ·rw[if_pos h1];exact⟨λh=>absurd h (by decide),λh=>by have:=h.len;omega⟩
 rw[if_neg h1];cases hf:findN (badSl l) 0 l.length with
 |inl e=>
  obtain⟨i,a,b,c,d⟩:=XL hf;simp only;exact⟨λh=>absurd h (qUn c),λh=>by rw[h.ok i (by omega)] at c;cases c⟩
 |inr u=>exact⟨λ_=>⟨by omega,by omega,λi hi=>RK.1 hf i (by omega) (by omega)⟩,λ_=>rfl⟩
theorem VSol.at {l:List qB} (h:VSol l) {i:Nat} (hi:i<l.length):VS (l.getD i default).Sec/\(l.getD i default).Sec.Rows≠[]/\1<=(l.getD i default).Len/\lenTo l (i+1)<=20000:=qKt.1 (h.ok i hi)
theorem VSol.bd {l:List qB} (h:VSol l) {i:Nat} (hi:i<=l.length):(i:Int)<=lenTo l i/\lenTo l i<=20000:=qEl (λj hj=>h.ok j (by omega))
theorem VSol.mono {l:List qB} (h:VSol l):∀{j:Nat},j<=l.length->∀{i:Nat},i<=j->lenTo l i<=lenTo l j
 |0,_,i,hi=>by rw[show i=0 by omega];exact Int.le_refl _
 |j+1,hj,i,hi=>by
  by_cases e:i=j+1
  ·rw[e];exact Int.le_refl _
  ·have:=h.mono (j:=j) (by omega) (i:=i) (by omega);have:=(h.at (i:=j) (by omega)).2.2.1;rw[wJ];omega
def valL (l:List qB):List qB:=if TP l=0 then l else[]
theorem qLs (l:List qB):XS l=some (valL l):=by
 unfold XS valL;rw[(OO l).1];simp only[Option.bind_some];by_cases h:TP l=0
 ·rw[if_pos h,h];rfl
 ·rw[if_neg h,show(TP l !=0)=true by rw[bne_iff_ne];exact h];rfl
theorem ED {l:List qB} (h:VSol l):valL l=l:=by unfold valL;rw[if_pos ((GU l).2 h)]
def solLen (l:List qB):Int:=lenTo l l.length
theorem qOI {l:List qB} (h:VSol l):ZX l FUEL 0 0=some (solLen l)/\YR l FUEL 0 0=some (solLen l):=by
 have hl:=h.len;have f:∀k,foldN (λi s=>s+(l.getD i default).Len) 0 k 0=lenTo l k:=by
  intro k
  induction k with
  |zero=>rfl
  |succ k ih=>rw[JZ,ih,Nat.zero_add];rfl
 constructor
 ·have k:=(zX l.length (λn (s:Int) i=>ZX l n s i) (λi s=>s+(l.getD i default).Len) (λs=>s) (λi s=>s=lenTo l i) 0 (by omega) (by omega) (λn i s hi hs=>by
   have b:=h.bd (i:=i) (by omega);have b':=h.bd (i:=i+1) (by omega);rw[wJ] at b';refine⟨?_,by rw[hs,wJ]⟩;rw[ZX,decide_eq_true (by omega),qL (by omega) (by omega)];simp only[cond_true,Int.toNat_natCast,qP (show i<4611686018427387904 by omega)];rw[qF (by omega) (by omega)]) (λn s _=>by rw[ZX,decide_eq_false (by omega)];rfl) 0 rfl).1
  rw[Nat.sub_zero,f] at k;exact k
 ·have k:=(zX l.length (λn (s:Int) i=>YR l n s i) (λi s=>s+(l.getD i default).Len) (λs=>s) (λi s=>s=lenTo l i) 0 (by omega) (by omega) (λn i s hi hs=>by
   have b:=h.bd (i:=i) (by omega);have b':=h.bd (i:=i+1) (by omega);rw[wJ] at b';refine⟨?_,by rw[hs,wJ]⟩;rw[YR,decide_eq_true (by omega),qL (by omega) (by omega)];simp only[cond_true,Int.toNat_natCast,qP (show i<4611686018427387904 by omega)];rw[qF (by omega) (by omega)]) (λn s _=>by rw[YR,decide_eq_false (by omega)];rfl) 0 rfl).1
  rw[Nat.sub_zero,f] at k;exact k
theorem EB (l:List qB):QG l=some (solLen (valL l))/\qFw l=some (solLen (valL l)):=by
 unfold QG qFw;rw[qLs,(OO l).2];simp only[Option.bind_some];by_cases h:TP l=0
 ·have v:=(GU l).1 h;rw[ED v,h,(qOI v).1,(qOI v).2];exact⟨rfl,rfl⟩
 ·have e:valL l=[]:=by unfold valL;rw[if_neg h]
  rw[e,show(TP l !=0)=true by rw[bne_iff_ne];exact h];constructor
  ·rw[FUEL_eq];rfl
  ·rfl
def ext (l:List qB) (i:Nat):Span:=⟨lenTo l i,lenTo l (i+1)⟩
theorem zE {α:Type} [Inhabited α] (f:Nat->α) {n i:Nat} (h:i<n):((List.range n).map f).getD i default=f i:=by
 rw[List.getD_eq_getElem?_getD,List.getElem?_map,List.getElem?_range h];rfl
theorem qR2 {l:List qB} (h:VSol l\/l=[]):DP l=some ((List.range l.length).map (ext l)):=by
 unfold DP;rcases h with h|h
 ·have hl:=h.len;rw[qKe (by omega) (by omega),Int.toNat_natCast];simp only[cond_true];have k:=zX l.length (λn (s:List Span×Int) i=>JI l n s.1 s.2 i) (λi s=>(s.1.set i (ext l i),lenTo l (i+1))) (λs=>s.1)
   (λi s=>s.1.length=l.length/\s.2=lenTo l i/\∀j,j<i->s.1.getD j default=ext l j) 0 (by omega) (by omega)
   (λn i s hi hs=>by
    obtain⟨s1,s2⟩:=s;obtain⟨e1,e2,e3⟩:=hs;simp only at e1 e2 e3;have b:=h.bd (i:=i) (by omega);have b':=h.bd (i:=i+1) (by omega);refine⟨?_,by simpa using e1,rfl,λj hj=>?_⟩
    ·simp only;rw[JI,decide_eq_true (by omega),qL (by omega) (by omega),qL (by omega) (by omega)];simp only[cond_true,Int.toNat_natCast,qP (show i<4611686018427387904 by omega),e2];rw[wJ] at b';rw[qF (by omega) (by omega)];rfl
    ·simp only;by_cases c:j=i
     ·subst c;rw[CO _ (by omega)]
     ·rw[HO _ (λe=>c e.symm),e3 j (by omega)])
   (λn s _=>by rw[JI,decide_eq_false (by omega)];rfl) (List.replicate l.length (Span.mk 0 0),0) ⟨by simp,rfl,λj hj=>by omega⟩
  obtain⟨k1,k2,k3,k4⟩:=k;simp only[Nat.sub_zero] at k1 k2 k3 k4;rw[show((0:Nat):Int)=0 from rfl] at k1;rw[k1];simp only[Option.bind_some]
  congr 1
  refine qO1 (by simp[k2]) (λj hj=>?_);rw[k2] at hj;rw[k4 j hj,zE _ hj]
 ·subst h;rw[qKe (by simp) (by simp)];rw[FUEL_eq];rfl
theorem mx_b' {x y:Span} {M:Int} (h:x.B-x.A<=M) (h0:0<=M):(nrm (mxS x y)).B-(nrm (mxS x y)).A<=M:=by
 unfold nrm;cases he:empS (mxS x y) with
 |true=>simpa using h0
 |false=>
  simp only[cond_false];unfold mxS;have:=JA x.A y.A;have:=imin_or x.B y.B;simp only;omega
theorem ml_eq' {x:Span} (y:Span) (h:x.B-x.A<=100000):XA (nrm (mxS x y))=some (ml x y):=by
 rw[HF (by have:=mx_b' (y:=y) h (by omega);omega),qQJ];rfl
theorem qQW {l:List qB} (h:VSol l) {i:Nat} (hi:i<l.length):lenS (ext l i)=(l.getD i default).Len:=by
 have:=(h.at hi).2.2.1;rw[qL4,show(ext l i).A=lenTo l i from rfl,show(ext l i).B=lenTo l i+(l.getD i default).Len from wJ l i];rw[if_neg (by omega)];omega
def volS (l:List qB) (x y z:Span):Int:=sumN l.length (λi=>ml (ext l i) z*zG (l.getD i default).Sec x y)
theorem qO3 {s:qK} (h:VS s) (x y:Span):0<=zG s x y/\zG s x y<=1440000:=⟨qCy s x y,Int.le_trans (qGs s x y) (qOB h).2⟩
theorem qPh {l:List qB} (h:VSol l) (x y z:Span) {i:Nat} (hi:i<l.length):0<=ml (ext l i) z*zG (l.getD i default).Sec x y/\ml (ext l i) z*zG (l.getD i default).Sec x y<=1440000*(l.getD i default).Len:=by
 have a:=qO3 (h.at hi).1 x y;have b:=qCM (ext l i) z;have c:=qJY (ext l i) z;rw[qQW h hi] at c;refine⟨Int.mul_nonneg b a.1,?_⟩;have:=Int.mul_le_mul c a.2 a.1 (by have:=(h.at hi).2.2.1;omega);rw[Int.mul_comm 1440000];exact this
theorem qIA {l:List qB} (h:VSol l) (x y z:Span):∀{k:Nat},k<=l.length->0<=sumN k (λi=>ml (ext l i) z*zG (l.getD i default).Sec x y)/\sumN k (λi=>ml (ext l i) z*zG (l.getD i default).Sec x y)<=1440000*lenTo l k
 |0,_=>by simp[sumN,lenTo]
 |k+1,hk=>by
  have a:=qIA h x y z (k:=k) (by omega);have b:=qPh h x y z (i:=k) (by omega);rw[wJ];simp only[sumN];omega
theorem ET {l:List qB} (h:VSol l) (x y z:Span):0<=volS l x y z/\volS l x y z<=28800000000:=by
 have a:=qIA h x y z (Nat.le_refl l.length);have b:=(h.bd (Nat.le_refl l.length)).2;exact⟨a.1,Int.le_trans a.2 (by omega)⟩
theorem AG {l:List qB} (h:VSol l) (b:Box):QJ l b=some (volS l b.X b.Y b.Z):=by
 have hl:=h.len;unfold QJ;rw[qLs,ED h];simp only[Option.bind_some];rw[qR2 (.inl h)];simp only[Option.bind_some];have hlen:((List.range l.length).map (ext l)).length=l.length:=by simp
 have k:=(zX l.length (λn (s:Int) i=>QD b l ((List.range l.length).map (ext l)) n s i) (λi s=>s+ml (ext l i) b.Z*zG (l.getD i default).Sec b.X b.Y) (λs=>s)
  (λi s=>s=sumN i (λi=>ml (ext l i) b.Z*zG (l.getD i default).Sec b.X b.Y)) 0 (by omega) (by omega)
  (λn i s hi hs=>by
   have p:=qIA h b.X b.Y b.Z (k:=i) (by omega);have t:=qPh h b.X b.Y b.Z hi;have bd:=h.bd (i:=i) (by omega);have at':=(h.at hi).2.2;rw[wJ] at at';refine⟨?_,by rw[hs];rfl⟩;rw[QD,hlen,decide_eq_true (by omega),qL (by omega) (by omega)];simp only[cond_true,Int.toNat_natCast,qP (show i<4611686018427387904 by omega),zE _ hi,qBZ,Option.bind_some,BW];rw[ml_eq' b.Z (show(ext l i).B-(ext l i).A<=100000 by rw[show(ext l i).A=lenTo l i from rfl,show(ext l i).B=lenTo l i+(l.getD i default).Len from wJ l i];omega)];simp only[Option.bind_some,qMO];rw[qJe (h.at hi).1];by_cases c:ml (ext l i) b.Z>0
   ·rw[decide_eq_true c];simp only[cond_true];rw[qF (n:=ml (ext l i) b.Z*zG (l.getD i default).Sec b.X b.Y) (by omega) (by omega),qF (by omega) (by omega)]
   ·have z:ml (ext l i) b.Z=0:=by have:=qCM (ext l i) b.Z;omega
    rw[decide_eq_false c,z];simp)
  (λn s _=>by rw[QD,hlen,decide_eq_false (by omega)];rfl) 0 rfl)
 rw[show((0:Nat):Int)=0 from rfl] at k;rw[k.1];simp only[Option.bind_some];exact congrArg some k.2
theorem qSu {l:List qB} (h:VSol l) (r:Rect) (z:Span):JP l r z=some (volS l r.X r.Y z):=by
 unfold JP;rw[AG h];rfl
end Saw
end Go.SL
