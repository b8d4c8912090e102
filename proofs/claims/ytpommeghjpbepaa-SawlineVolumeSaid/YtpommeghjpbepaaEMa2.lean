/- Plain models that this seat's program does not reach. -/
import Derived.Test.YtpommeghjpbepaaEMod
import Derived.Test.YtpommeghjpbepaaEMa1
set_option linter.unusedVariables false
set_option linter.unusedSimpArgs false
namespace Go.SL
namespace Saw
def RZ (x5:Bool):Option Bool:=
 some x5
def qDI (a1:Product):Option Bool:=
 bif decide (a1.Thick≥1) then
  bif decide (a1.Thick<=600) then
   bif decide (a1.Width≥1) then
    RZ (decide (a1.Width<=600))
   else
    RZ false
  else
   RZ false
 else
  RZ false
def BE (a1:Product) (x6:Bool):Option (Int×Int):=
 bif x6 then
  some (0,0)
 else
  some (w64 (Int.tdiv (w64 ((w64 (a1.Thick*(w64 (1000+a1.Allow))))+999)) 1000),w64 (Int.tdiv (w64 ((w64 (a1.Width*(w64 (1000+a1.Allow))))+999)) 1000))
def qDF (a1:Product):Option (Int×Int):=
 (qDI a1).bind λv2=>
 bif !v2 then
  BE a1 true
 else
  bif decide (a1.Allow<0) then
   BE a1 true
  else
   BE a1 (decide (a1.Allow>200))
def TI (x5:Int) (rec_ref19_checkLengths_L1:Int->Option (Int⊕Unit)) (x14:Bool):Option (Int⊕Unit):=
 bif x14 then
  some (Sum.inl 11)
 else
  rec_ref19_checkLengths_L1 (w64 (x5+1))
def RQ (a1:Product) (x5:Int) (rec_ref19_checkLengths_L1:Int->Option (Int⊕Unit)) (x9:Bool):Option (Int⊕Unit):=
 bif x9 then
  some (Sum.inl 9)
 else
  bif decide (x5>0) then
   bif inb x5 a1.Lengths.length then
    bif inb (w64 (x5-1)) a1.Lengths.length then
     TI x5 rec_ref19_checkLengths_L1 (decide ((a1.Lengths.getD x5.toNat du)<=(a1.Lengths.getD (w64 (x5-1)).toNat du)))
    else none
   else none
  else
   TI x5 rec_ref19_checkLengths_L1 false
def yL (a1:Product):Nat->Int->Option (Int⊕Unit)
 |0,_=>none
 |n+1,x5=>
  bif decide (x5<(a1.Lengths.length:Int)) then
   bif inb x5 a1.Lengths.length then
    bif decide ((a1.Lengths.getD x5.toNat du)<100) then
     RQ a1 x5 (yL a1 n) true
    else
     RQ a1 x5 (yL a1 n) (decide ((a1.Lengths.getD x5.toNat du)>20000))
   else none
  else
   some (Sum.inr ())
def TK (x20:Int) (rec_ref19_checkLengths_L4:Int->Option (Int⊕Unit)) (x24:Bool):Option (Int⊕Unit):=
 bif x24 then
  some (Sum.inl 9)
 else
  rec_ref19_checkLengths_L4 (w64 (x20+1))
def yO (a1:Product):Nat->Int->Option (Int⊕Unit)
 |0,_=>none
 |n+1,x20=>
  bif decide (x20<(a1.Prices.length:Int)) then
   bif inb x20 a1.Prices.length then
    bif decide ((a1.Prices.getD x20.toNat du)<0) then
     TK x20 (yO a1 n) true
    else
     TK x20 (yO a1 n) (decide ((a1.Prices.getD x20.toNat du)>1000000))
   else none
  else
   some (Sum.inr ())
def LY (x3:Bool):Option Bool:=
 some x3
def LL (a1:Int):Option Bool:=
 bif decide (a1<(-600)) then
  LY true
 else
  LY (decide (a1>600))
def HA (a1:Span):Option Bool:=
 some (decide (a1.A≥a1.B))
def MC (x6:Int) (rec_ref10_Check_L2:Int->Option (Int⊕Unit)) (x14:Bool):Option (Int⊕Unit):=
 bif x14 then
  some (Sum.inl 9)
 else
  rec_ref10_Check_L2 (w64 (x6+1))
def WU (a1:qQ):Nat->Int->Option (Int⊕Unit)
 |0,_=>none
 |n+1,x6=>
  bif decide (x6<(a1.Rows.length:Int)) then
   bif inb x6 a1.Rows.length then
    (LL ((a1.Rows.getD x6.toNat du).A)).bind λv9=>
    bif v9 then
     MC x6 (WU a1 n) true
    else
     (LL ((a1.Rows.getD x6.toNat du).B)).bind λv12=>
     MC x6 (WU a1 n) v12
   else none
  else
   some (Sum.inr ())
def MN (x31:Int) (rec_ref10_Check_L5:Int->Option (Int⊕Unit)) (x37:Bool):Option (Int⊕Unit):=
 bif x37 then
  some (Sum.inl 19)
 else
  rec_ref10_Check_L5 (w64 (x31+1))
def WZ (a1:qQ):Nat->Int->Option (Int⊕Unit)
 |0,_=>none
 |n+1,x31=>
  bif decide (x31<(a1.Rows.length:Int)) then
   bif inb x31 a1.Rows.length then
    (HA (a1.Rows.getD x31.toNat du)).bind λv34=>
    bif v34 then
     MN x31 (WZ a1 n) (!((((a1.Rows.getD x31.toNat du).A)==0)&&((((a1.Rows.getD x31.toNat du).B)==0)&&true)))
    else
     MN x31 (WZ a1 n) false
   else none
  else
   some (Sum.inr ())
def MA (a1:qQ) (x29:Bool):Option Int:=
 bif x29 then
  some 19
 else
  (WZ a1 FUEL 0).bind λu41=>Sum.elim (λv42=>some v42) (λo39=>
  some 0) u41
def MT (a1:qQ) (x4:Bool):Option Int:=
 bif x4 then
  some 9
 else
  (WU a1 FUEL 0).bind λu18=>Sum.elim (λv19=>some v19) (λo16=>
  bif (a1.Rows.length:Int)==0 then
   bif a1.Low !=0 then
    some 19
   else
    some 0
  else
   bif inb 0 a1.Rows.length then
    (HA (a1.Rows.getD (0:Int).toNat du)).bind λv23=>
    bif v23 then
     MA a1 true
    else
     bif inb (w64 ((a1.Rows.length:Int)-1)) a1.Rows.length then
      (HA (a1.Rows.getD (w64 ((a1.Rows.length:Int)-1)).toNat du)).bind λv27=>
      MA a1 v27
     else none
   else none) u18
def CT (a1:qQ):Option Int:=
 bif decide ((a1.Rows.length:Int)>120) then
  some 4
 else
  bif decide (a1.Low<(-60)) then
   MT a1 true
  else
   MT a1 (decide (a1.Low>(w64 (60-(a1.Rows.length:Int)))))
def MF (a1:List qF) (x4:Int) (x5:Int) (rec_ref11_Check_L1:Int->Int->Option (Int⊕Unit)) (x13:Bool):Option (Int⊕Unit):=
 bif x13 then
  some (Sum.inl 9)
 else
  rec_ref11_Check_L1 (w64 (x4+((a1.getD x5.toNat du).Len))) (w64 (x5+1))
def JB (a1:List qF):Nat->Int->Int->Option (Int⊕Unit)
 |0,_,_=>none
 |n+1,x4,x5=>
  bif decide (x5<(a1.length:Int)) then
   bif inb x5 a1.length then
    (CT ((a1.getD x5.toNat du).Sec)).bind λv8=>
    bif v8 !=0 then
     some (Sum.inl v8)
    else
     bif (((((a1.getD x5.toNat du).Sec).Rows).length:Nat):Int)==0 then
      some (Sum.inl 18)
     else
      bif decide (((a1.getD x5.toNat du).Len)<1) then
       MF a1 x4 x5 (JB a1 n) true
      else
       MF a1 x4 x5 (JB a1 n) (decide (((a1.getD x5.toNat du).Len)>(w64 (20000-x4))))
   else none
  else
   some (Sum.inr ())
def CY (a1:List qF):Option Int:=
 bif (a1.length:Int)==0 then
  some 3
 else
  bif decide ((a1.length:Int)>24) then
   some 4
  else
   (JB a1 FUEL 0 0).bind λu17=>Sum.elim (λv18=>some v18) (λo15=>
   some 0) u17
def YB (a1:List qF):Nat->Int->Int->Option Int
 |0,_,_=>none
 |n+1,x5,x6=>
  bif decide (x6<(a1.length:Int)) then
   bif inb x6 a1.length then
    (YB a1 n) (w64 (x5+((a1.getD x6.toNat du).Len))) (w64 (x6+1))
   else none
  else
   some x5
def qB1 (a1:List qF):Option Int:=
 (CY a1).bind λv2=>
 bif v2 !=0 then
  some 0
 else
  (YB a1 FUEL 0 0).bind λo10=>
  some o10
def smallc (c:Int):Bool:=decide (97<=c)&&decide (c<=122)
def digitc (c:Int):Bool:=decide (48<=c)&&decide (c<=57)
theorem qFD (c:Int):KV c=some (smallc c):=by
 unfold KV UI smallc;cases decide (97<=c)<;>rfl
theorem qLa (c:Int):UQ c=some (digitc c):=by
 unfold UQ TU digitc;cases decide (48<=c)<;>rfl
def badc (b:ByteArray) (i:Nat):Option Bool:=bif smallc (strAt b i)||(digitc (strAt b i)||strAt b i==95) then none else some false
def isNm (b:ByteArray):Bool:=
 if b.size<1\/16<b.size then false
 else bif smallc (strAt b 0) then(match findN (badc b) 1 (b.size-1) with| .inl e=>e| .inr _=>true) else false
theorem qL7 (b:ByteArray):DL b=some (isNm b):=by
 unfold DL isNm PE;by_cases h1:b.size<1
 ·rw[ka (show(b.size:Int)<1 by omega),if_pos (.inl h1)];rfl
 rw[kd (show¬(b.size:Int)<1 by omega)];by_cases h2:16<b.size
 ·rw[ka (show(b.size:Int)>16 by omega),if_pos (.inr h2)];rfl
 rw[kd (show¬(b.size:Int)>16 by omega),if_neg (by omega),zF (by omega)];have L:jK b FUEL ((1:Nat):Int)=some (findN (badc b) 1 (b.size-1)):=by
  refine DR b.size (jK b) (badc b) 1 (by omega) (by omega) (λn i hi hN=>?_) (λn=>?_)
  ·rw[jK,ka (by omega),zF (by omega)];simp only[ki,ks,qFD,qLa,kg,PL,zL (show i<4611686018427387904 by omega),badc];cases smallc (strAt b i)<;>cases digitc (strAt b i)<;>cases h:strAt b i==95<;>simp[bne,h]
  ·rw[jK,kd (by omega)];rfl
 simp only[kp,ki,qFD,kg,Int.toNat_zero];rw[show(1:Int)=((1:Nat):Int) from rfl,L];cases smallc (strAt b 0) with
 |false=>rfl
 |true=>cases findN (badc b) 1 (b.size-1)<;>rfl
def okSz (n:Int):Bool:=decide (n≥1)&&decide (n<=600)
theorem qLr (n:Int):XD n=some (okSz n):=by
 unfold XD RG okSz;cases decide (n≥1)<;>rfl
def OY (n a:Int):Int:=Int.tdiv (n*(1000+a)+999) 1000
theorem EQ {n a:Int} (h1:1<=n) (h2:n<=600) (h3:0<=a) (h4:a<=200):w64 (Int.tdiv (w64 (w64 (n*w64 (1000+a))+999)) 1000)=OY n a/\n<=OY n a/\OY n a<=721:=by
 have h5:w64 (1000+a)=1000+a:=qX (by omega);have hb:=ge h2 (show 1000+a<=1200 by omega) (by omega) (by omega);have ha:=ge (kW n) (show 1000<=1000+a by omega) (by omega) (by omega);have h6:w64 (n*(1000+a))=n*(1000+a):=qX (by omega);have h7:w64 (n*(1000+a)+999)=n*(1000+a)+999:=qX (by omega);rw[h5,h6,h7];have h8:Int.tdiv (n*(1000+a)+999) 1000=(n*(1000+a)+999)/1000:=Int.tdiv_eq_ediv_of_nonneg (by omega);unfold OY;rw[h8];refine⟨qX (by omega),by omega,by omega⟩
def okG (p:Product):Bool:=okSz p.Thick&&(okSz p.Width&&(decide (0<=p.Allow)&&decide (p.Allow<=200)))
theorem qGp {p:Product}:okG p=true↔(1<=p.Thick/\p.Thick<=600)/\(1<=p.Width/\p.Width<=600)/\0<=p.Allow/\p.Allow<=200:=by
 unfold okG okSz;simp
def yC (p:Product):Int×Int:=bif okG p then(OY p.Thick p.Allow,OY p.Width p.Allow) else(0,0)
theorem qNg (p:Product):0<=(yC p).1/\(yC p).1<=721/\0<=(yC p).2/\(yC p).2<=721:=by
 unfold yC;cases h:okG p with
 |false=>simp only[kp];omega
 |true=>
  obtain⟨⟨a,b⟩,⟨c,d⟩,e,f⟩:=qGp.1 h;have g1:=EQ a b e f;have g2:=EQ c d e f;simp only[ki];omega
theorem qEh (p:Product):YF p=some (yC p)/\qDF p=some (yC p):=by
 unfold YF qDF qDI RZ JC BE VZ yC;simp only[qLr,kg];by_cases h:okG p=true
 ·obtain⟨⟨a,b⟩,⟨c,d⟩,e,f⟩:=qGp.1 h;have g1:=EQ a b e f;have g2:=EQ c d e f;rw[h];unfold okSz;rw[ka (show p.Thick≥1 from a),ka b,ka (show p.Width≥1 from c),ka d,kd (show¬p.Allow<0 by omega),kd (show¬p.Allow>200 by omega)];simp only[Bool.and_self,kS,ki,kp,kg];rw[g1.1,g2.1];exact⟨rfl,rfl⟩
 ·rw[Bool.not_eq_true] at h;have h':=h;unfold okG at h';rw[h];have e1:decide (p.Allow<0)=!decide (0<=p.Allow):=by by_cases q:p.Allow<0<;>simp[q]<;>omega
  have e2:decide (p.Allow>200)=!decide (p.Allow<=200):=by by_cases q:p.Allow>200<;>simp[q]<;>omega
  rw[e1,e2];unfold okSz at h'⊢
  revert h'
  cases decide (p.Thick≥1)<;>cases decide (p.Thick<=600)<;>cases decide (p.Width≥1)<;>cases decide (p.Width<=600)<;>cases decide (0<=p.Allow)<;>cases decide (p.Allow<=200)<;>simp
def badLen (p:Product) (i:Nat):Option Int:=
 if p.Lengths.getD i du<100\/20000<p.Lengths.getD i du then some 9
 else if 0<i/\p.Lengths.getD i du<=p.Lengths.getD (i-1) du then some 11 else none
def badPr (n:Int):Option Int:=if n<0\/1000000<n then some 9 else none
def qI7 (p:Product):Int:=
 if p.Lengths.length=0 then 3 else if 8<p.Lengths.length then 4 else if p.Prices.length≠p.Lengths.length then 19
 else match findN (badLen p) 0 p.Lengths.length with
  | .inl e=>e
  | .inr _=>match findE badPr p.Prices with
   | .inl e=>e
   | .inr _=>0
theorem lenL_eq (p:Product) (h:p.Lengths.length<=8):zM p FUEL 0=some (findN (badLen p) 0 p.Lengths.length)/\yL p FUEL 0=some (findN (badLen p) 0 p.Lengths.length):=by
 refine⟨DR p.Lengths.length (zM p) (badLen p) 0 (by omega) (by omega) (λn i hi hN=>?_) (λn=>?_),DR p.Lengths.length (yL p) (badLen p) 0 (by omega) (by omega) (λn i hi hN=>?_) (λn=>?_)⟩
 ·rw[zM,ka (by omega),zF (by omega)];simp only[ki,ks,WL,WK,zL (show i<4611686018427387904 by omega),badLen];by_cases h1:p.Lengths.getD i du<100
  ·rw[ka h1,if_pos (.inl h1)];rfl
  rw[kd h1];by_cases h2:20000<p.Lengths.getD i du
  ·rw[ka (show p.Lengths.getD i du>20000 from h2),if_pos (.inr h2)];rfl
  rw[kd (show¬p.Lengths.getD i du>20000 from h2),if_neg (by omega)];simp only[kp];by_cases h3:0<i
  ·rw[ka (show(i:Int)>0 by omega),show w64 ((i:Int)-1)=((i-1:Nat):Int) by rw[qX (by omega)];omega,zF (by omega)];simp only[ki,ks];by_cases h4:p.Lengths.getD i du<=p.Lengths.getD (i-1) du
   ·rw[ka h4,if_pos ⟨h3,h4⟩];rfl
   ·rw[kd h4,if_neg (λq=>h4 q.2)];rfl
  ·rw[kd (show¬(i:Int)>0 by omega),if_neg (λq=>h3 q.1)];rfl
 ·rw[zM,kd (by omega)];rfl
 ·rw[yL,ka (by omega),zF (by omega)];simp only[ki,ks,RQ,TI,zL (show i<4611686018427387904 by omega),badLen];by_cases h1:p.Lengths.getD i du<100
  ·rw[ka h1,if_pos (.inl h1)];rfl
  rw[kd h1];by_cases h2:20000<p.Lengths.getD i du
  ·rw[ka (show p.Lengths.getD i du>20000 from h2),if_pos (.inr h2)];rfl
  rw[kd (show¬p.Lengths.getD i du>20000 from h2),if_neg (by omega)];simp only[kp];by_cases h3:0<i
  ·rw[ka (show(i:Int)>0 by omega),show w64 ((i:Int)-1)=((i-1:Nat):Int) by rw[qX (by omega)];omega,zF (by omega),zF (by omega)];simp only[ki,ks];by_cases h4:p.Lengths.getD i du<=p.Lengths.getD (i-1) du
   ·rw[ka h4,if_pos ⟨h3,h4⟩];rfl
   ·rw[kd h4,if_neg (λq=>h4 q.2)];rfl
  ·rw[kd (show¬(i:Int)>0 by omega),if_neg (λq=>h3 q.1)];rfl
 ·rw[yL,kd (by omega)];rfl
theorem prL_eq (p:Product) (h:p.Prices.length<=8):zU p FUEL 0=some (findE badPr p.Prices)/\yO p FUEL 0=some (findE badPr p.Prices):=by
 refine⟨GG p.Prices (zU p) badPr (by omega) (λn i hN=>?_) (λn=>?_),GG p.Prices (yO p) badPr (by omega) (λn i hN=>?_) (λn=>?_)⟩
 ·rw[zU,ka (by omega),zF (by omega)];simp only[ki,ks,WJ,zL (show i<4611686018427387904 by omega),badPr];by_cases h1:p.Prices.getD i du<0
  ·rw[ka h1,if_pos (.inl h1)];rfl
  rw[kd h1];by_cases h2:1000000<p.Prices.getD i du
  ·rw[ka (show p.Prices.getD i du>1000000 from h2),if_pos (.inr h2)];rfl
  rw[kd (show¬p.Prices.getD i du>1000000 from h2),if_neg (by omega)];rfl
 ·rw[zU,kd (by omega)];rfl
 ·rw[yO,ka (by omega),zF (by omega)];simp only[ki,ks,TK,zL (show i<4611686018427387904 by omega),badPr];by_cases h1:p.Prices.getD i du<0
  ·rw[ka h1,if_pos (.inl h1)];rfl
  rw[kd h1];by_cases h2:1000000<p.Prices.getD i du
  ·rw[ka (show p.Prices.getD i du>1000000 from h2),if_pos (.inr h2)];rfl
  rw[kd (show¬p.Prices.getD i du>1000000 from h2),if_neg (by omega)];rfl
 ·rw[yO,kd (by omega)];rfl
def UO (p:Product):Int:=
 if p.Thick<5\/300<p.Thick\/p.Width<p.Thick\/600<p.Width\/p.Allow<0\/200<p.Allow\/p.Wane<0\/1000<p.Wane then 9
 else if 600<(yC p).2 then 9 else qI7 p
theorem qLq (p:Product):ZU p=some (UO p):=by
 unfold ZU jQ UO;by_cases h1:p.Thick<5
 ·rw[if_pos (.inl h1),ka h1];rfl
 rw[kd h1];by_cases h2:p.Thick>300
 ·rw[if_pos (by omega),ka h2];rfl
 rw[kd h2];by_cases h3:p.Width<p.Thick
 ·rw[if_pos (by omega),ka h3];rfl
 rw[kd h3];by_cases h4:p.Width>600
 ·rw[if_pos (by omega),ka h4];rfl
 rw[kd h4];simp only[kp];unfold jO;by_cases h5:p.Allow<0
 ·rw[if_pos (by omega),ka h5];rfl
 rw[kd h5];by_cases h6:p.Allow>200
 ·rw[if_pos (by omega),ka h6];rfl
 rw[kd h6];by_cases h7:p.Wane<0
 ·rw[if_pos (by omega),ka h7];rfl
 rw[kd h7];by_cases h8:p.Wane>1000
 ·rw[if_pos (by omega),ka h8];rfl
 rw[kd h8,if_neg (by omega)];simp only[kp,(qEh p).1,kg];by_cases h9:600<(yC p).2
 ·rw[if_pos h9,ka (show(yC p).2>600 from h9)];rfl
 rw[if_neg h9,kd (show¬(yC p).2>600 from h9)];unfold qI7;by_cases h0:p.Lengths.length=0
 ·rw[if_pos h0,h0];rfl
 rw[if_neg h0,show((p.Lengths.length:Int)==0)=false by rw[ua];omega];by_cases h1:8<p.Lengths.length
 ·rw[if_pos h1,ka (by omega)];rfl
 rw[if_neg h1,kd (by omega)];by_cases h2:p.Prices.length≠p.Lengths.length
 ·rw[if_pos h2,show((p.Prices.length:Int) !=(p.Lengths.length:Int))=true by rw[uo];omega];rfl
 rw[if_neg h2,show((p.Prices.length:Int) !=(p.Lengths.length:Int))=false by rw[uV];omega];simp only[kp];rw[(lenL_eq p (by omega)).1,(prL_eq p (by omega)).1];cases findN (badLen p) 0 p.Lengths.length with
 |inl e=>rfl
 |inr u=>cases findE badPr p.Prices<;>rfl
def twin (l:List Product) (x:Nat) (i:Nat):Option Int:=bif strEq ((l.getD i du).Name) ((l.getD x du).Name) then some 7 else none
def badP (l:List Product) (x:Nat):Option Int:=
 bif isNm (l.getD x du).Name then
  match findN (twin l x) 0 x with
  | .inl e=>some e
  | .inr _=>bif UO (l.getD x du) !=0 then some (UO (l.getD x du)) else none
 else some 6
def WF (l:List Product):Int:=if 16<l.length then 4 else match findN (badP l) 0 l.length with| .inl e=>e| .inr _=>0
def fnd (l:List Product) (s:ByteArray):Nat->Option (Int×Bool):=λi=>bif strEq ((l.getD i du).Name) s then some ((i:Int),true) else none
theorem Find_eq (l:List Product) (s:ByteArray) (h:l.length<=1000000):GO l s=some (match findN (fnd l s) 0 l.length with| .inl e=>e| .inr _=>(0,false)):=by
 unfold GO;have L:ZR l s FUEL ((0:Nat):Int)=some (findN (fnd l s) 0 l.length):=by
  refine DR l.length (ZR l s) _ 0 (by omega) (by omega) (λn i hi hN=>?_) (λn=>?_)
  ·rw[ZR,ka (by omega),zF (by omega)];simp only[ki,ks,zL (show i<4611686018427387904 by omega),fnd];cases strEq (l.getD i du).Name s<;>rfl
  ·rw[ZR,kd (by omega)];rfl
 rw[show(0:Int)=((0:Nat):Int) from rfl,L];simp only[kg];cases findN (fnd l s) 0 l.length<;>rfl
theorem qHh {α:Type} [Inhabited α] (l:List α) {i x:Nat} (h:i<x):(l.take x).getD i du=l.getD i du:=by
 simp[ke,kP,h]
theorem qLF (l:List Product) {x:Nat} (hx:x<=l.length):(match findN (fnd (l.take x) (l.getD x du).Name) 0 (l.take x).length with| .inl e=>e| .inr _=>((0:Int),false)).2=(match findN (twin l x) 0 x with| .inl _=>true| .inr _=>false)/\∀e,findN (twin l x) 0 x= .inl e->e=7:=by
 have hl:(l.take x).length=x:=by rw[kT];omega
 rw[hl];constructor
 ·cases h1:findN (twin l x) 0 x with
  |inr u=>
   have h2:findN (fnd (l.take x) (l.getD x du).Name) 0 x= .inr ():=by
    rw[TW];intro i a b;have:=TW.1 h1 i a b;unfold twin at this;unfold fnd;rw[qHh l (by omega)];cases hq:strEq (l.getD i du).Name (l.getD x du).Name with
    |true=>rw[hq] at this;cases this
    |false=>rfl
   rw[h2]
  |inl e=>
   obtain⟨i,a,b,c,d⟩:=YU h1;cases h2:findN (fnd (l.take x) (l.getD x du).Name) 0 x with
   |inr u=>
    have:=TW.1 h2 i a b;unfold fnd at this;rw[qHh l (by omega)] at this;unfold twin at c;cases hq:strEq (l.getD i du).Name (l.getD x du).Name with
    |true=>rw[hq] at this;cases this
    |false=>rw[hq] at c;cases c
   |inl e'=>
    obtain⟨j,a',b',c',d'⟩:=YU h2;unfold fnd at c';cases hq:strEq ((l.take x).getD j du).Name (l.getD x du).Name with
    |true=>rw[hq] at c';cases c';rfl
    |false=>rw[hq] at c';cases c'
 ·intro e h;obtain⟨i,a,b,c,d⟩:=YU h;unfold twin at c;cases hq:strEq (l.getD i du).Name (l.getD x du).Name with
  |true=>rw[hq] at c;cases c;rfl
  |false=>rw[hq] at c;cases c
theorem qIA (l:List Product):YH l=some (WF l):=by
 unfold YH WF;by_cases h:16<l.length
 ·rw[if_pos h,ka (by omega)];rfl
 rw[if_neg h,kd (by omega)];have L:QX l FUEL ((0:Nat):Int)=some (findN (badP l) 0 l.length):=by
  refine DR l.length (QX l) _ 0 (by omega) (by omega) (λn i hi hN=>?_) (λn=>?_)
  ·rw[QX,ka (by omega),zF (by omega)];have hs:slOk 0 (i:Int) l.length=true:=by unfold slOk;exact ka (by omega)
   simp only[ki,ks,zL (show i<4611686018427387904 by omega),qL7,kg,hs,Find_eq (l.take i) (l.getD i du).Name (by rw[kT];omega),qLq,badP];cases isNm (l.getD i du).Name with
   |false=>rfl
   |true=>
    obtain⟨f1,f2⟩:=qLF l (x:=i) (by omega);simp only[kS,kp,f1];cases hf:findN (twin l i) 0 i with
    |inl e=>rw[f2 e hf];rfl
    |inr u=>
     simp only[kp,ki];by_cases hc:UO (l.getD i du)=0
     ·rw[hc];rfl
     ·rw[show(UO (l.getD i du) !=0)=true by rw[uo];exact hc];rfl
  ·rw[QX,kd (by omega)];rfl
 rw[show(0:Int)=((0:Nat):Int) from rfl,L];simp only[kp,kg];cases findN (badP l) 0 l.length<;>rfl
theorem qK5 {n b:Nat} (h1:n<=1000000) (h2:b<=1000000):room n b=true:=room_t (by
 have:=Nat.mul_le_mul h1 h2;omega)
theorem YO {n b:Nat} (h:n<=1000000/\b<=1000000):room n b=true:=qK5 h.1 h.2
theorem qHb {l:List Product} (h:¬WF l≠0):l.length<=16:=by
 unfold WF at h;by_cases q:16<l.length
 ·rw[if_pos q] at h;exact absurd (by decide) h
 ·omega
end Saw
end Go.SL
