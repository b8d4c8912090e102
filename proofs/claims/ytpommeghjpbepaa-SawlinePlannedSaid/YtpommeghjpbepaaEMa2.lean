/- Plain models that this seat's program does not reach. -/
import Derived.Test.YtpommeghjpbepaaEMod
import Derived.Test.YtpommeghjpbepaaEMa1
set_option linter.unusedVariables false
set_option linter.unusedSimpArgs false
namespace Go.SL
namespace Saw
def UY (x5:Bool):Option Bool:=
 some x5
def qEP (a1:Product):Option Bool:=
 bif decide (a1.Thick≥1) then
  bif decide (a1.Thick<=600) then
   bif decide (a1.Width≥1) then
    UY (decide (a1.Width<=600))
   else
    UY false
  else
   UY false
 else
  UY false
def NE (a1:Product) (x6:Bool):Option (Int×Int):=
 bif x6 then
  some (0,0)
 else
  some (w64 (Int.tdiv (w64 ((w64 (a1.Thick*(w64 (1000+a1.Allow))))+999)) 1000),w64 (Int.tdiv (w64 ((w64 (a1.Width*(w64 (1000+a1.Allow))))+999)) 1000))
def qEJ (a1:Product):Option (Int×Int):=
 (qEP a1).bind λv2=>
 bif !v2 then
  NE a1 true
 else
  bif decide (a1.Allow<0) then
   NE a1 true
  else
   NE a1 (decide (a1.Allow>200))
def UD (x5:Int) (rec_ref19_checkLengths_L1:Int->Option (Int⊕Unit)) (x14:Bool):Option (Int⊕Unit):=
 bif x14 then
  some (Sum.inl 11)
 else
  rec_ref19_checkLengths_L1 (w64 (x5+1))
def UU (a1:Product) (x5:Int) (rec_ref19_checkLengths_L1:Int->Option (Int⊕Unit)) (x9:Bool):Option (Int⊕Unit):=
 bif x9 then
  some (Sum.inl 9)
 else
  bif decide (x5>0) then
   bif inb x5 a1.Lengths.length then
    bif inb (w64 (x5-1)) a1.Lengths.length then
     UD x5 rec_ref19_checkLengths_L1 (decide ((a1.Lengths.getD x5.toNat du)<=(a1.Lengths.getD (w64 (x5-1)).toNat du)))
    else none
   else none
  else
   UD x5 rec_ref19_checkLengths_L1 false
def QB (a1:Product):Nat->Int->Option (Int⊕Unit)
 |0,_=>none
 |n+1,x5=>
  bif decide (x5<(a1.Lengths.length:Int)) then
   bif inb x5 a1.Lengths.length then
    bif decide ((a1.Lengths.getD x5.toNat du)<100) then
     UU a1 x5 (QB a1 n) true
    else
     UU a1 x5 (QB a1 n) (decide ((a1.Lengths.getD x5.toNat du)>20000))
   else none
  else
   some (Sum.inr ())
def UL (x20:Int) (rec_ref19_checkLengths_L4:Int->Option (Int⊕Unit)) (x24:Bool):Option (Int⊕Unit):=
 bif x24 then
  some (Sum.inl 9)
 else
  rec_ref19_checkLengths_L4 (w64 (x20+1))
def QA (a1:Product):Nat->Int->Option (Int⊕Unit)
 |0,_=>none
 |n+1,x20=>
  bif decide (x20<(a1.Prices.length:Int)) then
   bif inb x20 a1.Prices.length then
    bif decide ((a1.Prices.getD x20.toNat du)<0) then
     UL x20 (QA a1 n) true
    else
     UL x20 (QA a1 n) (decide ((a1.Prices.getD x20.toNat du)>1000000))
   else none
  else
   some (Sum.inr ())
def HP (x3:Bool):Option Bool:=
 some x3
def MP (a1:Int):Option Bool:=
 bif decide (a1<(-600)) then
  HP true
 else
  HP (decide (a1>600))
def ED (a1:Span):Option Bool:=
 some (decide (a1.A≥a1.B))
def SH (x6:Int) (rec_ref10_Check_L2:Int->Option (Int⊕Unit)) (x14:Bool):Option (Int⊕Unit):=
 bif x14 then
  some (Sum.inl 9)
 else
  rec_ref10_Check_L2 (w64 (x6+1))
def JZ (a1:qR):Nat->Int->Option (Int⊕Unit)
 |0,_=>none
 |n+1,x6=>
  bif decide (x6<(a1.Rows.length:Int)) then
   bif inb x6 a1.Rows.length then
    (MP ((a1.Rows.getD x6.toNat du).A)).bind λv9=>
    bif v9 then
     SH x6 (JZ a1 n) true
    else
     (MP ((a1.Rows.getD x6.toNat du).B)).bind λv12=>
     SH x6 (JZ a1 n) v12
   else none
  else
   some (Sum.inr ())
def HX (x31:Int) (rec_ref10_Check_L5:Int->Option (Int⊕Unit)) (x37:Bool):Option (Int⊕Unit):=
 bif x37 then
  some (Sum.inl 19)
 else
  rec_ref10_Check_L5 (w64 (x31+1))
def YD (a1:qR):Nat->Int->Option (Int⊕Unit)
 |0,_=>none
 |n+1,x31=>
  bif decide (x31<(a1.Rows.length:Int)) then
   bif inb x31 a1.Rows.length then
    (ED (a1.Rows.getD x31.toNat du)).bind λv34=>
    bif v34 then
     HX x31 (YD a1 n) (!((((a1.Rows.getD x31.toNat du).A)==0)&&((((a1.Rows.getD x31.toNat du).B)==0)&&true)))
    else
     HX x31 (YD a1 n) false
   else none
  else
   some (Sum.inr ())
def SG (a1:qR) (x29:Bool):Option Int:=
 bif x29 then
  some 19
 else
  (YD a1 FUEL 0).bind λu41=>Sum.elim (λv42=>some v42) (λo39=>
  some 0) u41
def SR (a1:qR) (x4:Bool):Option Int:=
 bif x4 then
  some 9
 else
  (JZ a1 FUEL 0).bind λu18=>Sum.elim (λv19=>some v19) (λo16=>
  bif (a1.Rows.length:Int)==0 then
   bif a1.Low !=0 then
    some 19
   else
    some 0
  else
   bif inb 0 a1.Rows.length then
    (ED (a1.Rows.getD (0:Int).toNat du)).bind λv23=>
    bif v23 then
     SG a1 true
    else
     bif inb (w64 ((a1.Rows.length:Int)-1)) a1.Rows.length then
      (ED (a1.Rows.getD (w64 ((a1.Rows.length:Int)-1)).toNat du)).bind λv27=>
      SG a1 v27
     else none
   else none) u18
def qAX (a1:qR):Option Int:=
 bif decide ((a1.Rows.length:Int)>120) then
  some 4
 else
  bif decide (a1.Low<(-60)) then
   SR a1 true
  else
   SR a1 (decide (a1.Low>(w64 (60-(a1.Rows.length:Int)))))
def SP (a1:List qG) (x4:Int) (x5:Int) (rec_ref11_Check_L1:Int->Int->Option (Int⊕Unit)) (x13:Bool):Option (Int⊕Unit):=
 bif x13 then
  some (Sum.inl 9)
 else
  rec_ref11_Check_L1 (w64 (x4+((a1.getD x5.toNat du).Len))) (w64 (x5+1))
def JW (a1:List qG):Nat->Int->Int->Option (Int⊕Unit)
 |0,_,_=>none
 |n+1,x4,x5=>
  bif decide (x5<(a1.length:Int)) then
   bif inb x5 a1.length then
    (qAX ((a1.getD x5.toNat du).Sec)).bind λv8=>
    bif v8 !=0 then
     some (Sum.inl v8)
    else
     bif (((((a1.getD x5.toNat du).Sec).Rows).length:Nat):Int)==0 then
      some (Sum.inl 18)
     else
      bif decide (((a1.getD x5.toNat du).Len)<1) then
       SP a1 x4 x5 (JW a1 n) true
      else
       SP a1 x4 x5 (JW a1 n) (decide (((a1.getD x5.toNat du).Len)>(w64 (20000-x4))))
   else none
  else
   some (Sum.inr ())
def qA9 (a1:List qG):Option Int:=
 bif (a1.length:Int)==0 then
  some 3
 else
  bif decide ((a1.length:Int)>24) then
   some 4
  else
   (JW a1 FUEL 0 0).bind λu17=>Sum.elim (λv18=>some v18) (λo15=>
   some 0) u17
def YT (a1:List qG):Nat->Int->Int->Option Int
 |0,_,_=>none
 |n+1,x5,x6=>
  bif decide (x6<(a1.length:Int)) then
   bif inb x6 a1.length then
    (YT a1 n) (w64 (x5+((a1.getD x6.toNat du).Len))) (w64 (x6+1))
   else none
  else
   some x5
def qDl (a1:List qG):Option Int:=
 (qA9 a1).bind λv2=>
 bif v2 !=0 then
  some 0
 else
  (YT a1 FUEL 0 0).bind λo10=>
  some o10
def smallc (c:Int):Bool:=decide (97<=c)&&decide (c<=122)
def digitc (c:Int):Bool:=decide (48<=c)&&decide (c<=57)
theorem qGJ (c:Int):PX c=some (smallc c):=by
 unfold PX VC smallc;cases decide (97<=c)<;>rfl
theorem qME (c:Int):GL c=some (digitc c):=by
 unfold GL VI digitc;cases decide (48<=c)<;>rfl
def badc (b:ByteArray) (i:Nat):Option Bool:=bif smallc (strAt b i)||(digitc (strAt b i)||strAt b i==95) then none else some false
def isNm (b:ByteArray):Bool:=
 if b.size<1\/16<b.size then false
 else bif smallc (strAt b 0) then(match findN (badc b) 1 (b.size-1) with| .inl e=>e| .inr _=>true) else false
theorem qMI (b:ByteArray):NA b=some (isNm b):=by
 unfold NA isNm RZ;by_cases h1:b.size<1
 ·rw[ka (show(b.size:Int)<1 by omega),if_pos (.inl h1)];rfl
 rw[ke (show¬(b.size:Int)<1 by omega)];by_cases h2:16<b.size
 ·rw[ka (show(b.size:Int)>16 by omega),if_pos (.inr h2)];rfl
 rw[ke (show¬(b.size:Int)>16 by omega),if_neg (by omega),zJ (by omega)];have L:jW b FUEL ((1:Nat):Int)=some (findN (badc b) 1 (b.size-1)):=by
  refine ND b.size (jW b) (badc b) 1 (by omega) (by omega) (λn i hi hN=>?_) (λn=>?_)
  ·rw[jW,ka (by omega),zJ (by omega)];simp only[kn,ks,qGJ,qME,kg,TB,zN (show i<4611686018427387904 by omega),badc];cases smallc (strAt b i)<;>cases digitc (strAt b i)<;>cases h:strAt b i==95<;>simp[bne,h]
  ·rw[jW,ke (by omega)];rfl
 simp only[kp,kn,qGJ,kg,Int.toNat_zero];rw[show(1:Int)=((1:Nat):Int) from rfl,L];cases smallc (strAt b 0) with
 |false=>rfl
 |true=>cases findN (badc b) 1 (b.size-1)<;>rfl
def okSz (n:Int):Bool:=decide (n≥1)&&decide (n<=600)
theorem qNh (n:Int):KI n=some (okSz n):=by
 unfold KI TO okSz;cases decide (n≥1)<;>rfl
def qAr (n a:Int):Int:=Int.tdiv (n*(1000+a)+999) 1000
theorem OA {n a:Int} (h1:1<=n) (h2:n<=600) (h3:0<=a) (h4:a<=200):w64 (Int.tdiv (w64 (w64 (n*w64 (1000+a))+999)) 1000)=qAr n a/\n<=qAr n a/\qAr n a<=721:=by
 have h5:w64 (1000+a)=1000+a:=qU (by omega);have hb:=gh h2 (show 1000+a<=1200 by omega) (by omega) (by omega);have ha:=gh (kP n) (show 1000<=1000+a by omega) (by omega) (by omega);have h6:w64 (n*(1000+a))=n*(1000+a):=qU (by omega);have h7:w64 (n*(1000+a)+999)=n*(1000+a)+999:=qU (by omega);rw[h5,h6,h7];have h8:Int.tdiv (n*(1000+a)+999) 1000=(n*(1000+a)+999)/1000:=Int.tdiv_eq_ediv_of_nonneg (by omega);unfold qAr;rw[h8];refine⟨qU (by omega),by omega,by omega⟩
def okG (p:Product):Bool:=okSz p.Thick&&(okSz p.Width&&(decide (0<=p.Allow)&&decide (p.Allow<=200)))
theorem qHZ {p:Product}:okG p=true↔(1<=p.Thick/\p.Thick<=600)/\(1<=p.Width/\p.Width<=600)/\0<=p.Allow/\p.Allow<=200:=by
 unfold okG okSz;simp
def yS (p:Product):Int×Int:=bif okG p then(qAr p.Thick p.Allow,qAr p.Width p.Allow) else(0,0)
theorem qN5 (p:Product):0<=(yS p).1/\(yS p).1<=721/\0<=(yS p).2/\(yS p).2<=721:=by
 unfold yS;cases h:okG p with
 |false=>simp only[kp];omega
 |true=>
  obtain⟨⟨a,b⟩,⟨c,d⟩,e,f⟩:=qHZ.1 h;have g1:=OA a b e f;have g2:=OA c d e f;simp only[kn];omega
theorem qFq (p:Product):XF p=some (yS p)/\qEJ p=some (yS p):=by
 unfold XF qEJ qEP UY JR NE DW yS;simp only[qNh,kg];by_cases h:okG p=true
 ·obtain⟨⟨a,b⟩,⟨c,d⟩,e,f⟩:=qHZ.1 h;have g1:=OA a b e f;have g2:=OA c d e f;rw[h];unfold okSz;rw[ka (show p.Thick≥1 from a),ka b,ka (show p.Width≥1 from c),ka d,ke (show¬p.Allow<0 by omega),ke (show¬p.Allow>200 by omega)];simp only[Bool.and_self,kV,kn,kp,kg];rw[g1.1,g2.1];exact⟨rfl,rfl⟩
 ·rw[Bool.not_eq_true] at h;have h':=h;unfold okG at h';rw[h];have e1:decide (p.Allow<0)=!decide (0<=p.Allow):=by by_cases q:p.Allow<0<;>simp[q]<;>omega
  have e2:decide (p.Allow>200)=!decide (p.Allow<=200):=by by_cases q:p.Allow>200<;>simp[q]<;>omega
  rw[e1,e2];unfold okSz at h'⊢
  revert h'
  cases decide (p.Thick≥1)<;>cases decide (p.Thick<=600)<;>cases decide (p.Width≥1)<;>cases decide (p.Width<=600)<;>cases decide (0<=p.Allow)<;>cases decide (p.Allow<=200)<;>simp
def badLen (p:Product) (i:Nat):Option Int:=
 if p.Lengths.getD i du<100\/20000<p.Lengths.getD i du then some 9
 else if 0<i/\p.Lengths.getD i du<=p.Lengths.getD (i-1) du then some 11 else none
def badPr (n:Int):Option Int:=if n<0\/1000000<n then some 9 else none
def qKp (p:Product):Int:=
 if p.Lengths.length=0 then 3 else if 8<p.Lengths.length then 4 else if p.Prices.length≠p.Lengths.length then 19
 else match findN (badLen p) 0 p.Lengths.length with
  | .inl e=>e
  | .inr _=>match findE badPr p.Prices with
   | .inl e=>e
   | .inr _=>0
theorem lenL_eq (p:Product) (h:p.Lengths.length<=8):zT p FUEL 0=some (findN (badLen p) 0 p.Lengths.length)/\QB p FUEL 0=some (findN (badLen p) 0 p.Lengths.length):=by
 refine⟨ND p.Lengths.length (zT p) (badLen p) 0 (by omega) (by omega) (λn i hi hN=>?_) (λn=>?_),ND p.Lengths.length (QB p) (badLen p) 0 (by omega) (by omega) (λn i hi hN=>?_) (λn=>?_)⟩
 ·rw[zT,ka (by omega),zJ (by omega)];simp only[kn,ks,JG,JE,zN (show i<4611686018427387904 by omega),badLen];by_cases h1:p.Lengths.getD i du<100
  ·rw[ka h1,if_pos (.inl h1)];rfl
  rw[ke h1];by_cases h2:20000<p.Lengths.getD i du
  ·rw[ka (show p.Lengths.getD i du>20000 from h2),if_pos (.inr h2)];rfl
  rw[ke (show¬p.Lengths.getD i du>20000 from h2),if_neg (by omega)];simp only[kp];by_cases h3:0<i
  ·rw[ka (show(i:Int)>0 by omega),show w64 ((i:Int)-1)=((i-1:Nat):Int) by rw[qU (by omega)];omega,zJ (by omega)];simp only[kn,ks];by_cases h4:p.Lengths.getD i du<=p.Lengths.getD (i-1) du
   ·rw[ka h4,if_pos ⟨h3,h4⟩];rfl
   ·rw[ke h4,if_neg (λq=>h4 q.2)];rfl
  ·rw[ke (show¬(i:Int)>0 by omega),if_neg (λq=>h3 q.1)];rfl
 ·rw[zT,ke (by omega)];rfl
 ·rw[QB,ka (by omega),zJ (by omega)];simp only[kn,ks,UU,UD,zN (show i<4611686018427387904 by omega),badLen];by_cases h1:p.Lengths.getD i du<100
  ·rw[ka h1,if_pos (.inl h1)];rfl
  rw[ke h1];by_cases h2:20000<p.Lengths.getD i du
  ·rw[ka (show p.Lengths.getD i du>20000 from h2),if_pos (.inr h2)];rfl
  rw[ke (show¬p.Lengths.getD i du>20000 from h2),if_neg (by omega)];simp only[kp];by_cases h3:0<i
  ·rw[ka (show(i:Int)>0 by omega),show w64 ((i:Int)-1)=((i-1:Nat):Int) by rw[qU (by omega)];omega,zJ (by omega),zJ (by omega)];simp only[kn,ks];by_cases h4:p.Lengths.getD i du<=p.Lengths.getD (i-1) du
   ·rw[ka h4,if_pos ⟨h3,h4⟩];rfl
   ·rw[ke h4,if_neg (λq=>h4 q.2)];rfl
  ·rw[ke (show¬(i:Int)>0 by omega),if_neg (λq=>h3 q.1)];rfl
 ·rw[QB,ke (by omega)];rfl
theorem prL_eq (p:Product) (h:p.Prices.length<=8):wC p FUEL 0=some (findE badPr p.Prices)/\QA p FUEL 0=some (findE badPr p.Prices):=by
 refine⟨BL p.Prices (wC p) badPr (by omega) (λn i hN=>?_) (λn=>?_),BL p.Prices (QA p) badPr (by omega) (λn i hN=>?_) (λn=>?_)⟩
 ·rw[wC,ka (by omega),zJ (by omega)];simp only[kn,ks,JF,zN (show i<4611686018427387904 by omega),badPr];by_cases h1:p.Prices.getD i du<0
  ·rw[ka h1,if_pos (.inl h1)];rfl
  rw[ke h1];by_cases h2:1000000<p.Prices.getD i du
  ·rw[ka (show p.Prices.getD i du>1000000 from h2),if_pos (.inr h2)];rfl
  rw[ke (show¬p.Prices.getD i du>1000000 from h2),if_neg (by omega)];rfl
 ·rw[wC,ke (by omega)];rfl
 ·rw[QA,ka (by omega),zJ (by omega)];simp only[kn,ks,UL,zN (show i<4611686018427387904 by omega),badPr];by_cases h1:p.Prices.getD i du<0
  ·rw[ka h1,if_pos (.inl h1)];rfl
  rw[ke h1];by_cases h2:1000000<p.Prices.getD i du
  ·rw[ka (show p.Prices.getD i du>1000000 from h2),if_pos (.inr h2)];rfl
  rw[ke (show¬p.Prices.getD i du>1000000 from h2),if_neg (by omega)];rfl
 ·rw[QA,ke (by omega)];rfl
def GN (p:Product):Int:=
 if p.Thick<5\/300<p.Thick\/p.Width<p.Thick\/600<p.Width\/p.Allow<0\/200<p.Allow\/p.Wane<0\/1000<p.Wane then 9
 else if 600<(yS p).2 then 9 else qKp p
theorem qNG (p:Product):WD p=some (GN p):=by
 unfold WD yF GN;by_cases h1:p.Thick<5
 ·rw[if_pos (.inl h1),ka h1];rfl
 rw[ke h1];by_cases h2:p.Thick>300
 ·rw[if_pos (by omega),ka h2];rfl
 rw[ke h2];by_cases h3:p.Width<p.Thick
 ·rw[if_pos (by omega),ka h3];rfl
 rw[ke h3];by_cases h4:p.Width>600
 ·rw[if_pos (by omega),ka h4];rfl
 rw[ke h4];simp only[kp];unfold yE;by_cases h5:p.Allow<0
 ·rw[if_pos (by omega),ka h5];rfl
 rw[ke h5];by_cases h6:p.Allow>200
 ·rw[if_pos (by omega),ka h6];rfl
 rw[ke h6];by_cases h7:p.Wane<0
 ·rw[if_pos (by omega),ka h7];rfl
 rw[ke h7];by_cases h8:p.Wane>1000
 ·rw[if_pos (by omega),ka h8];rfl
 rw[ke h8,if_neg (by omega)];simp only[kp,(qFq p).1,kg];by_cases h9:600<(yS p).2
 ·rw[if_pos h9,ka (show(yS p).2>600 from h9)];rfl
 rw[if_neg h9,ke (show¬(yS p).2>600 from h9)];unfold qKp;by_cases h0:p.Lengths.length=0
 ·rw[if_pos h0,h0];rfl
 rw[if_neg h0,show((p.Lengths.length:Int)==0)=false by rw[uf];omega];by_cases h1:8<p.Lengths.length
 ·rw[if_pos h1,ka (by omega)];rfl
 rw[if_neg h1,ke (by omega)];by_cases h2:p.Prices.length≠p.Lengths.length
 ·rw[if_pos h2,show((p.Prices.length:Int) !=(p.Lengths.length:Int))=true by rw[ur];omega];rfl
 rw[if_neg h2,show((p.Prices.length:Int) !=(p.Lengths.length:Int))=false by rw[uZ];omega];simp only[kp];rw[(lenL_eq p (by omega)).1,(prL_eq p (by omega)).1];cases findN (badLen p) 0 p.Lengths.length with
 |inl e=>rfl
 |inr u=>cases findE badPr p.Prices<;>rfl
def twin (l:List Product) (x:Nat) (i:Nat):Option Int:=bif strEq ((l.getD i du).Name) ((l.getD x du).Name) then some 7 else none
def badP (l:List Product) (x:Nat):Option Int:=
 bif isNm (l.getD x du).Name then
  match findN (twin l x) 0 x with
  | .inl e=>some e
  | .inr _=>bif GN (l.getD x du) !=0 then some (GN (l.getD x du)) else none
 else some 6
def ZL (l:List Product):Int:=if 16<l.length then 4 else match findN (badP l) 0 l.length with| .inl e=>e| .inr _=>0
def fnd (l:List Product) (s:ByteArray):Nat->Option (Int×Bool):=λi=>bif strEq ((l.getD i du).Name) s then some ((i:Int),true) else none
theorem Find_eq (l:List Product) (s:ByteArray) (h:l.length<=1000000):BT l s=some (match findN (fnd l s) 0 l.length with| .inl e=>e| .inr _=>(0,false)):=by
 unfold BT;have L:WT l s FUEL ((0:Nat):Int)=some (findN (fnd l s) 0 l.length):=by
  refine ND l.length (WT l s) _ 0 (by omega) (by omega) (λn i hi hN=>?_) (λn=>?_)
  ·rw[WT,ka (by omega),zJ (by omega)];simp only[kn,ks,zN (show i<4611686018427387904 by omega),fnd];cases strEq (l.getD i du).Name s<;>rfl
  ·rw[WT,ke (by omega)];rfl
 rw[show(0:Int)=((0:Nat):Int) from rfl,L];simp only[kg];cases findN (fnd l s) 0 l.length<;>rfl
theorem qIl {α:Type} [Inhabited α] (l:List α) {i x:Nat} (h:i<x):(l.take x).getD i du=l.getD i du:=by
 simp[kd,kQ,h]
theorem qNz (l:List Product) {x:Nat} (hx:x<=l.length):(match findN (fnd (l.take x) (l.getD x du).Name) 0 (l.take x).length with| .inl e=>e| .inr _=>((0:Int),false)).2=(match findN (twin l x) 0 x with| .inl _=>true| .inr _=>false)/\∀e,findN (twin l x) 0 x= .inl e->e=7:=by
 have hl:(l.take x).length=x:=by rw[kW];omega
 rw[hl];constructor
 ·cases h1:findN (twin l x) 0 x with
  |inr u=>
   have h2:findN (fnd (l.take x) (l.getD x du).Name) 0 x= .inr ():=by
    rw[VN];intro i a b;have:=VN.1 h1 i a b;unfold twin at this;unfold fnd;rw[qIl l (by omega)];cases hq:strEq (l.getD i du).Name (l.getD x du).Name with
    |true=>rw[hq] at this;cases this
    |false=>rfl
   rw[h2]
  |inl e=>
   obtain⟨i,a,b,c,d⟩:=XW h1;cases h2:findN (fnd (l.take x) (l.getD x du).Name) 0 x with
   |inr u=>
    have:=VN.1 h2 i a b;unfold fnd at this;rw[qIl l (by omega)] at this;unfold twin at c;cases hq:strEq (l.getD i du).Name (l.getD x du).Name with
    |true=>rw[hq] at this;cases this
    |false=>rw[hq] at c;cases c
   |inl e'=>
    obtain⟨j,a',b',c',d'⟩:=XW h2;unfold fnd at c';cases hq:strEq ((l.take x).getD j du).Name (l.getD x du).Name with
    |true=>rw[hq] at c';cases c';rfl
    |false=>rw[hq] at c';cases c'
 ·intro e h;obtain⟨i,a,b,c,d⟩:=XW h;unfold twin at c;cases hq:strEq (l.getD i du).Name (l.getD x du).Name with
  |true=>rw[hq] at c;cases c;rfl
  |false=>rw[hq] at c;cases c
theorem qJY (l:List Product):XK l=some (ZL l):=by
 unfold XK ZL;by_cases h:16<l.length
 ·rw[if_pos h,ka (by omega)];rfl
 rw[if_neg h,ke (by omega)];have L:ZP l FUEL ((0:Nat):Int)=some (findN (badP l) 0 l.length):=by
  refine ND l.length (ZP l) _ 0 (by omega) (by omega) (λn i hi hN=>?_) (λn=>?_)
  ·rw[ZP,ka (by omega),zJ (by omega)];have hs:slOk 0 (i:Int) l.length=true:=by unfold slOk;exact ka (by omega)
   simp only[kn,ks,zN (show i<4611686018427387904 by omega),qMI,kg,hs,Find_eq (l.take i) (l.getD i du).Name (by rw[kW];omega),qNG,badP];cases isNm (l.getD i du).Name with
   |false=>rfl
   |true=>
    obtain⟨f1,f2⟩:=qNz l (x:=i) (by omega);simp only[kV,kp,f1];cases hf:findN (twin l i) 0 i with
    |inl e=>rw[f2 e hf];rfl
    |inr u=>
     simp only[kp,kn];by_cases hc:GN (l.getD i du)=0
     ·rw[hc];rfl
     ·rw[show(GN (l.getD i du) !=0)=true by rw[ur];exact hc];rfl
  ·rw[ZP,ke (by omega)];rfl
 rw[show(0:Int)=((0:Nat):Int) from rfl,L];simp only[kp,kg];cases findN (badP l) 0 l.length<;>rfl
theorem qL6 {n b:Nat} (h1:n<=1000000) (h2:b<=1000000):room n b=true:=room_t (by
 have:=Nat.mul_le_mul h1 h2;omega)
theorem WI {n b:Nat} (h:n<=1000000/\b<=1000000):room n b=true:=qL6 h.1 h.2
theorem qIm {l:List Product} (h:¬ZL l≠0):l.length<=16:=by
 unfold ZL at h;by_cases q:16<l.length
 ·rw[if_pos q] at h;exact absurd (by decide) h
 ·omega
end Saw
end Go.SL
