/- Scan's plain mathematics, part 6: sameness; merging; ScanMerges. -/
import Derived.Test.YthbamnkheinbgaaGreatDoorSMa11
set_option linter.unusedVariables false
set_option linter.unusedSimpArgs false
namespace Go.SL
namespace Saw
structure qIR (s:Scan):Prop where
 r:s.Rings.length<=1000000
 d:s.Defects.length<=1000000
 p:∀i,i<s.Rings.length->(rgs s i).Read.length<=1000000
theorem qIG {s:Scan} (h:fewB s=true):qIR s:=by
 obtain⟨h1,h2,h3⟩:=qI9 h;exact⟨by omega,by omega,λi hi=>by have:=h3 i hi;omega⟩
theorem qJr (x:List qC) (h:x.length<=1000000):wX x x=some true:=by
 unfold wX;have L:zK x x FUEL 0=some (findN (λ_=>(none:Option Bool)) 0 x.length):=by
  refine TH x.length (zK x x) _ 0 (by omega) (by omega) (λn i _ hi=>?_) (λn=>?_)
  ·rw[zK,kg (by omega),zD (by omega)];simp only[kp,kq,uG,Bool.and_self,uj,wF (show i<4611686018427387904 by omega)]
  ·rw[zK,kf (by omega)];rfl
 rw[KJ.2 (λ_ _ _=>rfl)] at L;simp only[kJ,kq,L,ke,Sum.elim_inr]
theorem qJF (x:List qI) (h:x.length<=1000000):jJ x x=some true:=by
 unfold jJ;have L:zN x x FUEL 0=some (findN (λ_=>(none:Option Bool)) 0 x.length):=by
  refine TH x.length (zN x x) _ 0 (by omega) (by omega) (λn i _ hi=>?_) (λn=>?_)
  ·rw[zN,kg (by omega),zD (by omega)];simp only[kp,kq,uG,Bool.and_self,uj,wF (show i<4611686018427387904 by omega)]
  ·rw[zN,kf (by omega)];rfl
 rw[KJ.2 (λ_ _ _=>rfl)] at L;simp only[kJ,kq,L,ke,Sum.elim_inr]
theorem qDq (s:Scan) (h:qIR s):JF s s=some true:=by
 have hr:=h.r;unfold JF yH;have L:zH s.Rings s.Rings FUEL 0=some (findN (λ_=>(none:Option Bool)) 0 s.Rings.length):=by
  refine TH s.Rings.length (zH s.Rings s.Rings) _ 0 (by omega) (by omega) (λn i _ hi=>?_) (λn=>?_)
  ·rw[zH,kg (by omega),zD (by omega)];simp only[kp,kq,GL,uG,kB,qJr _ (show(s.Rings.getD i dd).Read.length<=1000000 from h.p i hi),ke,KD,uj,wF (show i<4611686018427387904 by omega)]
  ·rw[zH,kf (by omega)];rfl
 rw[KJ.2 (λ_ _ _=>rfl)] at L;simp only[kJ,kq,kp,L,ke,Sum.elim_inr,qJF _ h.d,TG]
theorem u64w {n:Int} (h0:0<=n) (h:n<18446744073709551616):IntKind.u64.wrap n=n:=by
 unfold IntKind.wrap;simp only[IntKind.signed,IntKind.bits,Bool.false_and,uz,if_false];exact Int.emod_eq_of_lt h0 h
theorem u8w (n:Nat):IntKind.u8.wrap (n:Int)=((n % 256:Nat):Int):=by
 unfold IntKind.wrap;simp only[IntKind.signed,IntKind.bits,Bool.false_and,uz,if_false];rfl
def bl (s:ByteArray):List Nat:=s.data.toList.map UInt8.toNat
def bOf (l:List Nat):ByteArray:=ByteArray.mk (l.map UInt8.ofNat).toArray
theorem SG (s:ByteArray):s.size=(bl s).length:=by unfold bl;rw[uV,gn];rfl
theorem qFj {l:List Nat} (h:∀x∈l,x<256):bl (bOf l)=l:=by
 unfold bl bOf;simp only[List.map_map];refine(List.map_congr_left λx hx=>?_).trans (List.map_id l);have:=h x hx;simp[UInt8.toNat_ofNat];omega
theorem bl_inj {a b:ByteArray} (h:bl a=bl b):a.data.toList=b.data.toList:=by
 unfold bl at h;refine List.map_inj_right (λx y hxy=>UInt8.toNat_inj.1 hxy)|>.1 h
theorem bl_ext {a b:ByteArray} (h:bl a=bl b):a=b:=by
 have e:=bl_inj h;cases a;cases b;simp only[uN] at e;rw[e]
theorem bl_lt (s:ByteArray):∀x∈bl s,x<256:=by
 intro x hx;unfold bl at hx;obtain⟨y,_,rfl⟩:=uD.1 hx;exact y.toNat_lt
theorem bOf_bl (s:ByteArray):bOf (bl s)=s:=bl_ext (qFj (bl_lt s))
theorem JS (a b:List Nat):bOf (a++b)=bOf a++bOf b:=by
 apply uT;simp[bOf]
theorem wT (l:List Nat):(bOf l).size=l.length:=by simp[bOf,ByteArray.size]
theorem qIv (a b:ByteArray):AA a b=true↔a=b:=by
 unfold AA;rw[beq_iff_eq];exact⟨λh=>by cases a;cases b;simp only[uN] at h;rw[h],λh=>by rw[h]⟩
theorem AR (s:ByteArray) (i:Nat):wS s i=(((bl s).getD i 0:Nat):Int):=by
 unfold wS bl;by_cases h:i<s.data.toList.length
 ·rw[ka,kG,ks h];have h':i<s.data.size:=by simpa using h
  have e:s.data.getD i 0=s.data[i]:=by unfold Array.getD;rw[dif_pos h'];rfl
  rw[e];rfl
 ·have h':¬i<s.data.size:=by simpa using h
  rw[ka,kG,List.getElem?_eq_none (by omega)];have e:s.data.getD i 0=0:=by unfold Array.getD;rw[dif_neg h']
  rw[e];rfl
theorem qBS (l:List Nat):AM l.length (l.map λx:Nat=>(x:Int))=bOf l:=by
 have key:∀(f:Nat->Int) (n:Nat) (r:ByteArray),((List.range n).map f).foldl (λr z=>r.push (UInt8.ofNat z.toNat)) r=r++ByteArray.mk ((List.range n).map (λj=>UInt8.ofNat (f j).toNat)).toArray:=λf n r=>by
  induction n with
  |zero=>apply uT;simp
  |succ n ih=>
   rw[List.range_succ,uP,List.foldl_append,ih];apply uT;simp
 unfold AM GC;rw[key];apply uT;simp only[bOf];have e:(List.range l.length).map (λj=>UInt8.ofNat (u8Of (rf e_u8 (l.map λx:Nat=>(x:Int)) j)).toNat)=l.map UInt8.ofNat:=by
  refine List.ext_getElem (by simp) λj h1 h2=>?_;simp only[uV,List.length_range] at h1;have:u8Of (rf e_u8 (l.map λx:Nat=>(x:Int)) j)=((l.map λx:Nat=>(x:Int)).getD j dd):=rfl;simp only[List.getElem_map,List.getElem_range,this];rw[ka,kG,ks h1];rfl
 rw[e];simp
def encN (v:Nat):List Nat:=if h:v<128 then[v] else(128+v % 128)::encN (v/128)
termination_by v
decreasing_by omega
theorem VI {v:Nat} (h:v<128):encN v=[v]:=by rw[encN,dif_pos h]
theorem SS {v:Nat} (h:¬v<128):encN v=(128+v % 128)::encN (v/128):=by rw[encN,dif_neg h]
theorem qCZ :∀(k v:Nat),v<128^(k+1)->(encN v).length<=k+1/\∀x∈encN v,x<256
 |0,v,h=>by rw[VI (by omega)];simp;omega
 |k+1,v,h=>by
  by_cases h1:v<128
  ·rw[VI h1];simp;omega
  ·have ih:=qCZ k (v/128) (by rw[Nat.div_lt_iff_lt_mul (by omega),<-gc];exact h);rw[SS h1];simp only[kw,uo,forall_eq_or_imp];exact⟨by omega,by omega,ih.2⟩
theorem DP {v:Nat} (h:v<18446744073709551616):(encN v).length<=10/\∀x∈encN v,x<256:=qCZ 9 v (kC h (by decide))
theorem or128 (n:Nat):orI .u8 (IntKind.u8.wrap (n:Int)) 128=((128+n % 128:Nat):Int):=by
 have k:∀y:_root_.Fin 256,orI .u8 (y.1:Int) 128=((128+y.1 % 128:Nat):Int):=by decide+kernel
 rw[u8w];have:=k ⟨n % 256,by omega⟩;simp only at this;rw[this]
 congr 1
 omega
theorem shr7 (n:Nat):shrI .u64 (n:Int) 7=((n/128:Nat):Int):=by
 unfold shrI;show Int.fdiv (n:Int) 128=_;rw[Int.fdiv_eq_ediv_of_nonneg _ (by omega)];omega
theorem qDZ :∀(k n v:Nat) (l:List Int),v<128^(k+1)->k<n->l.length+k<=1000->∃(ini:List Nat) (las:Nat),encN v=ini++[las]/\las<128/\WW n (v:Int) l=some ((las:Int),l++ini.map λx:Nat=>(x:Int))
 |k,0,v,l,_,h,_=>by omega
 |k,n+1,v,l,h,hn,hl=>by
  by_cases h1:v<128
  ·refine⟨[],v,by rw[VI h1];rfl,h1,?_⟩;rw[WW,kf (by omega)];simp
  ·obtain⟨k',rfl⟩:∃k',k=k'+1:=by
    cases k with
    |zero=>simp at h;omega
    |succ k'=>exact⟨k',rfl⟩
   obtain⟨ini,las,e1,e2,e3⟩:=qDZ k' n (v/128) (l++[((128+v % 128:Nat):Int)]) (by rw[Nat.div_lt_iff_lt_mul (by omega),<-gc];exact h) (by omega) (by rw[kv];simp only[kw,kN];omega);refine⟨(128+v % 128)::ini,las,by rw[SS h1,e1];rfl,e2,?_⟩;rw[WW,kg (by omega),jC (by omega),or128,shr7];simp only[kp];rw[e3];simp
theorem qDb {v:Nat} (h:v<18446744073709551616):JE (v:Int)=some (bOf (encN v)):=by
 obtain⟨ini,las,e1,e2,e3⟩:=qDZ 9 FUEL v [] (kC h (by decide)) (by rw[jA];omega) (by simp);have b:=(DP h).1;rw[e1] at b⊢;simp only[kv,kw,kN] at b;unfold JE;rw[e3];simp only[ke,uu,uV];rw[jC (by omega),u8w,show las % 256=las by omega];simp only[kp];have:=qBS (ini++[las]);simp only[kv,kw,kN,uP,kV,uY] at this;rw[this]
theorem qBV :∀(k n v:Nat),v<128^(k+1)->k<=100->v<18446744073709551616->k<n->YG n (v:Int)=some (bOf (encN v))
 |k,0,v,_,_,_,h=>by omega
 |k,n+1,v,h,hk,hv,hn=>by
  by_cases h1:v<128
  ·rw[YG,kg (by omega),VI h1,u8w,show v % 256=v by omega];exact congrArg some (qBS [v])
  ·obtain⟨k',rfl⟩:∃k',k=k'+1:=by
    cases k with
    |zero=>simp at h;omega
    |succ k'=>exact⟨k',rfl⟩
   have hd:v/128<128^(k'+1):=by rw[Nat.div_lt_iff_lt_mul (by omega),<-gc];exact h
   have ih:=qBV k' n (v/128) hd (by omega) (by omega) (by omega);rw[YG,kf (by omega),show Int.tdiv (v:Int) 128=((v/128:Nat):Int) by rw[Int.tdiv_eq_ediv_of_nonneg (by omega)];omega,u64w (by omega) (by omega),ih,show Int.tmod (v:Int) 128=((v % 128:Nat):Int) by rw[uR (by omega)];omega];simp only[kq,ke];rw[u64w (by omega) (by omega),show(128:Int)+((v % 128:Nat):Int)=((128+v % 128:Nat):Int) by omega,u8w,show(128+v % 128) % 256=128+v % 128 by omega];have e:=qBS [128+v % 128];simp only[kw,kN,kV,uY] at e;rw[e];have b:=(qCZ k' _ hd).1
   rw[show wA (bOf [128+v % 128]) (bOf (encN (v/128)))=true by unfold wA;rw[wT,wT];exact kg (by simp only[kw,kN];omega)];rw[SS h1,<-JS];rfl
theorem qBg {v:Nat} (h:v<18446744073709551616):AU (v:Int)=some (bOf (encN v)):=
 qBV 9 FUEL v (kC h (by decide)) (by omega) h (by rw[jA];omega)
def zz (n:Int):Nat:=if n<0 then 2*(-(n+1)).toNat+1 else 2*n.toNat
theorem qAw {n:Int} (h1: -9223372036854775808<=n) (h2:n<=9223372036854775807):zz n<18446744073709551616:=by unfold zz;split<;>omega
theorem not64 {m:Int} (h0:0<=m) (h:m<18446744073709551616):notI .u64 m=18446744073709551615-m:=by
 obtain⟨n,rfl⟩:=Int.eq_ofNat_of_zero_le h0;unfold notI xorI;show IntKind.u64.wrap (((BitVec.ofInt 64 18446744073709551615^^^BitVec.ofInt 64 (n:Int)).toNat:Nat):Int)=_;have e1:BitVec.ofInt 64 18446744073709551615=BitVec.allOnes 64:=by decide
 rw[e1,BitVec.xor_comm,BitVec.xor_allOnes,BitVec.toNat_not];have e2:(BitVec.ofInt 64 (n:Int)).toNat=n:=by
  rw[BitVec.ofInt_natCast,BitVec.toNat_ofNat];omega
 rw[e2,u64w (by omega) (by omega)];omega
theorem orNat {a b:Nat} (ha:a<18446744073709551616) (hb:b<18446744073709551616) (i:Nat) (h:b<2^i) (c:Nat) (hc:a=2^i*c) (hs:a+b<18446744073709551616):orI .u64 (a:Int) (b:Int)=((a+b:Nat):Int):=by
 unfold orI;show IntKind.u64.wrap (((BitVec.ofInt 64 (a:Int)|||BitVec.ofInt 64 (b:Int)).toNat:Nat):Int)=_;rw[BitVec.toNat_or,BitVec.ofInt_natCast,BitVec.ofInt_natCast,BitVec.toNat_ofNat,BitVec.toNat_ofNat,uM (by omega),uM (by omega)];have e:a|||b=a+b:=by rw[hc,Nat.two_pow_add_eq_or_of_lt h]
 rw[e,u64w (by omega) (by omega)]
theorem shl1 {m:Nat} (h:2*m<18446744073709551616):shlI .u64 (m:Int) 1=((2*m:Nat):Int):=by
 unfold shlI;show IntKind.u64.wrap ((m:Int)*2^1)=_;rw[u64w (by omega) (by omega)];omega
theorem u64neg {n:Int} (h1: -9223372036854775808<=n) (h2:n<0):IntKind.u64.wrap n=n+18446744073709551616:=by
 unfold IntKind.wrap;simp only[IntKind.signed,IntKind.bits,Bool.false_and,uz,if_false];show n % 18446744073709551616=_;omega
theorem qI1 {n:Int} (h1: -9223372036854775808<=n) (h2:n<=9223372036854775807):XO n=some (bOf (encN (zz n)))/\OQ n=some (bOf (encN (zz n))):=by
 have hz:=qAw h1 h2;unfold XO OQ qAb;by_cases h:n<0
 ·have ez:zz n=2*(-(n+1)).toNat+1:=by unfold zz;rw[if_pos h]
  obtain⟨m,hm⟩:=Int.eq_ofNat_of_zero_le (show 0<=-(n+1) by omega);rw[hm,kB] at ez;rw[kg h,kf (show¬n≥0 by omega),u64neg h1 h,not64 (by omega) (by omega),show 18446744073709551615-(n+18446744073709551616)=(m:Int) by omega,shl1 (by omega)];simp only[kp,kq,ke];have o:=orNat (a:=2*m) (b:=1) (by omega) (by omega) 1 (by decide) m (by omega) (by omega);rw[show((1:Nat):Int)=1 from rfl] at o
  rw[o,wB (n:=n+1) (by omega),wB (n:=0-(n+1)) (by omega),show 0-(n+1)=(m:Int) by omega,u64w (n:=(m:Int)) (by omega) (by omega),u64w (n:=2*(m:Int)) (by omega) (by omega),u64w (n:=2*(m:Int)+1) (by omega) (by omega),show 2*(m:Int)+1=((2*m+1:Nat):Int) by omega,qDb (by omega),qBg (by omega),ez];exact⟨rfl,rfl⟩
 ·have ez:zz n=2*n.toNat:=by unfold zz;rw[if_neg h]
  obtain⟨m,hm⟩:=Int.eq_ofNat_of_zero_le (show 0<=n by omega);subst hm;rw[kB] at ez;rw[kf h,kg (show(m:Int)≥0 by omega),u64w (by omega) (by omega),shl1 (by omega)];simp only[kp,kq,ke];rw[u64w (n:=2*(m:Int)) (by omega) (by omega),show 2*(m:Int)=((2*m:Nat):Int) by omega,qDb (by omega),qBg (by omega),ez];exact⟨rfl,rfl⟩
def encI (l:List Int):List Nat:=encN l.length++(l.map λn=>encN (zz n)).flatten
def Okl (l:List Int):Prop:=∀n∈l,-9223372036854775808<=n/\n<=9223372036854775807
theorem qBy {l:List Int} (h:Okl l):((l.map λn=>encN (zz n)).flatten).length<=10*l.length:=by
 induction l with
 |nil=>simp
 |cons n l ih=>
  have a:=(DP (qAw (h n (kO ..)).1 (h n (kO ..)).2)).1;have b:=ih (λx hx=>h x (kL _ hx));simp only[kV,uI,kv,kw];omega
theorem qGq :∀(l:List Int) (s:ByteArray),Okl l->s.size+10*l.length<=140737488355328->NJ XO l s=some (s++bOf (l.map λn=>encN (zz n)).flatten)
 |[],s,_,_=>by
  rw[NJ]
  congr 1
  apply uT;simp[bOf]
 |n::l,s,h,hs=>by
  have hn:=h n (kO ..);have a:=(DP (qAw hn.1 hn.2)).1;simp only[kw] at hs;rw[NJ,(qI1 hn.1 hn.2).1];simp only[ke,wT];rw[kg (by omega)];simp only[kp];rw[qGq l _ (λx hx=>h x (kL _ hx)) (by rw[ByteArray.size_append,wT];omega)]
  congr 1
  simp only[kV,uI];rw[JS];apply uT;simp
theorem NN {l:List Int} (h:Okl l) (hl:l.length<=1000000):RP l=some (bOf (encI l))/\TZ l=some (bOf (encI l)):=by
 have hb:=(DP (v:=l.length) (by omega)).1;have hf:=qBy h;unfold RP intsM TZ;rw[u64w (by omega) (by omega),qDb (by omega),qBg (by omega)];simp only[ke];constructor
 ·rw[wT,kg (by omega)];simp only[kp];rw[qGq l _ h (by rw[wT];omega),<-JS];rfl
 ·have k:=(EJ l.length (λn s i=>jW l n s i) (λx s=>s++bOf (encN (zz (l.getD x dd)))) id (λx s=>s=bOf (encN l.length++((l.take x).map λn=>encN (zz n)).flatten)) 0 (by omega) (by omega) (λn x s hx hi=>by
   have hn:=h (l.getD x dd) (qH7 hx);have a:=(DP (qAw hn.1 hn.2)).1;have ht:Okl (l.take x):=λy hy=>h y (List.mem_of_mem_take hy);have hf':=qBy ht;have hx':(l.take x).length<=x:=by rw[ub];omega
   constructor
   ·show jW l (n+1) s (x:Int)=_;rw[jW,kg (by omega),zD (by omega),kB,(qI1 hn.1 hn.2).2];simp only[kp,ke];rw[show wA s (bOf (encN (zz (l.getD x dd))))=true by
     unfold wA;rw[hi,wT,wT,kv];exact kg (by omega),wF (by omega)]
    rfl
   ·rw[hi,<-JS,kW]
    congr 2
    rw[List.take_succ_eq_append_getElem hx,uP,gm]
    congr 1
    rw[ka,ks hx];simp) (λn s hi=>by
   show jW l (n+1) s (l.length:Int)=_;rw[jW,kf (by omega)];rfl) (bOf (encN l.length)) (by simp))
  obtain⟨k1,k2⟩:=k;rw[k2] at k1;have k1':jW l FUEL (bOf (encN l.length)) 0=some (id (bOf (encN l.length++((l.take l.length).map λn=>encN (zz n)).flatten))):=k1;rw[k1',List.take_length];rfl
end Saw
end Go.SL
