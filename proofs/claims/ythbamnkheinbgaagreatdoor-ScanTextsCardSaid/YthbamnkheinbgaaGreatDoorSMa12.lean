/- Scan's plain mathematics, part 6: sameness; merging; ScanMerges. -/
import Derived.Test.YthbamnkheinbgaaGreatDoorSMa11
set_option linter.unusedVariables false
set_option linter.unusedSimpArgs false
namespace Go.SL
namespace Saw
structure qEc (s:Scan):Prop where
 r:s.Rings.length<=1000000
 d:s.Defects.length<=1000000
 p:∀i,i<s.Rings.length->(rgs s i).Read.length<=1000000
theorem qFA :qEc (Scan.mk ([]:List Ring) ([]:List qG)):=⟨by simp,by simp,λi hi=>absurd hi (by simp)⟩
theorem V15.small {s:Scan} (v:V15 s):qEc s:=⟨by have:=v.many;omega,by have:=((PN _).1 v.def13).1;omega,λi hi=>by have:=(v.good i hi).hi;omega⟩
theorem qDG (x:Ring) (h:x.Read.length<=1000000):GN x x=some true:=by
 unfold GN;have L:QB x x FUEL 0=some (findN (λ_=>(none:Option Bool)) 0 x.Read.length):=by
  refine UX x.Read.length (QB x x) _ 0 (by omega) (by omega) (λn i _ hi=>?_) (λn=>?_)
  ·rw[QB,kf (by omega),zL (by omega)];simp only[kq,ks,uP,Bool.and_self,uj,wL (show i<4611686018427387904 by omega)]
  ·rw[QB,ke (by omega)];rfl
 rw[PM.2 (λ_ _ _=>rfl)] at L;simp only[kM,ks,RU,L,ki,Sum.elim_inr]
theorem qEq (x:List qG) (h:x.length<=1000000):GG x x=some true:=by
 unfold GG;have L:QE x x FUEL 0=some (findN (λ_=>(none:Option Bool)) 0 x.length):=by
  refine UX x.length (QE x x) _ 0 (by omega) (by omega) (λn i _ hi=>?_) (λn=>?_)
  ·rw[QE,kf (by omega),zL (by omega)];simp only[kq,ks,uP,Bool.and_self,uj,wL (show i<4611686018427387904 by omega)]
  ·rw[QE,ke (by omega)];rfl
 rw[PM.2 (λ_ _ _=>rfl)] at L;simp only[kM,ks,L,ki,Sum.elim_inr]
theorem qDK (s:Scan) (h:qEc s):VK s s=some true:=by
 have hr:=h.r;unfold VK;have L:QA s s FUEL 0=some (findN (λ_=>(none:Option Bool)) 0 s.Rings.length):=by
  refine UX s.Rings.length (QA s s) _ 0 (by omega) (by omega) (λn i _ hi=>?_) (λn=>?_)
  ·rw[QA,kf (by omega),zL (by omega)];simp only[kq,ks,kB,qDG _ (show(s.Rings.getD i dd).Read.length<=1000000 from h.p i hi),ki,uj,wL (show i<4611686018427387904 by omega)]
  ·rw[QA,ke (by omega)];rfl
 rw[PM.2 (λ_ _ _=>rfl)] at L;simp only[kM,ks,L,ki,Sum.elim_inr,qEq _ h.d]
theorem u64w {n:Int} (h0:0<=n) (h:n<18446744073709551616):IntKind.u64.wrap n=n:=by
 unfold IntKind.wrap;simp only[IntKind.signed,IntKind.bits,Bool.false_and,ut,if_false];exact Int.emod_eq_of_lt h0 h
theorem u8w (n:Nat):IntKind.u8.wrap (n:Int)=((n % 256:Nat):Int):=by
 unfold IntKind.wrap;simp only[IntKind.signed,IntKind.bits,Bool.false_and,ut,if_false];rfl
def bl (s:ByteArray):List Nat:=s.data.toList.map UInt8.toNat
def bOf (l:List Nat):ByteArray:=ByteArray.mk (l.map UInt8.ofNat).toArray
theorem IL (s:ByteArray):s.size=(bl s).length:=by unfold bl;rw[uV,gi];rfl
theorem bl_lt (s:ByteArray):∀x∈bl s,x<256:=by
 intro x hx;unfold bl at hx;obtain⟨y,_,rfl⟩:=uK.1 hx;exact y.toNat_lt
theorem YP (a b:List Nat):bOf (a++b)=bOf a++bOf b:=by
 apply uS;simp[bOf]
theorem jA (l:List Nat):(bOf l).size=l.length:=by simp[bOf,ByteArray.size]
theorem qKE (a b:ByteArray):CJ a b=true↔a=b:=by
 unfold CJ;rw[beq_iff_eq];exact⟨λh=>by cases a;cases b;simp only[uQ] at h;rw[h],λh=>by rw[h]⟩
theorem OK (s:ByteArray) (i:Nat):zS s i=(((bl s).getD i 0:Nat):Int):=by
 unfold zS bl;by_cases h:i<s.data.toList.length
 ·rw[ka,kE,kr h];have h':i<s.data.size:=by simpa using h
  have e:s.data.getD i 0=s.data[i]:=by unfold Array.getD;rw[dif_pos h'];rfl
  rw[e];rfl
 ·have h':¬i<s.data.size:=by simpa using h
  rw[ka,kE,List.getElem?_eq_none (by omega)];have e:s.data.getD i 0=0:=by unfold Array.getD;rw[dif_neg h']
  rw[e];rfl
theorem qCF (l:List Nat):LD l.length (l.map λx:Nat=>(x:Int))=bOf l:=by
 have key:∀(f:Nat->Int) (n:Nat) (r:ByteArray),((List.range n).map f).foldl (λr z=>r.push (UInt8.ofNat z.toNat)) r=r++ByteArray.mk ((List.range n).map (λj=>UInt8.ofNat (f j).toNat)).toArray:=λf n r=>by
  induction n with
  |zero=>apply uS;simp
  |succ n ih=>
   rw[List.range_succ,uL,List.foldl_append,ih];apply uS;simp
 unfold LD DX;rw[key];apply uS;simp only[bOf];have e:(List.range l.length).map (λj=>UInt8.ofNat (u8Of (rf e_u8 (l.map λx:Nat=>(x:Int)) j)).toNat)=l.map UInt8.ofNat:=by
  refine List.ext_getElem (by simp) λj h1 h2=>?_;simp only[uV,List.length_range] at h1;have:u8Of (rf e_u8 (l.map λx:Nat=>(x:Int)) j)=((l.map λx:Nat=>(x:Int)).getD j dd):=rfl;simp only[List.getElem_map,List.getElem_range,this];rw[ka,kE,kr h1];rfl
 rw[e];simp
def encN (v:Nat):List Nat:=if h:v<128 then[v] else(128+v % 128)::encN (v/128)
termination_by v
decreasing_by omega
theorem LQ {v:Nat} (h:v<128):encN v=[v]:=by rw[encN,dif_pos h]
theorem qBy {v:Nat} (h:¬v<128):encN v=(128+v % 128)::encN (v/128):=by rw[encN,dif_neg h]
theorem qFw :∀(k v:Nat),v<128^(k+1)->(encN v).length<=k+1/\∀x∈encN v,x<256
 |0,v,h=>by rw[LQ (by omega)];simp;omega
 |k+1,v,h=>by
  by_cases h1:v<128
  ·rw[LQ h1];simp;omega
  ·have ih:=qFw k (v/128) (by rw[Nat.div_lt_iff_lt_mul (by omega),<-Nat.pow_succ];exact h);rw[qBy h1];simp only[kv,un,forall_eq_or_imp];exact⟨by omega,by omega,ih.2⟩
theorem IS {v:Nat} (h:v<18446744073709551616):(encN v).length<=10/\∀x∈encN v,x<256:=qFw 9 v (kC h (by decide))
theorem or128 (n:Nat):orI .u8 (IntKind.u8.wrap (n:Int)) 128=((128+n % 128:Nat):Int):=by
 have k:∀y:_root_.Fin 256,orI .u8 (y.1:Int) 128=((128+y.1 % 128:Nat):Int):=by decide+kernel
 rw[u8w];have:=k ⟨n % 256,by omega⟩;simp only at this;rw[this]
 congr 1
 omega
theorem shr7 (n:Nat):shrI .u64 (n:Int) 7=((n/128:Nat):Int):=by
 unfold shrI;show Int.fdiv (n:Int) 128=_;rw[Int.fdiv_eq_ediv_of_nonneg _ (by omega)];omega
theorem qFO :∀(k n v:Nat) (l:List Int),v<128^(k+1)->k<n->l.length+k<=1000->∃(ini:List Nat) (las:Nat),encN v=ini++[las]/\las<128/\JF n (v:Int) l=some ((las:Int),l++ini.map λx:Nat=>(x:Int))
 |k,0,v,l,_,h,_=>by omega
 |k,n+1,v,l,h,hn,hl=>by
  by_cases h1:v<128
  ·refine⟨[],v,by rw[LQ h1];rfl,h1,?_⟩;rw[JF,ke (by omega)];simp
  ·obtain⟨k',rfl⟩:∃k',k=k'+1:=by
    cases k with
    |zero=>simp at h;omega
    |succ k'=>exact⟨k',rfl⟩
   obtain⟨ini,las,e1,e2,e3⟩:=qFO k' n (v/128) (l++[((128+v % 128:Nat):Int)]) (by rw[Nat.div_lt_iff_lt_mul (by omega),<-Nat.pow_succ];exact h) (by omega) (by rw[ky];simp only[kv,kL];omega);refine⟨(128+v % 128)::ini,las,by rw[qBy h1,e1];rfl,e2,?_⟩;rw[JF,kf (by omega),jK (by omega),or128,shr7];simp only[kq];rw[e3];simp
theorem qET {v:Nat} (h:v<18446744073709551616):JT (v:Int)=some (bOf (encN v)):=by
 obtain⟨ini,las,e1,e2,e3⟩:=qFO 9 FUEL v [] (kC h (by decide)) (by rw[jF];omega) (by simp);have b:=(IS h).1;rw[e1] at b⊢;simp only[ky,kv,kL] at b;unfold JT;rw[e3];simp only[ki,uT,uV];rw[jK (by omega),u8w,show las % 256=las by omega];simp only[kq];have:=qCF (ini++[las]);simp only[ky,kv,kL,uL,kY,uX] at this;rw[this]
theorem qDJ :∀(k n v:Nat),v<128^(k+1)->k<=100->v<18446744073709551616->k<n->ZT n (v:Int)=some (bOf (encN v))
 |k,0,v,_,_,_,h=>by omega
 |k,n+1,v,h,hk,hv,hn=>by
  by_cases h1:v<128
  ·rw[ZT,kf (by omega),LQ h1,u8w,show v % 256=v by omega];exact congrArg some (qCF [v])
  ·obtain⟨k',rfl⟩:∃k',k=k'+1:=by
    cases k with
    |zero=>simp at h;omega
    |succ k'=>exact⟨k',rfl⟩
   have hd:v/128<128^(k'+1):=by rw[Nat.div_lt_iff_lt_mul (by omega),<-Nat.pow_succ];exact h
   have ih:=qDJ k' n (v/128) hd (by omega) (by omega) (by omega);rw[ZT,ke (by omega),show Int.tdiv (v:Int) 128=((v/128:Nat):Int) by rw[Int.tdiv_eq_ediv_of_nonneg (by omega)];omega,u64w (by omega) (by omega),ih,show Int.tmod (v:Int) 128=((v % 128:Nat):Int) by rw[uN (by omega)];omega];simp only[ks,ki];rw[u64w (by omega) (by omega),show(128:Int)+((v % 128:Nat):Int)=((128+v % 128:Nat):Int) by omega,u8w,show(128+v % 128) % 256=128+v % 128 by omega];have e:=qCF [128+v % 128];simp only[kv,kL,kY,uX] at e;rw[e];have b:=(qFw k' _ hd).1
   rw[show wD (bOf [128+v % 128]) (bOf (encN (v/128)))=true by unfold wD;rw[jA,jA];exact kf (by simp only[kv,kL];omega)];rw[qBy h1,<-YP];rfl
theorem qDm {v:Nat} (h:v<18446744073709551616):LA (v:Int)=some (bOf (encN v)):=
 qDJ 9 FUEL v (kC h (by decide)) (by omega) h (by rw[jF];omega)
def zz (n:Int):Nat:=if n<0 then 2*(-(n+1)).toNat+1 else 2*n.toNat
theorem qG2 {n:Int} (h1: -9223372036854775808<=n) (h2:n<=9223372036854775807):zz n<18446744073709551616:=by unfold zz;split<;>omega
theorem not64 {m:Int} (h0:0<=m) (h:m<18446744073709551616):notI .u64 m=18446744073709551615-m:=by
 obtain⟨n,rfl⟩:=Int.eq_ofNat_of_zero_le h0;unfold notI xorI;show IntKind.u64.wrap (((BitVec.ofInt 64 18446744073709551615^^^BitVec.ofInt 64 (n:Int)).toNat:Nat):Int)=_;have e1:BitVec.ofInt 64 18446744073709551615=BitVec.allOnes 64:=by decide
 rw[e1,BitVec.xor_comm,BitVec.xor_allOnes,BitVec.toNat_not];have e2:(BitVec.ofInt 64 (n:Int)).toNat=n:=by
  rw[BitVec.ofInt_natCast,BitVec.toNat_ofNat];omega
 rw[e2,u64w (by omega) (by omega)];omega
theorem orNat {a b:Nat} (ha:a<18446744073709551616) (hb:b<18446744073709551616) (i:Nat) (h:b<2^i) (c:Nat) (hc:a=2^i*c) (hs:a+b<18446744073709551616):orI .u64 (a:Int) (b:Int)=((a+b:Nat):Int):=by
 unfold orI;show IntKind.u64.wrap (((BitVec.ofInt 64 (a:Int)|||BitVec.ofInt 64 (b:Int)).toNat:Nat):Int)=_;rw[BitVec.toNat_or,BitVec.ofInt_natCast,BitVec.ofInt_natCast,BitVec.toNat_ofNat,BitVec.toNat_ofNat,uH (by omega),uH (by omega)];have e:a|||b=a+b:=by rw[hc,Nat.two_pow_add_eq_or_of_lt h]
 rw[e,u64w (by omega) (by omega)]
theorem shl1 {m:Nat} (h:2*m<18446744073709551616):shlI .u64 (m:Int) 1=((2*m:Nat):Int):=by
 unfold shlI;show IntKind.u64.wrap ((m:Int)*2^1)=_;rw[u64w (by omega) (by omega)];omega
theorem u64neg {n:Int} (h1: -9223372036854775808<=n) (h2:n<0):IntKind.u64.wrap n=n+18446744073709551616:=by
 unfold IntKind.wrap;simp only[IntKind.signed,IntKind.bits,Bool.false_and,ut,if_false];show n % 18446744073709551616=_;omega
theorem qKR {n:Int} (h1: -9223372036854775808<=n) (h2:n<=9223372036854775807):KU n=some (bOf (encN (zz n)))/\NG n=some (bOf (encN (zz n))):=by
 have hz:=qG2 h1 h2;unfold KU NG VE;by_cases h:n<0
 ·have ez:zz n=2*(-(n+1)).toNat+1:=by unfold zz;rw[if_pos h]
  obtain⟨m,hm⟩:=Int.eq_ofNat_of_zero_le (show 0<=-(n+1) by omega);rw[hm,kB] at ez;rw[kf h,ke (show¬n≥0 by omega),u64neg h1 h,not64 (by omega) (by omega),show 18446744073709551615-(n+18446744073709551616)=(m:Int) by omega,shl1 (by omega)];simp only[kq,ks,ki];have o:=orNat (a:=2*m) (b:=1) (by omega) (by omega) 1 (by decide) m (by omega) (by omega);rw[show((1:Nat):Int)=1 from rfl] at o
  rw[o,wF (n:=n+1) (by omega),wF (n:=0-(n+1)) (by omega),show 0-(n+1)=(m:Int) by omega,u64w (n:=(m:Int)) (by omega) (by omega),u64w (n:=2*(m:Int)) (by omega) (by omega),u64w (n:=2*(m:Int)+1) (by omega) (by omega),show 2*(m:Int)+1=((2*m+1:Nat):Int) by omega,qET (by omega),qDm (by omega),ez];exact⟨rfl,rfl⟩
 ·have ez:zz n=2*n.toNat:=by unfold zz;rw[if_neg h]
  obtain⟨m,hm⟩:=Int.eq_ofNat_of_zero_le (show 0<=n by omega);subst hm;rw[kB] at ez;rw[ke h,kf (show(m:Int)≥0 by omega),u64w (by omega) (by omega),shl1 (by omega)];simp only[kq,ks,ki];rw[u64w (n:=2*(m:Int)) (by omega) (by omega),show 2*(m:Int)=((2*m:Nat):Int) by omega,qET (by omega),qDm (by omega),ez];exact⟨rfl,rfl⟩
def encI (l:List Int):List Nat:=encN l.length++(l.map λn=>encN (zz n)).flatten
def Okl (l:List Int):Prop:=∀n∈l,-9223372036854775808<=n/\n<=9223372036854775807
theorem qDe {l:List Int} (h:Okl l):((l.map λn=>encN (zz n)).flatten).length<=10*l.length:=by
 induction l with
 |nil=>simp
 |cons n l ih=>
  have a:=(IS (qG2 (h n (kX ..)).1 (h n (kX ..)).2)).1;have b:=ih (λx hx=>h x (kN _ hx));simp only[kY,uD,ky,kv];omega
theorem qHN :∀(l:List Int) (s:ByteArray),Okl l->s.size+10*l.length<=140737488355328->LF KU l s=some (s++bOf (l.map λn=>encN (zz n)).flatten)
 |[],s,_,_=>by
  rw[LF]
  congr 1
  apply uS;simp[bOf]
 |n::l,s,h,hs=>by
  have hn:=h n (kX ..);have a:=(IS (qG2 hn.1 hn.2)).1;simp only[kv] at hs;rw[LF,(qKR hn.1 hn.2).1];simp only[ki,jA];rw[kf (by omega)];simp only[kq];rw[qHN l _ (λx hx=>h x (kN _ hx)) (by rw[ByteArray.size_append,jA];omega)]
  congr 1
  simp only[kY,uD];rw[YP];apply uS;simp
theorem LO {l:List Int} (h:Okl l) (hl:l.length<=1000000):UR l=some (bOf (encI l))/\YE l=some (bOf (encI l)):=by
 have hb:=(IS (v:=l.length) (by omega)).1;have hf:=qDe h;unfold UR intsM YE;rw[u64w (by omega) (by omega),qET (by omega),qDm (by omega)];simp only[ki];constructor
 ·rw[jA,kf (by omega)];simp only[kq];rw[qHN l _ h (by rw[jA];omega),<-YP];rfl
 ·have k:=(CA l.length (λn s i=>wY l n s i) (λx s=>s++bOf (encN (zz (l.getD x dd)))) id (λx s=>s=bOf (encN l.length++((l.take x).map λn=>encN (zz n)).flatten)) 0 (by omega) (by omega) (λn x s hx hi=>by
   have hn:=h (l.getD x dd) (qKV hx);have a:=(IS (qG2 hn.1 hn.2)).1;have ht:Okl (l.take x):=λy hy=>h y (List.mem_of_mem_take hy);have hf':=qDe ht;have hx':(l.take x).length<=x:=by rw[kZ];omega
   constructor
   ·show wY l (n+1) s (x:Int)=_;rw[wY,kf (by omega),zL (by omega),kB,(qKR hn.1 hn.2).2];simp only[kq,ki];rw[show wD s (bOf (encN (zz (l.getD x dd))))=true by
     unfold wD;rw[hi,jA,jA,ky];exact kf (by omega),wL (by omega)]
    rfl
   ·rw[hi,<-YP,ua]
    congr 2
    rw[List.take_succ_eq_append_getElem hx,uL,gh]
    congr 1
    rw[ka,kr hx];simp) (λn s hi=>by
   show wY l (n+1) s (l.length:Int)=_;rw[wY,ke (by omega)];rfl) (bOf (encN l.length)) (by simp))
  obtain⟨k1,k2⟩:=k;rw[k2] at k1;have k1':wY l FUEL (bOf (encN l.length)) 0=some (id (bOf (encN l.length++((l.take l.length).map λn=>encN (zz n)).flatten))):=k1;rw[k1',List.take_length];rfl
end Saw
end Go.SL
