/- Edge's plain mathematics over the reference, part 3: checks, volumes. -/
import Derived.Test.YtidlfgiogdjkaaaGreatDoorEMa10
import Derived.Test.YtidlfgiogdjkaaaGreatDoorEMa9
set_option linter.unusedVariables false
set_option linter.unusedSimpArgs false
namespace Go.SL
namespace Saw
theorem qUi (n a b:Int):ZV n a b=some (decide (a<=n/\n<=b)):=by
 unfold ZV HW;by_cases h1:n≥a
 ·rw[decide_eq_true h1];by_cases h2:n<=b
  ·rw[decide_eq_true h2,decide_eq_true ⟨h1,h2⟩];rfl
  ·rw[decide_eq_false h2,decide_eq_false (λh=>h2 h.2)];rfl
 ·rw[decide_eq_false h1,decide_eq_false (show¬(a<=n/\n<=b) from λh=>h1 h.1)];rfl
theorem qTG (s:Saw) (r:Rates):HD s r=some (YQ s r):=by
 unfold HD XW UE;simp only[qUi,Option.bind_some];have no:¬VW s r->YQ s r=9:=λh=>by unfold YQ;rw[if_neg h]
 by_cases c1':¬(0<=s.Kerf/\s.Kerf<=20)
 ·rw[decide_eq_false c1',no (λh=>c1' h.kerf)];rfl
 have c1:0<=s.Kerf/\s.Kerf<=20:=Decidable.not_not.1 c1';by_cases c2':¬(0<=s.Trim/\s.Trim<=20)
 ·rw[decide_eq_true c1,decide_eq_false c2',no (λh=>c2' h.trim)];rfl
 have c2:0<=s.Trim/\s.Trim<=20:=Decidable.not_not.1 c2';by_cases c3':¬(1<=s.Pitch/\s.Pitch<=2000)
 ·rw[decide_eq_true c1,decide_eq_true c2,decide_eq_false c3',no (λh=>c3' h.pitch)];rfl
 have c3:1<=s.Pitch/\s.Pitch<=2000:=Decidable.not_not.1 c3';by_cases c4':¬(1<=s.Step/\s.Step<=20000)
 ·rw[decide_eq_true c1,decide_eq_true c2,decide_eq_true c3,decide_eq_false c4',no (λh=>c4' h.step)];rfl
 have c4:1<=s.Step/\s.Step<=20000:=Decidable.not_not.1 c4';by_cases c5':¬(0<=r.Chip/\r.Chip<=1000)
 ·rw[decide_eq_true c1,decide_eq_true c2,decide_eq_true c3,decide_eq_true c4,decide_eq_false c5',no (λh=>c5' h.chip)];rfl
 have c5:0<=r.Chip/\r.Chip<=1000:=Decidable.not_not.1 c5';by_cases c6':¬(0<=r.Dust/\r.Dust<=1000)
 ·rw[decide_eq_true c1,decide_eq_true c2,decide_eq_true c3,decide_eq_true c4,decide_eq_true c5,decide_eq_false c6',no (λh=>c6' h.dust)];rfl
 have c6:0<=r.Dust/\r.Dust<=1000:=Decidable.not_not.1 c6';by_cases c7':¬(0<=r.Fine/\r.Fine<=1000000)
 ·rw[decide_eq_true c1,decide_eq_true c2,decide_eq_true c3,decide_eq_true c4,decide_eq_true c5,decide_eq_true c6,decide_eq_false c7',no (λh=>c7' h.fine)];rfl
 have c7:0<=r.Fine/\r.Fine<=1000000:=Decidable.not_not.1 c7';rw[decide_eq_true c1,decide_eq_true c2,decide_eq_true c3,decide_eq_true c4,decide_eq_true c5,decide_eq_true c6,decide_eq_true c7,(JL s r).2 ⟨c1,c2,c3,c4,c5,c6,c7⟩];rfl
end Saw
end Go.SL

namespace Go.SL.Saw
def RY (n:Int) (a:Int) (s:List Int×Bool):List Int×Bool:=if s.2=true then(s.1++[a],true) else if a≥n then((if a>n then s.1++[n] else s.1)++[a],true) else(s.1++[a],false)
theorem qRa (n:Int):∀(l:List Int) (x:Nat) (o:List Int),foldi (λ_=>RY n) x l (o,true)=(o++l,true)
 |[],x,o=>by simp[foldi]
 |a::l,x,o=>by
  have ea:RY n a (o,true)=(o++[a],true):=by unfold RY;rw[if_pos rfl]
  show foldi _ (x+1) l (RY n a (o,true))=_;rw[ea,qRa n l (x+1) (o++[a])];simp
theorem qRc (n:Int):∀(l:List Int) (x:Nat) (o:List Int),(if(foldi (λ_=>RY n) x l (o,false)).2=true then(foldi (λ_=>RY n) x l (o,false)).1 else(foldi (λ_=>RY n) x l (o,false)).1++[n])=o++insI n l
 |[],x,o=>by simp[foldi,insI]
 |a::l,x,o=>by
  have e:foldi (λ_=>RY n) x (a::l) (o,false)=foldi (λ_=>RY n) (x+1) l (RY n a (o,false)):=rfl;rw[e];by_cases c:a≥n
  ·have ea:RY n a (o,false)=((if a>n then o++[n] else o)++[a],true):=by unfold RY;rw[if_neg (by simp),if_pos c]
   have ei:insI n (a::l)=if a=n then a::l else n::a::l:=by unfold insI;rw[if_neg (by omega)]
   rw[ea,qRa,ei];simp only[if_true];by_cases c2:a>n
   ·rw[if_pos c2,if_neg (by omega)];simp
   ·rw[if_neg c2,if_pos (by omega)];simp
  ·have ea:RY n a (o,false)=(o++[a],false):=by unfold RY;rw[if_neg (by simp),if_neg c]
   rw[ea,qRc n l (x+1) (o++[a])];have ei:insI n (a::l)=a::insI n l:=by
    conv=>lhs;unfold insI
    rw[if_pos (by omega)]
   rw[ei];simp
theorem qRQ (l:List Int) (n:Int) (hl:l.length<=100000):EE l n=some (insI n l):=by
 unfold EE;have k:=JR l (λm (s:List Int×Bool) x=>yY l n m s.1 s.2 x) (λx=>(x:Int)) (λ_=>RY n) (λs=>s) (λx s=>s.1.length<=x+1/\(s.2=false->s.1.length<=x)) (by omega)
  (λm x s hx hi=>by
   obtain⟨o,d⟩:=s;simp only at hi;rw[yY,decide_eq_true (by omega),qG (by omega) (by omega)];unfold RY;cases d with
   |true=>
    simp only[Bool.not_true,cond_false,cond_true,if_true];unfold FW NP;rw[qG (by omega) (by omega),qN (by omega) (by omega),qO (by omega)];simp only[cond_true,cond_false,Int.toNat_natCast];exact⟨trivial,by simp;omega,λh=>by cases h⟩
   |false=>
    have hi2:=hi.2 rfl;simp only[Bool.not_false,cond_true,Int.toNat_natCast,Bool.false_eq_true,if_false];unfold FW EO NP;rw[qG (by omega) (by omega),qO (by omega)];simp only[cond_true,Int.toNat_natCast];by_cases c:l.getD x default≥n
    ·rw[decide_eq_true c,if_pos c];by_cases c2:l.getD x default>n
     ·rw[decide_eq_true c2,if_pos c2,qN (by omega) (by omega),qN (by simp;omega) (by omega)];exact⟨rfl,by simp;omega,λh=>by cases h⟩
     ·rw[decide_eq_false c2,if_neg c2,qN (by omega) (by omega)];exact⟨rfl,by simp;omega,λh=>by cases h⟩
    ·rw[decide_eq_false c,if_neg c,qN (by omega) (by omega)];exact⟨rfl,by simp;omega,λ_=>by simp;omega⟩)
  (λm s _=>by rw[yY];simp) (i:=0) rfl ([],false) (by simp)
 simp only at k;rw[k.1];simp only[Option.bind_some];have f:=qRc n l 0 [];rw[List.nil_append] at f;have kl:=k.2.1;generalize foldi (λ_=>RY n) 0 l ([],false)=q at f kl;unfold AM;obtain⟨q1,q2⟩:=q;cases q2 with
 |true=>simp only[Bool.not_true,cond_false];rw[<-f];rfl
 |false=>
  simp only[Bool.not_false,cond_true];rw[qN (by simp only at kl;omega) (by omega),<-f];rfl
theorem qKm :∀(l:List Product) (x:Nat) (s:List Int),foldi (λ_ (p:Product) s=>insI (qP p).2 (insI (qP p).1 s)) x l s=insG l s
 |[],_,s=>rfl
 |p::l,x,s=>qKm l (x+1) _
theorem qQG (ps:List Product):DH ps=some (hts ps):=by
 unfold DH;rw[qBX];simp only[Option.bind_some];by_cases h:qY ps=0
 ·have hl:=VA (l:=ps) (by simpa using h);rw[h,bne_self_eq_false,cond_false];have k:=JR ps (λn (s:List Int) x=>WV ps n s x) (λx=>(x:Int)) (λ_ p s=>insI (qP p).2 (insI (qP p).1 s)) (λs=>s) (λx s=>s.length<=2*x) (by omega)
   (λn x s hx hi=>by
    have i1:=qJm (qP (ps.getD x default)).1 s;have i2:=qJm (qP (ps.getD x default)).2 (insI (qP (ps.getD x default)).1 s);refine⟨?_,by omega⟩;rw[WV,decide_eq_true (by omega),qG (by omega) (by omega),qO (by omega)];simp only[cond_true,Int.toNat_natCast,(NK _).2,Option.bind_some];rw[qRQ _ _ (by omega)];simp only[Option.bind_some];rw[qRQ _ _ (by omega)];rfl)
   (λn s _=>by rw[WV];simp) (i:=0) rfl [] (Nat.le_refl _)
  rw[k.1,qKm,qUU h];rfl
 ·have h':(qY ps !=0)=true:=by simpa using h
  rw[h',cond_true];unfold hts;rw[if_neg h]
end Go.SL.Saw

namespace Go.SL
namespace Saw
end Saw
end Go.SL
