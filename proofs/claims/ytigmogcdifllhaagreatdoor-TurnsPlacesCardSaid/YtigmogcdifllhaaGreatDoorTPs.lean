import Derived.Test.YtigmogcdifllhaaGreatDoorEBase
set_option linter.unusedVariables false
set_option linter.unusedSimpArgs false
namespace Go.SL
namespace Saw
open Go.Proofs
def PE (x:zA):List C:=[tl qO dd x.Solid,.emp]
theorem stemI {w:World} {ok:Nat->Prop} {s:List qM} {v:Value} (h:IRep w ok (.lst 1 (rf PE [⟨s,[]⟩])) v):IRep w ok (.lst 1 (rf ZZ [⟨s,[]⟩])) v:=by
 generalize hf:rf PE [⟨s,[]⟩]=f at h;cases h with
 |lst b o n cap sz f g hn hm hl hb hc hr=>
  subst hf;have hz:sz=2:=(hl 0 (by omega)).symm;subst hz;refine .lst b o 1 cap 2 _ g hn hm (λi hi=>?_) hb hc (λi j hi hj=>?_)
  ·obtain rfl:i=0:=by omega
   rfl
  ·obtain rfl:i=0:=by omega
   have h0:=hr 0 j hi hj
   match j,hj with
   |0,_=>exact h0
   |1,_=>
    generalize g 0 1=u at h0;have h1:IRep w ok .emp u:=h0;cases h1 with
    |emp a=>exact .lst0 a _
theorem CtX.stem {P:Program} {gl:List (Nat×C)} {f n m:Nat} {a b:List qM} {oi:List (Nat×(Nat×O))} {x:V} {ob:List (Nat×(Nat×O))} (h:CtX P gl f n m [.one (tl ZZ dd [⟨a,[]⟩]),.one (tl ZZ dd [⟨b,[]⟩])] oi x ob):CtX P gl f n m [.one (.lst 1 (rf PE [⟨a,[]⟩])),.one (.lst 1 (rf PE [⟨b,[]⟩]))] oi x ob:=by
 intro w M vs hg hin ha;refine h w M vs hg hin ⟨ha.1,λj hj=>?_⟩
 match j,hj with
 |0,_=>exact stemI (ha.2 0 (by simp))
 |1,_=>exact stemI (ha.2 1 (by simp))
end Saw
end Go.SL
