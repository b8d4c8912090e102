import Derived.Test.YtpommeghjpbepaaEBase
import Derived.Test.YtpommeghjpbepaaEFa10
set_option linter.unusedVariables false
set_option linter.unusedSimpArgs false
namespace Go.SL
namespace Saw
open Go.Proofs Go.Proofs.Try
set_option maxHeartbeats 4000000
set_option maxRecDepth 100000
def qI9 (r:(List Product)):V:=vo 0 0 7 r.length
def qI0 (r:(List Product)):List (Nat×(Nat×O)):=[(0,ro 0 114 7 r.length (rf qC r))]
theorem qHy (r:(List Product)) (hm:qAS=some r):CtX Try.prog globs 43 0 0 [] [] (qI9 r) (qI0 r):=by
 unfold qAS at hm;refine q_E f43 5 λE=>?_;refine s_vn [] 0 ⟨[],[]⟩ ?_
 refine s_vn [qd 0 (drw 0 0 (rf qL [2000])) (litP qL du 1 (λ_=>rfl) ([2000]:List Int) 1 rfl),qd 1 (drw 1 0 (rf qL [70])) (litP qL du 1 (λ_=>rfl) ([70]:List Int) 1 rfl),qd 3 (dpr [.len 0 (([2000]:List Int).length),.frz 0,.len 1 (([70]:List Int).length),.frz 1] (drw 2 0 (rf qC ([(Product.mk (ByteArray.mk #[112,108,97,110,107]) 40 100 50 0 ([2000]:List Int) ([70]:List Int))]:List Product)))) (And.intro (And.intro (And.intro (show 1=([2000]:List Int).length from rfl) (show 1=([2000]:List Int).length from rfl)) (show 1=([2000]:List Int).length from rfl)) (And.intro (And.intro (kf (([2000]:List Int).length)) (kf (([2000]:List Int).length))) (And.intro (And.intro (And.intro (show 1=([70]:List Int).length from rfl) (show 1=([70]:List Int).length from rfl)) (show 1=([70]:List Int).length from rfl)) (And.intro (kf (([70]:List Int).length)) (kf (([70]:List Int).length)))))),qd 3 dN (litP qC du 7 (λ_=>rfl) ([(Product.mk (ByteArray.mk #[112,108,97,110,107]) 40 100 50 0 ([2000]:List Int) ([70]:List Int))]:List Product) 1 rfl)] 0 ⟨[(0,vo 2 0 7 1)],[(2,ro 0 114 7 1 (rf qC ([(Product.mk (ByteArray.mk #[112,108,97,110,107]) 40 100 50 0 ([2000]:List Int) ([70]:List Int))]:List Product)))]⟩ ?_
 refine q_fn [.len 2 (([(Product.mk (ByteArray.mk #[112,108,97,110,107]) 40 100 50 0 ([2000]:List Int) ([70]:List Int))]:List Product).length)] ⟨[(0,vo 2 0 7 (([(Product.mk (ByteArray.mk #[112,108,97,110,107]) 40 100 50 0 ([2000]:List Int) ([70]:List Int))]:List Product).length))],[(2,ro 0 114 7 (([(Product.mk (ByteArray.mk #[112,108,97,110,107]) 40 100 50 0 ([2000]:List Int) ([70]:List Int))]:List Product).length) (rf qC ([(Product.mk (ByteArray.mk #[112,108,97,110,107]) 40 100 50 0 ([2000]:List Int) ([70]:List Int))]:List Product)))]⟩ (o1 (And.intro (show 1=([(Product.mk (ByteArray.mk #[112,108,97,110,107]) 40 100 50 0 ([2000]:List Int) ([70]:List Int))]:List Product).length from rfl) (show 1=([(Product.mk (ByteArray.mk #[112,108,97,110,107]) 40 100 50 0 ([2000]:List Int) ([70]:List Int))]:List Product).length from rfl))) ?_
 obtain rfl:=oi hm;exact q_sw 2 0 (q_rt q_rm)
def KR :Int⊕(zB×Int)->V
 | .inl r=> .tup [.one (.val (.pointer none)),.one (ci r)]
 | .inr r=> .tup [.one (.bptr 0 0 0),.one (ci r.2)]
def PF :Int⊕(zB×Int)->List (Nat×(Nat×O))
 | .inl r=>[]
 | .inr r=>[(0,bx 78 [tl qF du r.1.solid,tl qE du r.1.defects,tl qC du r.1.catalog,ci r.1.saw.Kerf,ci r.1.saw.Trim,ci r.1.saw.Pitch,ci r.1.saw.Step,ci r.1.rates.Chip,ci r.1.rates.Dust,ci r.1.rates.Fine,ci r.1.length,.own 1 0 24 r.1.nodes.length,tl qL du r.1.rips,.own 2 0 4 r.1.sawn.length]),(1,ro 0 80 24 r.1.nodes.length (rf qD r.1.nodes)),(2,ro 0 28 4 r.1.sawn.length (rf qK r.1.sawn))]
theorem WY (a1:qQ) (r:Int⊕(zB×Int)) (hm:YF a1=some r):CtX Try.prog globs 8 0 0 [.agg (qZ a1)] [] (KR r) (PF r):=by
 unfold YF at hm;refine q_E f8 19 λE=>?_;refine s_vn [] 0 ⟨[(1,vp 0 0)],[(0,bx 37 (qZ a1))]⟩ (q_sq ?_);obtain⟨v2,h3,hm⟩:=qH hm;rcases sum_c hm with⟨v4,rfl,hm⟩|⟨v5,rfl,hm⟩
 ·refine q_vn [qc 12 [5,7,9,11,13,15] 1 (qBz a1.Solid a1.Defects a1.Products a1.Pattern a1.Saw a1.Rates (.inl v4) h3)] 1 ⟨[(2,vc (.val (.pointer none))),(3,vi v4)],[]⟩ ?_;obtain rfl:=oi hm;exact q_rt q_rm
 ·refine q_vn [qc 12 [5,7,9,11,13,15] 1 (qBz a1.Solid a1.Defects a1.Products a1.Pattern a1.Saw a1.Rates (.inr v5) h3)] 1 ⟨[(2,vp 1 0),(3,vi v5.2)],[(1,bx 78 [tl qF du v5.1.solid,tl qE du v5.1.defects,tl qC du v5.1.catalog,ci v5.1.saw.Kerf,ci v5.1.saw.Trim,ci v5.1.saw.Pitch,ci v5.1.saw.Step,ci v5.1.rates.Chip,ci v5.1.rates.Dust,ci v5.1.rates.Fine,ci v5.1.length,.own 2 0 24 v5.1.nodes.length,tl qL du v5.1.rips,.own 3 0 4 v5.1.sawn.length]),(2,ro 0 80 24 v5.1.nodes.length (rf qD v5.1.nodes)),(3,ro 0 28 4 v5.1.sawn.length (rf qK v5.1.sawn))]⟩ ?_;obtain rfl:=oi hm;refine q_sw 1 0 (q_sw 2 1 ?_)
  exact q_sw 3 2 (q_rt q_rm)
end Saw
end Go.SL
