import Derived.Test.YthbamnkheinbgaaGreatDoorSqW
import Derived.Test.YthbamnkheinbgaaGreatDoorSFa8
set_option linter.unusedVariables false
set_option linter.unusedSimpArgs false
namespace Go.SL
namespace Saw
open Go.Proofs Go.RowKit
set_option maxHeartbeats 4000000
set_option maxRecDepth 100000
structure RV where
  z:Int
  v:Value
instance : Inhabited RV:=⟨⟨0,undef⟩⟩
def e_RV (p:RV):List C:=[ci p.z,.val p.v]
def sqL2S (x1:Int) (l2:List RV) (x4:Int) (l5:List qD) (l5n:Nat):St:=
 ⟨[(0,vp 0 0),(1,vo 1 0 1 8),(2,vo 2 0 1 8),(3,vp 3 0),(4,vi x1),(5,vp 5 0),(6,vi x4)],[(0,bx 25 [.emp,.emp]),(1,ro 0 3 1 8 (rf qO ([(-50),0,50,50,50,0,(-50),(-50)]:List Int))),(2,ro 0 3 1 8 (rf qO ([(-20),(-20),(-20),0,20,20,20,0]:List Int))),(3,bx 25 [.own 4 0 2 l2.length,.emp]),(4,ro 0 45 2 l2.length (rf e_RV l2)),(5,bx 45 [ci (w64 (1000*x1)),.own 6 0 3 l5n]),(6,ro 0 73 3 l5n (rf qH l5))]⟩
def qIl (x1:Int) (l2:List RV) (l9:List qD):St:=
 ⟨[(0,vp 0 0),(1,vo 1 0 1 8),(2,vo 2 0 1 8),(3,vp 3 0),(4,vi x1),(5,vp 5 0)],[(0,bx 25 [.emp,.emp]),(1,ro 0 3 1 8 (rf qO ([(-50),0,50,50,50,0,(-50),(-50)]:List Int))),(2,ro 0 3 1 8 (rf qO ([(-20),(-20),(-20),0,20,20,20,0]:List Int))),(3,bx 25 [.own 4 0 2 l2.length,.emp]),(4,ro 0 45 2 l2.length (rf e_RV l2)),(5,bx 45 [ci (w64 (1000*x1)),.own 6 0 3 l9.length]),(6,ro 0 73 3 l9.length (rf qH l9))]⟩
def sqS (x1:Int) (l2:List RV) (l2n:Nat):St:=
 ⟨[(0,vp 0 0),(1,vo 1 0 1 8),(2,vo 2 0 1 8),(3,vp 3 0),(4,vi x1)],[(0,bx 25 [.emp,.emp]),(1,ro 0 3 1 8 (rf qO ([(-50),0,50,50,50,0,(-50),(-50)]:List Int))),(2,ro 0 3 1 8 (rf qO ([(-20),(-20),(-20),0,20,20,20,0]:List Int))),(3,bx 25 [.own 4 0 2 l2n,.emp]),(4,ro 0 45 2 l2n (rf e_RV l2))]⟩
theorem sqL2_ok {n0:Nat} (E:Env n0) (x1:Int) (l2:List RV):∀(n:Nat) (x4:Int) (l5:List qD) (l5n:Nat) (res:(List qD)),l5.length=l5n->TS n x4 l5=some res->HL (kn E 44 0) (nd Tryz.f42 128148) (zS 2 (λo=>qIl x1 l2 o) res) n (sqL2S x1 l2 x4 l5 l5n):=by
 intro n
 induction n with
 |zero=>
  intro x4 l5 l5n res hl0 hm;cases hm
 |succ n ih=>
  intro x4 l5 l5n res hl0 hm;subst hl0;refine qS ?_;refine q_sq ?_;refine s_vu [] 7 [] [(19,vb (decide (x4<((8:Nat):Int))))] [] [] ?_;refine q_cm hm (λb6 hm=>?_) (λb6 hm=>?_)
  ·refine q_sk ?_;refine q_sq ?_;refine q_bk 3 ?_;obtain⟨g7,hm⟩:=qK hm;obtain⟨g8,hm⟩:=qK hm
   refine q_du [qd 4 (Dir.none) (zG g7),qd 5 (Dir.none) (qW (zG g7)),qd 8 (Dir.none) (zG g7),qd 9 (Dir.none) (qW (zG g7)),qd 12 (drw 7 0 (rf qH ([(qD.mk (qA.mk (([(-50),0,50,50,50,0,(-50),(-50)]:List Int).getD x4.toNat dd) (([(-20),(-20),(-20),0,20,20,20,0]:List Int).getD x4.toNat dd)) true)]:List qD))) (litP qH dd 3 (λ_=>rfl) ([(qD.mk (qA.mk (([(-50),0,50,50,50,0,(-50),(-50)]:List Int).getD x4.toNat dd) (([(-20),(-20),(-20),0,20,20,20,0]:List Int).getD x4.toNat dd)) true)]:List qD) 1 rfl),qd 13 (drw 6 1 (rf qH (l5++([(qD.mk (qA.mk (([(-50),0,50,50,50,0,(-50),(-50)]:List Int).getD x4.toNat dd) (([(-20),(-20),(-20),0,20,20,20,0]:List Int).getD x4.toNat dd)) true)]:List qD)))) (apP qH dd l5 ([(qD.mk (qA.mk (([(-50),0,50,50,50,0,(-50),(-50)]:List Int).getD x4.toNat dd) (([(-20),(-20),(-20),0,20,20,20,0]:List Int).getD x4.toNat dd)) true)]:List qD) l5.length 1 3 24 (1<=1) (kr _) rfl rfl (λ_=>rfl) (zW g8))] [0,1,0,0,12,28,0,0,192,448,1020,2044,4092,8191,16383,32767] 7 [19] [] [5,6] [(5,bx 45 [ci (w64 (1000*x1)),.own 6 1 3 (l5.length+1)]),(6,ro 1 73 3 (l5.length+1) (rf qH (l5++([(qD.mk (qA.mk (([(-50),0,50,50,50,0,(-50),(-50)]:List Int).getD x4.toNat dd) (([(-20),(-20),(-20),0,20,20,20,0]:List Int).getD x4.toNat dd)) true)]:List qD))))] ?_
   refine q_vu [] 8 [6] [(6,vi (w64 (x4+1)))] [] [] ?_;exact q_hl (sqL2S x1 l2 (w64 (x4+1)) (l5++([(qD.mk (qA.mk (([(-50),0,50,50,50,0,(-50),(-50)]:List Int).getD x4.toNat dd) (([(-20),(-20),(-20),0,20,20,20,0]:List Int).getD x4.toNat dd)) true)]:List qD)) (l5.length+1)) (ih (w64 (x4+1)) (l5++([(qD.mk (qA.mk (([(-50),0,50,50,50,0,(-50),(-50)]:List Int).getD x4.toNat dd) (([(-20),(-20),(-20),0,20,20,20,0]:List Int).getD x4.toNat dd)) true)]:List qD)) (l5.length+1) _ (wN rfl rfl) hm)
  ·refine q_ex 2 ?_;obtain rfl:=oi hm;exact L0_mk (by kernel_rfl) (by kernel_rfl)
section
variable {K :Ctx} {st:St} {fn:Func} {n:Nat} {R:Exit->Act->World->Prop}
theorem NY (h:H K st (nd fn (2*n)) (λe st'=>e= .normal/\HW K st' (nd fn (2*n+1)) R)) (hc:nd fn n= .seq (nd fn (2*n)) (nd fn (2*n+1)):=by kernel_rfl):HW K st (nd fn n) R:=by rw[hc];exact HW_seq h
theorem qP5 {R':Exit->Act->World->Prop} (h:HW K st (nd fn (2*n)) R') (hn:∀e a w,R' e a w->e= .normal/\(nd fn (2*n+1)).wpIn K.F 0 K.P R a w) (hc:nd fn n= .seq (nd fn (2*n)) (nd fn (2*n+1)):=by kernel_rfl):HW K st (nd fn n) R:=by rw[hc];exact HW_sq h hn
theorem qQx (id:Nat) {R':Exit->Act->World->Prop} (h:HW K st (nd fn (2*n)) R') (hr:∀e a w,R' e a w->Exit.inBlock id R e a w) (hc:nd fn n= .block id (nd fn (2*n)):=by kernel_rfl):HW K st (nd fn n) R:=by rw[hc];exact qMG h hr
theorem HW_sub {c:Code} (st':St) (h:HW K st' c R) (h1:st'.slots.map (λp=>look p.1 st.rev.slots)=st'.slots.map λp=>some p.2) (h2:st'.objs.map (λp=>look p.1 st.rev.objs)=st'.objs.map λp=>some p.2):HW K st c R:=λ_ a w hs=>h _ a w (hs.rev.sub ⟨h1,h2⟩)
end
def sqP {n0:Nat} (E:Env n0) (x1:Int) (rs:List RV) (L:List qD) (a:Act) (w:World):Prop:=
  ∃(E':Env 16) (b cap:Nat),SqF E E' b cap L/\∃M,Sim1 (kn E' 44 0) M (sqS (w64 (x1+1)) (rs++([⟨w64 (1000*x1),.slice (some ⟨b,0,none⟩) L.length cap⟩]:List RV)) (rs.length+1)) a w
theorem qLk {n0:Nat} (E:Env n0) (h6:E.In 6=none) (x1:Int) (hx:decide (x1<2)=true) (rs:List RV) (L:List qD) (hL:TS FUEL 0 ([]:List qD)=some L) (hL0:L.length≠0) (hroom:room (rs.length+1) 32=true):
    HW (kn E 44 0) (sqS x1 rs rs.length) (nd Tryz.f42 500) (λe a w=>e= .normal/\sqP E x1 rs L a w):=by
  refine NY ?_;refine s_vu [] 5 [] [(10,vb (decide (x1<2)))] [] [] ?_;refine q_cn (decide (x1<2)) (λ_=>?_) (λh=>by rw[hx] at h;cases h);refine q_sk ⟨rfl,?_⟩;refine qP5 (R':=λe a w=>e= .normal/\∃(E':Env 16) (b cap:Nat),SqF E E' b cap L/\∃M st',Sim1 (kn E' 44 0) M st' a w/\HW (kn E' 44 0) st' (nd Tryz.f42 2003) (λe a w=>e= .normal/\sqP E x1 rs L a w)) ?_ ?_
  · refine qQx 1 (R':=λe a w=>e= .normal/\∃(E':Env 16) (b cap:Nat),SqF E E' b cap L/\∃M st',Sim1 (kn E' 44 0) M st' a w/\HW (kn E' 44 0) st' (nd Tryz.f42 2003) (λe a w=>e= .normal/\sqP E x1 rs L a w)) ?_ ?_
    · refine NY ?_;refine q_vu [] 5 [10] [(5,vp 5 0)] [] [(5,bx 45 [ci (w64 (1000*x1)),.emp])] ⟨rfl,?_⟩;refine NY ?_;refine s_vu [] 6 [] [(6,vi 0)] [] [] ?_;refine q_fu [.ownB 5 1 6 73 3 (rf qH ([]:List qD))] [] [] [5] [(5,bx 45 [ci (w64 (1000*x1)),.own 6 0 3 0]),(6,ro 0 73 3 0 (rf qH ([]:List qD)))] o0 ?_;refine zL (nd Tryz.f42 128148) 2 (by kernel_rfl) FUEL (λo=>qIl x1 rs o) L (q_hl (sqL2S x1 rs 0 ([]:List qD) 0) (sqL2_ok E x1 rs FUEL 0 ([]:List qD) 0 L rfl hL)) ⟨rfl,?_⟩
      refine qQ6 E h6 (w64 (1000*x1)) L hL0 rfl rfl rfl (λv=>⟨(qIl x1 rs L).slots,[(0,bx 25 [.emp,.emp]),(1,ro 0 3 1 8 (rf qO ([(-50),0,50,50,50,0,(-50),(-50)]:List Int))),(2,ro 0 3 1 8 (rf qO ([(-20),(-20),(-20),0,20,20,20,0]:List Int))),(3,bx 25 [.own 4 0 2 rs.length,.emp]),(4,ro 0 45 2 rs.length (rf e_RV rs)),(5,bx 45 [ci (w64 (1000*x1)),.val v])]⟩) (λ_=>rfl) ?_ ?_ ?_
      · intro v i p hp;simp only[look_cons] at hp;by_cases h5:i=5
        · subst h5;exact .inl ⟨rfl,by simpa[bx] using hp.symm⟩
        · refine .inr ⟨h5,?_,?_⟩
          · rintro rfl;simp[look] at hp
          · simp only[qIl,look_cons];split at hp
            · rename_i h;rw[if_pos h];exact hp
            · rename_i h;rw[if_neg h];split at hp
              · rename_i h;rw[if_pos h];exact hp
              · rename_i h;rw[if_neg h];split at hp
                · rename_i h;rw[if_pos h];exact hp
                · rename_i h;rw[if_neg h];split at hp
                  · rename_i h;rw[if_pos h];exact hp
                  · rename_i h;rw[if_neg h];split at hp
                    · rename_i h;rw[if_pos h];exact hp
                    · rename_i h;rw[if_neg h];rw[if_neg (λh=>h5 h.symm)] at hp;cases hp
      · intro v i h6' hi;simp only[qIl,look_cons] at hi⊢;by_cases h0:0=i
        · simp[h0]
        · by_cases h1:1=i
          · simp[h0,h1]
          · by_cases h2:2=i
            · simp[h0,h1,h2]
            · by_cases h3:3=i
              · simp[h0,h1,h2,h3]
              · by_cases h4:4=i
                · simp[h0,h1,h2,h3,h4]
                · by_cases h5:5=i
                  · simp[h0,h1,h2,h3,h4,h5]
                  · have:¬6=i:=λh=>h6' h.symm;simp[h0,h1,h2,h3,h4,h5,this,look] at hi
      · intro E' b cap F;refine HW_H (Q:=λe st'=>e= .normal/\HW (kn E' 44 0) st' (nd Tryz.f42 2003) (λe a w=>e= .normal/\sqP E x1 rs L a w)) ?_ (λe a w M st' hq hs=>⟨hq.1,E',b,cap,F,M,st',hs,hq.2⟩)
        refine q_vu [qd 3 (drw 7 0 (rf e_RV ([⟨w64 (1000*x1),.slice (some ⟨b,0,none⟩) L.length cap⟩]:List RV))) (litP e_RV dd 2 (λ_=>rfl) ([⟨w64 (1000*x1),.slice (some ⟨b,0,none⟩) L.length cap⟩]:List RV) 1 rfl),qd 4 (drw 4 1 (rf e_RV (rs++([⟨w64 (1000*x1),.slice (some ⟨b,0,none⟩) L.length cap⟩]:List RV)))) (apP e_RV dd rs ([⟨w64 (1000*x1),.slice (some ⟨b,0,none⟩) L.length cap⟩]:List RV) rs.length 1 2 32 (1<=1) (kr _) rfl rfl (λ_=>rfl) (zW hroom))] 7 [5] [] [3,4,5] [(3,bx 25 [.own 4 1 2 (rs.length+1),.emp]),(4,ro 1 45 2 (rs.length+1) (rf e_RV (rs++([⟨w64 (1000*x1),.slice (some ⟨b,0,none⟩) L.length cap⟩]:List RV))))] ⟨rfl,?_⟩
        refine HW_H (Q:=λe st'=>e= .normal/\Sub (sqS (w64 (x1+1)) (rs++([⟨w64 (1000*x1),.slice (some ⟨b,0,none⟩) L.length cap⟩]:List RV)) (rs.length+1)) st'.rev) ?_ (λe a w M st' hq hs=>⟨hq.1,E',b,cap,F,_,hs.rev.sub hq.2⟩);refine q_vu [] 8 [4] [(4,vi (w64 (x1+1)))] [] [] ⟨rfl,?_⟩;exact⟨by kernel_rfl,by kernel_rfl⟩
    · rintro e a w ⟨rfl,h⟩;exact⟨rfl,h⟩
  · rintro e a w ⟨rfl,E',b,cap,F,M,st',hs,h⟩;exact⟨rfl,h M a w hs⟩
end Saw
end Go.SL
