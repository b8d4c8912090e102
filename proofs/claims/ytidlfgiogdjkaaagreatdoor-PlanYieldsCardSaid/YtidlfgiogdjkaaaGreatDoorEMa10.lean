/- Plans: the value of the yield of the best pattern. -/
import Derived.Test.YtidlfgiogdjkaaaGreatDoorEMa9
set_option linter.unusedVariables false
set_option linter.unusedSimpArgs false
namespace Go.SL.Saw
variable {l :List qB} {ds:List Defect} {ps:List Product} {F:Rect} {w:Saw} {t:Rates}
theorem plan_tv (h:VE l ds ps F w t):tv (lvV l ds ps w t) (λc=>t.Dust*wholeR l c) w.Kerf (planT l ds ps F w t) F=(bst (qM l ds ps F w t) 0).value:=by
 have vl:=RN h;have hr:=h.vr;unfold VR at hr;have ln:=vl.len;have e:wiP F 3 ⟨F.Y.A,F.Y.B⟩=F:=rfl;have key:=qNS (lvV l ds ps w t) (λc=>t.Dust*wholeR l c) (R:=F) (axis:=3) (B:=F.Y.B) (.inr rfl) h.vw.kerf hr.2.2.2 ((wH (qM l ds ps F w t)).map (qBJ l ds ps F w t)) F.Y.A hr.2.1 (by omega) (qBM h);rw[e] at key;unfold planT;rw[key];have:=qLZ h 3000 0 (by omega) (by omega);rw[show F.Y.A+hei F=F.Y.B by unfold hei;omega,show F.Y.A+((0:Nat):Int)=F.Y.A by omega] at this;exact this
theorem qQ4 (h:VE l ds ps F w t) (hn:(JM l ds ps F w t).length<=127):
  (qGB l ds ps ⟨F,JM l ds ps F w t⟩ w t).Value=(bst (qM l ds ps F w t) 0).value+t.Chip*(volT l-wholeR l F):=by
 rw[qLW (qPY h hn),<-plan_tv h];unfold tv lvP ctP lvT ctT;simp only;rw[<-CG h,HN YP _ _ (NB (qCz h)),HN (cutG w.Kerf) _ _ (NB (qCz h))]
theorem qRm (h:VE l ds ps F w t):t.Chip*wholeR l F<=(bst (qM l ds ps F w t) 0).value:=by
 have vl:=RN h;have ln:=vl.len;have bg:=(qTz (qM l ds ps F w t) (stt (qM l ds ps F w t)) 0).1;rw[<-qJ2 vl (by omega)] at bg;have hch:(qM l ds ps F w t).Chip=(List.range (hei F).toNat).map (λp:Nat=>t.Chip*wholeR l (strR F p (p+1))):=rfl;have hlen:(qM l ds ps F w t).Len=hei F:=rfl;rw[hch,hlen,qI7 t.Chip l F (Nat.zero_le _) (by omega)] at bg;have e:strR F ((0:Nat):Int) (((hei F).toNat:Nat):Int)=F:=by
  unfold strR;rw[show(((hei F).toNat:Nat):Int)=hei F by omega,show F.Y.A+((0:Nat):Int)=F.Y.A by omega,show F.Y.A+hei F=F.Y.B by unfold hei;omega]
 rw[e] at bg;exact bg
end Go.SL.Saw

namespace Go.SL.Saw
theorem qKM {P:Leaf->Prop} {kerf axis B:Int} {R:Rect} (ha:axis=2\/axis=3) (hk:0<=kerf/\kerf<=20) (hB:B<=600) (hw:∀r,P ⟨r,-1⟩):∀(L:List Pq) (e:Int),-600<=e->e<=B->goodL kerf B e (L.map ptP)->(∀x∈L,∀y∈lvT kerf x.2 ⟨wiP R axis x.1,1⟩,P y)->∀y∈lvT kerf (rowT axis kerf B e L) ⟨wiP R axis ⟨e,B⟩,1⟩,P y
 |[],e,_,_,_,_=>by
  intro y hy;simp[rowT,lvT,allT,YP] at hy;subst hy;exact hw _
 |x::r,e,he,heB,h,hx=>by
  obtain⟨h1,h2,h3,h4⟩:=h;have h1':x.1.A<x.1.B:=h1;have h2':x.1.A=e\/e+kerf+1<=x.1.A:=h2;have h3':x.1.B<=B:=h3;have hr:ripB axis=true:=ripB_iff.2 ha;have o1:=hx x List.mem_cons_self;have inner:∀y∈lvT kerf (if x.1.B<B then .rip ⟨axis,x.1.B⟩ x.2 (rowT axis kerf B (imin (x.1.B+kerf) B) r) else x.2) ⟨wiP R axis ⟨x.1.A,B⟩,1⟩,P y:=by
   by_cases c:x.1.B<B
   ·rw[if_pos c];rw[if_pos (show(ptP x).1.B<B from c)] at h4;have mm:=imin_or (x.1.B+kerf) B;intro y hy;rw[(qCf (n:=⟨axis,x.1.B⟩) hr).1] at hy;simp only at hy;rw[qM5,qHn R axis x.1.B kerf ⟨x.1.A,B⟩ (by omega) hk,(SV kerf x.2 _ (1+1) 1).1,(SV kerf (rowT axis kerf B (imin (x.1.B+kerf) B) r) _ (1+1) 1).1] at hy;rcases List.mem_append.1 hy with hy|hy
    ·exact o1 y hy
    ·exact qKM ha hk hB hw r (imin (x.1.B+kerf) B) (by omega) (by omega) h4 (λz hz=>hx z (List.mem_cons_of_mem _ hz)) y hy
   ·rw[if_neg c];have:x.1.B=B:=by omega
    have e2:(⟨x.1.A,B⟩:Span)=x.1:=by rw[<-this]
    rw[e2];exact o1
  unfold rowT;by_cases ca:x.1.A>e
  ·rw[if_pos ca];intro y hy;have mm:=imin_or (x.1.A-kerf+kerf) B;rw[(qCf (n:=⟨axis,x.1.A-kerf⟩) hr).1] at hy;simp only at hy;rw[qHn R axis (x.1.A-kerf) kerf ⟨e,B⟩ (by omega) hk,(SV kerf (if x.1.B<B then .rip ⟨axis,x.1.B⟩ x.2 (rowT axis kerf B (imin (x.1.B+kerf) B) r) else x.2) _ (1+1) 1).1] at hy;simp only at hy;rw[show imin (x.1.A-kerf+kerf) B=x.1.A by omega] at hy;rcases List.mem_append.1 hy with hy|hy
   ·simp[lvT,allT,YP] at hy;subst hy;exact hw _
   ·exact inner y hy
  ·rw[if_neg ca];have:x.1.A=e:=by omega
   rw[<-this];exact inner
end Go.SL.Saw

namespace Go.SL.Saw
variable {l :List qB} {ds:List Defect} {ps:List Product} {F r:Rect} {w:Saw} {t:Rates}
def gB (l:List qB) (ds:List Defect) (ps:List Product) (w:Saw) (t:Rates) (y:Leaf):Prop:=y.Product= -1\/(bestR l ds (ps.getD y.Product.toNat default) y.Rect w.Step t.Fine).2.1=true
theorem qR6 (h:VE l ds ps r w t):∀y∈lvT w.Kerf (edgeTr ps r (lineS l ds ps r w t) w.Kerf) ⟨r,1⟩,gB l ds ps w t y:=by
 have vl:=HT h;have hr:=h.vr;unfold VR at hr;have e:wiP r 2 ⟨r.X.A,r.X.B⟩=r:=rfl;have key:=qKM (P:=gB l ds ps w t) (R:=r) (axis:=2) (B:=r.X.B) (.inl rfl) h.vw.kerf hr.1.2.2 (λ_=> .inl rfl) (qC7 ps r (lineS l ds ps r w t)) r.X.A hr.1.1 (by omega) (qC1 h) ?_
 ·rw[e] at key;exact key
 ·intro x hx;unfold qC7 wH at hx;obtain⟨y,hy,rfl⟩:=List.mem_map.1 hx;obtain⟨i,q,ey,hi,hq,hg⟩:=BJ vl 3000 0 (by have:=vl.len;omega) y hy;subst ey;intro y hy;have hy':y=⟨⟨⟨r.X.A+q,r.X.A+(q+(sizes ps (r.Y.B-r.Y.A)).1.getD i default)⟩,r.Y⟩,(sizes ps (r.Y.B-r.Y.A)).2.getD i default⟩:=by
   have:y∈lvT w.Kerf (.leaf ⟨1,(sizes ps (r.Y.B-r.Y.A)).2.getD ((i:Int)).toNat default⟩) ⟨⟨⟨r.X.A+q,r.X.A+(q+(sizes ps (r.Y.B-r.Y.A)).1.getD ((i:Int)).toNat default)⟩,r.Y⟩,1⟩:=hy;simp only[Int.toNat_natCast] at this;simpa[lvT,allT,YP] using this
  rw[hy'];exact .inr (gn_of h hi hq hg).2
theorem qTA (h:VE l ds ps F w t):∀y∈lvT w.Kerf (planT l ds ps F w t) ⟨F,1⟩,gB l ds ps w t y:=by
 have vl:=RN h;have ln:=vl.len;have hr:=h.vr;unfold VR at hr;have e:wiP F 3 ⟨F.Y.A,F.Y.B⟩=F:=rfl;have key:=qKM (P:=gB l ds ps w t) (R:=F) (axis:=3) (B:=F.Y.B) (.inr rfl) h.vw.kerf hr.2.2.2 (λ_=> .inl rfl) ((wH (qM l ds ps F w t)).map (qBJ l ds ps F w t)) F.Y.A hr.2.1 (by omega) (qBM h) ?_
 ·rw[e] at key;exact key
 ·intro x hx;obtain⟨y,hy,rfl⟩:=List.mem_map.1 hx;obtain⟨i,q,ey,hi,hq,hg⟩:=BJ vl 3000 0 (by omega) y hy;subst ey;have hi':i<(hts ps).length:=hi;have hq':(q:Int)+(hts ps).getD i default<=hei F:=by
   have:szAt (qM l ds ps F w t) i=(hts ps).getD i default:=rfl;have:(qM l ds ps F w t).Len=hei F:=rfl;omega
  rw[qF0 l ds ps F w t hi' hq'] at hg;exact qR6 (qEW h hi' hq' hg).1
theorem qST {i:Nat} {x:Leaf} (h:gB l ds ps w t x):(bdOf l ds ps w.Step t.Fine i x).length=([x].filter (λx=>x.Product != -1)).length:=by
 unfold bdOf;by_cases c:x.Product= -1
 ·have c':(x.Product != -1)=false:=by simpa using c
  rw[if_pos c];simp[c']
 ·have c':(x.Product != -1)=true:=by simpa using c
  rw[if_neg c,h.resolve_left c];simp[c']
theorem qMq :∀(lv:List Leaf) (i:Nat),(∀x∈lv,gB l ds ps w t x)->(bdsFrom l ds ps w.Step t.Fine i lv).length=(lv.filter (λx=>x.Product != -1)).length
 |[],_,_=>rfl
 |x::lv,i,h=>by
  show(bdOf l ds ps w.Step t.Fine i x++bdsFrom l ds ps w.Step t.Fine (i+1) lv).length=(([x]++lv).filter _).length;rw[List.length_append,List.filter_append,List.length_append,qST (h x List.mem_cons_self),qMq lv (i+1) λy hy=>h y (List.mem_cons_of_mem _ hy)]
theorem qIN {kerf:Int}:∀{T:T} {r:Rect} (m:Int),okS (bdCat ps) kerf T r->((lvT kerf T ⟨r,m⟩).filter (λx=>x.Product != -1)).length=((zN T).filter (λn=>n.Kind==1)).length
 | .leaf n,r,m,h=>by
  rcases chkN_kind h.1 h.2 with⟨e,e2⟩|⟨e,eb⟩
  ·simp[lvT,allT,YP,e,zN]
  ·have:¬n.At= -1:=by
    unfold bdCat at eb;split at eb
    ·cases eb
    ·omega
   simp[lvT,allT,YP,e,zN,this]
 | .rip n a b,r,m,h=>by
  have hk:¬n.Kind=1:=by rcases ripB_iff.1 h.1 with e|e<;>omega
  rw[(qCf h.1).1,List.filter_append,List.length_append];simp only;rw[qIN _ h.2.2.1,qIN _ h.2.2.2];simp[zN,hk]
theorem qPG (h:VE l ds ps F w t):(bds l ds ps ⟨F,JM l ds ps F w t⟩ w t.Fine).length=((JM l ds ps F w t).filter (λn=>n.Kind==1)).length:=by
 have e:lvP ⟨F,JM l ds ps F w t⟩ w.Kerf=lvT w.Kerf (planT l ds ps F w t) ⟨F,1⟩:=by
  unfold lvP lvT;simp only;rw[<-CG h,HN YP _ _ (NB (qCz h))]
 unfold bds;rw[e,qMq _ _ (qTA h),qIN 1 (qCz h),CG h]
end Go.SL.Saw

namespace Go.SL.Saw
theorem qLK :∀(l:List Node) (x:Nat) (s:Int),foldi (λ_ (n:Node) (c:Int)=>bif n.Kind==1 then c+1 else c) x l s=s+((l.filter (λn=>n.Kind==1)).length:Int)
 |[],_,s=>by simp[foldi]
 |n::l,x,s=>by
  show foldi _ (x+1) l (bif n.Kind==1 then s+1 else s)=_;rw[qLK l (x+1) _];by_cases h:n.Kind=1
  ·have h':(n.Kind==1)=true:=by simpa using h
   simp[h'];omega
  ·have h':(n.Kind==1)=false:=by simpa using h
   simp[h']
theorem cnt_eq (v:Pattern×Int×Int) (hl:v.1.Nodes.length<=1000):zZ v FUEL 0 0=some (((v.1.Nodes.filter (λn=>n.Kind==1)).length:Nat):Int):=by
 have k:=US v.1.Nodes (λn (c:Int) x=>zZ v n c x) (λx=>(x:Int)) (λ_ (n:Node) (c:Int)=>bif n.Kind==1 then c+1 else c) (λc=>c) (λx c=>0<=c/\c<=(x:Int)) (by omega)
  (λn x c hx hi=>by
   rw[zZ,decide_eq_true (by omega),qN (by omega) (by omega)];unfold KO;rw[qW (by omega),qJ (n:=c+1) (by omega) (by omega)];simp only[cond_true,Int.toNat_natCast];cases (v.1.Nodes.getD x default).Kind==1
   ·exact⟨rfl,by simp only[cond_false];omega⟩
   ·exact⟨rfl,by simp only[cond_true];omega⟩)
  (λn c _=>by rw[zZ];simp) (i:=0) rfl 0 ⟨Int.le_refl _,Int.le_refl _⟩
 rw[k.1,qLK,Int.zero_add]
theorem qI1 (a:Law24_Given):LW (some true) a=some true:=by
 unfold LW;obtain⟨b,e⟩:=qTg a;rw[e];simp only[Option.bind_some];cases b with
 |false=>rfl
 |true=>
  simp only[Bool.not_true,cond_false];rw[qRQ];simp only[Option.bind_some];by_cases c:(BA a.Solid a.Defects a.Products a.Frame a.Saw a.Rates).2.2=0
  ·have c':((BA a.Solid a.Defects a.Products a.Frame a.Saw a.Rates).2.2 !=0)=false:=by simpa using c
   obtain⟨h,hn,er⟩:=qTI c;have vy:=qPY h hn;rw[c',cond_false,cnt_eq _ (by rw[er];simp only;omega),er];simp only;unfold qCG;rw[(Of_ok vy).1,qLG vy,qGL h.sol];simp only[Option.bind_some,beq_self_eq_true,cond_true];have hv:=qQ4 h hn;have hc:=qRm h;have bv:=qJs h.sol;have m1:=QJ (a:=a.Rates.Chip) (b:=volT a.Solid) (m:=1000) (n:=28800000000) (by have:=h.vw.chip;omega) (by have:=h.vw.chip;omega) (by omega) (by omega) (by omega) (by omega);rw[hv,qPG h,qJ (n:=a.Rates.Chip*_) (by omega) (by omega)]
   have em:a.Rates.Chip*(volT a.Solid-wholeR a.Solid a.Frame)=a.Rates.Chip*volT a.Solid-a.Rates.Chip*wholeR a.Solid a.Frame:=Int.mul_sub _ _ _;rw[decide_eq_true (by omega)];simp only[beq_self_eq_true,cond_true];rfl
  ·have c':((BA a.Solid a.Defects a.Products a.Frame a.Saw a.Rates).2.2 !=0)=true:=by simpa using c
   rw[c',cond_true]
end Go.SL.Saw

namespace Go.SL.Saw
def gS :List qB:=[⟨3000,⟨-10,List.replicate 20 ⟨-100,100⟩⟩⟩]
def gP :List Product:=[⟨⟨#[112,108,97,110,107]⟩,40,100,50,0,[2000],[70]⟩]
def gW :Saw:=⟨4,5,5,500⟩
def g0 :Rates:=⟨0,0,0⟩
def gF (h:Int):Rect:=⟨⟨-100,10⟩,⟨0,h⟩⟩
def gN :List Node:=[⟨2,5⟩,⟨1,0⟩,⟨0,0⟩]
def LS :Line:=⟨110,4,1,[105],[[70000000,-1,-1,-1,-1,70000000]],List.replicate 110 0,List.replicate 110 0⟩
def LP (h n:Nat):Line:=⟨h,4,1,[42,105],[(List.range n).map (λp=>if p % 5=0 then 70000000 else-1),[]],List.replicate h 0,List.replicate h 0⟩
theorem gain_k :(List.range 12).all (λk=>decide (gainS gS [] (gP.getD 0 default) ⟨⟨-100,5⟩,⟨5*(k:Int),5*(k:Int)+42⟩⟩ gW g0=70000000)&&decide (gainS gS [] (gP.getD 0 default) ⟨⟨-95,10⟩,⟨5*(k:Int),5*(k:Int)+42⟩⟩ gW g0=70000000))=true:=by kernel_rfl
theorem qLd :sizes gP 42=([105],[0]):=by kernel_rfl
theorem qKx :hts gP=[42,105]:=by kernel_rfl
theorem qQI :chkE gS [] gP (gF 97) gW g0=0:=by
 have e:GA gS [] gP (gF 97) gW g0=some 0:=by kernel_rfl
 rw[qCd] at e;exact Option.some.inj e
theorem qPR :chkE gS [] gP (gF 96) gW g0=0:=by
 have e:GA gS [] gP (gF 96) gW g0=some 0:=by kernel_rfl
 rw[qCd] at e;exact Option.some.inj e
end Go.SL.Saw

namespace Go.SL.Saw
theorem cut_S :ZH LS=some ([⟨0,0⟩],70000000,0):=by kernel_rfl
end Go.SL.Saw

namespace Go.SL.Saw
theorem cut_97 :ZH (LP 97 56)=some ([⟨0,0⟩,⟨0,55⟩],140000000,0):=by kernel_rfl
end Go.SL.Saw

namespace Go.SL.Saw
theorem cut_96 :ZH (LP 96 55)=some ([⟨0,0⟩],70000000,0):=by kernel_rfl
end Go.SL.Saw

namespace Go.SL.Saw
theorem strip_g (h:Int) (p:Nat):strR (gF h) (p:Int) ((p:Int)+42)=⟨⟨-100,10⟩,⟨(p:Int),(p:Int)+42⟩⟩:=by
 unfold strR gF;simp only[Int.zero_add]
theorem qSj {k:Nat} (hk:k<12):lineS gS [] gP ⟨⟨-100,10⟩,⟨((5*k:Nat):Int),((5*k:Nat):Int)+42⟩⟩ gW g0=LS:=by
 have hz:(((5*k:Nat):Int)+42)-((5*k:Nat):Int)=42:=by omega
 have gk:=List.all_eq_true.1 gain_k k (List.mem_range.2 hk);rw[Bool.and_eq_true,decide_eq_true_eq,decide_eq_true_eq] at gk;have ek:((5*k:Nat):Int)=5*(k:Int):=by omega
 unfold lineS;have hw:wid ⟨⟨-100,10⟩,⟨((5*k:Nat):Int),((5*k:Nat):Int)+42⟩⟩=110:=rfl;simp only[hz,qLd,hw];have hg:qBI gS [] gP ⟨⟨-100,10⟩,⟨((5*k:Nat):Int),((5*k:Nat):Int)+42⟩⟩ gW g0 42=[[70000000,-1,-1,-1,-1,70000000]]:=by
  unfold qBI;rw[qLd];show[FM gS [] (gP.getD 0 default) ⟨⟨-100,10⟩,⟨((5*k:Nat):Int),((5*k:Nat):Int)+42⟩⟩ gW g0 105]=_;unfold FM;rw[hw];show[[XW _ _ _ _ _ _ _ 0,XW _ _ _ _ _ _ _ 1,XW _ _ _ _ _ _ _ 2,XW _ _ _ _ _ _ _ 3,XW _ _ _ _ _ _ _ 4,XW _ _ _ _ _ _ _ 5]]=_;have a0:XW gS [] (gP.getD 0 default) ⟨⟨-100,10⟩,⟨((5*k:Nat):Int),((5*k:Nat):Int)+42⟩⟩ gW g0 105 0=70000000:=by
   rw[ek];exact gk.1
  have a5:XW gS [] (gP.getD 0 default) ⟨⟨-100,10⟩,⟨((5*k:Nat):Int),((5*k:Nat):Int)+42⟩⟩ gW g0 105 5=70000000:=by
   rw[ek];exact gk.2
  rw[a0,a5];rfl
 rw[hg];have hz2:∀f:Nat->Int,(List.range (110:Int).toNat).map (λx=>g0.Chip*f x)=List.replicate 110 0:=by
  intro f;have:(λx=>g0.Chip*f x)=λ_=>(0:Int):=by funext x;show 0*f x=0;rw[Int.zero_mul]
  rw[this,List.map_const'];rfl
 have hz3:∀f:Nat->Int,(List.range (110:Int).toNat).map (λx=>g0.Dust*f x)=List.replicate 110 0:=by
  intro f;have:(λx=>g0.Dust*f x)=λ_=>(0:Int):=by funext x;show 0*f x=0;rw[Int.zero_mul]
  rw[this,List.map_const'];rfl
 rw[hz2,hz3];rfl
theorem qJa :VE gS [] gP (gF 97) gW g0:=PT.1 qQI
theorem qND :VE gS [] gP (gF 96) gW g0:=PT.1 qPR
theorem edge_g {h:Int} (hv:VE gS [] gP (gF h) gW g0) {k:Nat} (hk:k<12) (hh:5*(k:Int)+42<=h):yM gS [] gP (strR (gF h) ((5*k:Nat):Int) (((5*k:Nat):Int)+42)) gW g0=(gN,70000000,0):=by
 have ve:=qO5 hv (p:=((5*k:Nat):Int)) (q:=((5*k:Nat):Int)+42) (by omega) (by omega) (by unfold hei gF;simp only;omega);rw[strip_g] at ve⊢;unfold yM;rw[if_pos (PT.2 ve),qSj hk];have vl:=HT ve;rw[qSj hk] at vl;have cb:=EY vl;rw[cut_S] at cb;have cb':=Prod.mk.inj (Option.some.inj cb);have c1:wH LS=[⟨0,0⟩]:=cb'.1.symm;have c2:(bst LS 0).value=70000000:=(Prod.mk.inj cb'.2).1.symm;unfold qHr zV;simp only;have hz:(((5*k:Nat):Int)+42)-((5*k:Nat):Int)=42:=by omega
 rw[hz,c1,c2];have e:rowN 2 LS.Kerf ⟨-100,10⟩ (List.map (ptOf LS (-100) (bdN gP 42)) [⟨0,0⟩])=gN:=by
  unfold bdN;rw[qLd];rfl
 rw[e];rfl
theorem qMY {h:Int} (hv:VE gS [] gP (gF h) gW g0) {p:Nat} (hp:p<56) (hh:(p:Int)+42<=h):stG gS [] gP (gF h) gW g0 42 p=if p % 5=0 then(70000000,gN) else(-1,[]):=by
 unfold stG;by_cases c:p % 5=0
 ·obtain⟨k,rfl⟩:∃k,p=5*k:=⟨p/5,by omega⟩
  have c':((5*k:Nat):Int) % gW.Pitch=0:=by show((5*k:Nat):Int) % 5=0;omega
  rw[if_pos c',if_pos c,edge_g hv (by omega) (by omega)];rw[if_pos ⟨rfl,rfl⟩]
 ·have c':¬((p:Nat):Int) % gW.Pitch=0:=by show¬((p:Nat):Int) % 5=0;omega
  rw[if_neg c',if_neg c]
theorem qQu {h n:Nat} (hn:n+41=h) (hn2:n<=56) (h0:h<=104) (hv:VE gS [] gP (gF h) gW g0):qM gS [] gP (gF h) gW g0=LP h n:=by
 have hh:hei (gF (h:Int))=(h:Int):=by unfold hei gF;simp
 unfold qM LP;rw[hh,qKx];have r0:nRow (gF h) 42=n:=by unfold nRow;rw[hh];omega
 have r1:nRow (gF h) 105=0:=by unfold nRow;rw[hh];omega
 have hz2:∀f:Nat->Int,(List.range ((h:Int)).toNat).map (λx=>g0.Chip*f x)=List.replicate h 0:=by
  intro f;have:(λx=>g0.Chip*f x)=λ_=>(0:Int):=by funext x;show 0*f x=0;rw[Int.zero_mul]
  rw[this,List.map_const',Int.toNat_natCast,List.length_range]
 have hz3:∀f:Nat->Int,(List.range ((h:Int)).toNat).map (λx=>g0.Dust*f x)=List.replicate h 0:=by
  intro f;have:(λx=>g0.Dust*f x)=λ_=>(0:Int):=by funext x;show 0*f x=0;rw[Int.zero_mul]
  rw[this,List.map_const',Int.toNat_natCast,List.length_range]
 rw[hz2,hz3];have hg:(List.range ([42,105]:List Int).length).map (λj=>(List.range (nRow (gF h) (([42,105]:List Int).getD j default))).map (λp=>(stG gS [] gP (gF h) gW g0 (([42,105]:List Int).getD j default) p).1))=[(List.range n).map (λp=>if p % 5=0 then 70000000 else-1),[]]:=by
  show[(List.range (nRow (gF h) 42)).map (λp=>(stG gS [] gP (gF h) gW g0 42 p).1),(List.range (nRow (gF h) 105)).map (λp=>(stG gS [] gP (gF h) gW g0 105 p).1)]=_;rw[r0,r1]
  congr 1
  apply List.map_congr_left;intro p hp;have hp':=List.mem_range.1 hp;rw[qMY hv (by omega) (by omega)];split<;>rfl
 rw[hg];rfl
theorem qSV :UQ gS [] gP (gF 97) gW g0=some (⟨gF 97,[⟨3,42⟩,⟨2,5⟩,⟨1,0⟩,⟨0,0⟩,⟨3,51⟩,⟨0,0⟩,⟨2,5⟩,⟨1,0⟩,⟨0,0⟩]⟩,140000000,0):=by
 have el:=qQu (h:=97) (n:=56) (by omega) (by omega) (by omega) qJa;have el':qM gS [] gP (gF 97) gW g0=LP 97 56:=el;have vl:=RN qJa;rw[el'] at vl;have cb:=EY vl;rw[cut_97] at cb;have cb':=Prod.mk.inj (Option.some.inj cb);have c1:wH (LP 97 56)=[⟨0,0⟩,⟨0,55⟩]:=cb'.1.symm;have c2:(bst (LP 97 56) 0).value=140000000:=(Prod.mk.inj cb'.2).1.symm;have n0:stN gS [] gP (gF 97) gW g0 ⟨0,0⟩=gN:=by
  unfold stN;rw[qKx];show(stG gS [] gP (gF 97) gW g0 42 0).2=_;rw[qMY qJa (by omega) (by omega)];rfl
 have n1:stN gS [] gP (gF 97) gW g0 ⟨0,55⟩=gN:=by
  unfold stN;rw[qKx];show(stG gS [] gP (gF 97) gW g0 42 55).2=_;rw[qMY qJa (by omega) (by omega)];rfl
 rw[qD0];unfold BA;rw[if_pos qQI];have en:JM gS [] gP (gF 97) gW g0=[⟨3,42⟩,⟨2,5⟩,⟨1,0⟩,⟨0,0⟩,⟨3,51⟩,⟨0,0⟩,⟨2,5⟩,⟨1,0⟩,⟨0,0⟩]:=by
  unfold JM XH;rw[el',c1];simp only[List.map_cons,List.map_nil,ptOf,n0,n1];rfl
 rw[en,el',c2];have e0:g0.Chip*(volT gS-wholeR gS (gF 97))=0:=by show 0*_=(0:Int);rw[Int.zero_mul]
 rw[e0];rfl
theorem qTi :∃p,UQ gS [] gP (gF 96) gW g0=some (p,70000000,0):=by
 have el:=qQu (h:=96) (n:=55) (by omega) (by omega) (by omega) qND;have el':qM gS [] gP (gF 96) gW g0=LP 96 55:=el;have vl:=RN qND;rw[el'] at vl;have cb:=EY vl;rw[cut_96] at cb;have cb':=Prod.mk.inj (Option.some.inj cb);have c1:wH (LP 96 55)=[⟨0,0⟩]:=cb'.1.symm;have c2:(bst (LP 96 55) 0).value=70000000:=(Prod.mk.inj cb'.2).1.symm;have n0:stN gS [] gP (gF 96) gW g0 ⟨0,0⟩=gN:=by
  unfold stN;rw[qKx];show(stG gS [] gP (gF 96) gW g0 42 0).2=_;rw[qMY qND (by omega) (by omega)];rfl
 rw[qD0];unfold BA;rw[if_pos qPR];have en:JM gS [] gP (gF 96) gW g0=[⟨3,42⟩,⟨2,5⟩,⟨1,0⟩,⟨0,0⟩,⟨0,0⟩]:=by
  unfold JM XH;rw[el',c1];simp only[List.map_cons,List.map_nil,ptOf,n0];rfl
 rw[en,el',c2];have e0:g0.Chip*(volT gS-wholeR gS (gF 96))=0:=by show 0*_=(0:Int);rw[Int.zero_mul]
 rw[e0];exact⟨_,rfl⟩
theorem qO3 (h:Int):KG h=some ⟨gS,[],gP,gF h,gW,g0⟩:=by
 unfold KG;have e:DJ FUEL 0 []=some (List.replicate 20 ⟨-100,100⟩):=by kernel_rfl
 rw[e];rfl
theorem mem_g :ME ⟨gF 97,[⟨3,42⟩,⟨2,5⟩,⟨1,0⟩,⟨0,0⟩,⟨3,51⟩,⟨0,0⟩,⟨2,5⟩,⟨1,0⟩,⟨0,0⟩]⟩ gP gW=some true:=by kernel_rfl
theorem frame_g :AN gS=some ⟨⟨-100,100⟩,⟨-100,100⟩⟩:=by kernel_rfl
theorem qQq (g:Law24_Given) (r:Pattern×Int×Int) (h:UQ g.Solid g.Defects g.Products g.Frame g.Saw g.Rates=some r):QX g=some (⟨r.1.Frame,r.1.Nodes⟩,r.2.1,r.2.2):=by
 unfold QX;rw[h];rfl
def awB (fs:Int->Option Law24_Given) (fb:Law24_Given->Option (Pattern×Int×Int)) (fh:List Product->Option (List Int)) (ff:List qB->Option Rect) (fm:Pattern->List Product->Saw->Option Bool):Option Bool:=
 (fs 97).bind λv1=>
 (fb (Law24_Given.mk v1.Solid v1.Defects v1.Products v1.Frame v1.Saw v1.Rates)).bind λv3=>
 (fs 96).bind λv5=>
 (fb (Law24_Given.mk v5.Solid v5.Defects v5.Products v5.Frame v5.Saw v5.Rates)).bind λv7=>
 (fh v1.Products).bind λv9=>
 (ff v1.Solid).bind λv11=>
 bif v3.2.2==0 then
  bif v3.2.1==140000000 then
   bif v7.2.2==0 then
    bif v7.2.1==70000000 then
     bif ((v9.length:Nat):Int)==2 then
      bif inb 0 v9.length then
       bif (v9.getD ((0:Int).toNat) default)==42 then
        bif inb 1 v9.length then
         bif (v9.getD ((1:Int).toNat) default)==105 then
          bif (((v11.X.A==(-100))&&((v11.X.B==100)&&true))&&(((v11.Y.A==(-100))&&((v11.Y.B==100)&&true))&&true)) then
           bif ((v3.1.Nodes.length:Nat):Int)==9 then
            bif inb 0 v3.1.Nodes.length then
             bif ((((v3.1.Nodes.getD ((0:Int).toNat) default).Kind)==3)&&((((v3.1.Nodes.getD ((0:Int).toNat) default).At)==42)&&true)) then
              (fm (Pattern.mk v3.1.Frame v3.1.Nodes) v1.Products v1.Saw).bind λv26=>
              qY v26
             else
              qY false
            else none
           else
            qY false
          else
           qY false
         else
          qY false
        else none
       else
        qY false
      else none
     else
      qY false
    else
     qY false
   else
    qY false
  else
   qY false
 else
  qY false
theorem qTx {fs:Int->Option Law24_Given} {fb:Law24_Given->Option (Pattern×Int×Int)} {fh:List Product->Option (List Int)} {ff:List qB->Option Rect} {fm:Pattern->List Product->Saw->Option Bool} (g g':Law24_Given) (p p':Pattern) (s1:fs 97=some g) (s2:fs 96=some g') (b1:fb g=some (p,140000000,0)) (b2:fb g'=some (p',70000000,0))
  (hh:fh g.Products=some [42,105]) (hf:ff g.Solid=some ⟨⟨-100,100⟩,⟨-100,100⟩⟩) (hm:fm p g.Products g.Saw=some true) (hl:p.Nodes.length=9) (hn:p.Nodes.getD 0 default=⟨3,42⟩):awB fs fb fh ff fm=some true:=by
 unfold awB;rw[s1];simp only[Option.bind_some];rw[show(Law24_Given.mk g.Solid g.Defects g.Products g.Frame g.Saw g.Rates)=g from rfl,b1];simp only[Option.bind_some];rw[s2];simp only[Option.bind_some];rw[show(Law24_Given.mk g'.Solid g'.Defects g'.Products g'.Frame g'.Saw g'.Rates)=g' from rfl,b2];simp only[Option.bind_some];rw[hh];simp only[Option.bind_some];rw[hf];simp only[Option.bind_some,hl];rw[show((0:Int).toNat)=0 from rfl,hn,show(Pattern.mk p.Frame p.Nodes)=p from rfl,hm];rfl
theorem awake_B :YU=awB KG QX JK AN ME:=rfl
theorem qNs :YU=some true:=by
 obtain⟨p,e96⟩:=qTi;exact awake_B.trans (qTx _ _ ⟨gF 97,[⟨3,42⟩,⟨2,5⟩,⟨1,0⟩,⟨0,0⟩,⟨3,51⟩,⟨0,0⟩,⟨2,5⟩,⟨1,0⟩,⟨0,0⟩]⟩ ⟨p.Frame,p.Nodes⟩ (qO3 97) (qO3 96) (qQq ⟨gS,[],gP,gF 97,gW,g0⟩ _ qSV) (qQq ⟨gS,[],gP,gF 96,gW,g0⟩ _ e96) ((qKj gP).trans (congrArg some qKx)) frame_g mem_g rfl rfl)
end Go.SL.Saw

namespace Go.SL.Saw
theorem qKa (a:Law24_Given) {w:Prop} (_:w):GD a=some true:=by
 rw[qGm,qNs];exact qI1 a
end Go.SL.Saw
