import Derived.Test.YtjelipmghgcpeaaSBase
import Derived.Test.YtjelipmghgcpeaaSFa1
import Derived.Test.YtjelipmghgcpeaaYa5
import Derived.Test.YtjelipmghgcpeaaPCmp
import Derived.Ground.SlsfProg
set_option linter.unusedVariables false
set_option linter.unusedSimpArgs false
namespace Go.SL
namespace Saw
open Go.Proofs
set_option maxHeartbeats 4000000

def cmp_Or_Si64_x (r : Int) : V := vi r

def cmp_Or_Si64_o (r : Int) : List (Nat × (Nat × O)) := []

theorem cmp_Or_Si64_f (r : Int) : Frozen (cmp_Or_Si64_o r) := by
  intro i k o h
  unfold cmp_Or_Si64_o at h
  cases h

def cmp_Or_Si64_L1_S (a1 : List Int) (x2 : Int) : St :=
  ⟨[(3, vi 0), (6, vc (tl e_i64 default a1)), (7, vi ((a1.length : Nat) : Int)), (8, vi x2)], []⟩

def cmp_Or_Si64_L1_T : St :=
  ⟨[(3, vi 0)], []⟩

set_option maxRecDepth 100000 in
theorem cmp_Or_Si64_L1_ok (E : Env 0) (a1 : List Int) : ∀ (n : Nat) (x2 : Int) (res : Int ⊕ Unit), cmp_Or_Si64_L1 a1 n x2 = some res → HL (kx E 18 0) (nd Try.f70 116) (loopQ 0 (fun o => cmp_Or_Si64_L1_T) (fun v st => RetQ Try.prog Try.f70 (cmp_Or_Si64_x v) (cmp_Or_Si64_o v) .ret st) res) n (cmp_Or_Si64_L1_S a1 x2) := by
  intro n
  induction n with
  | zero =>
    intro x2 res hm
    cases hm
  | succ n ih =>
    intro x2 res hm
    refine HL_succ ?_
    refine R_sq Try.f70 232 233 (by kernel_rfl) ?_
    refine R_rn Try.f70 232 3 [] [] 0 ⟨[(3, vi 0), (6, vc (tl e_i64 default a1)), (7, vi ((a1.length : Nat) : Int)), (8, vi x2), (9, vb (decide (x2 < ((a1.length : Nat) : Int))))], []⟩ o0 (by kernel_rfl) (by kernel_rfl) ?_
    refine R_sq Try.f70 466 467 (by kernel_rfl) ?_
    refine R_cn Try.f70 (.tmp 9) 932 933 (by kernel_rfl) (decide (x2 < ((a1.length : Nat) : Int))) (by kernel_rfl) (fun b3 => ?_) (fun b3 => ?_)
    · replace hm := bif_t b3 hm
      refine R_skip (by kernel_rfl) ?_
      refine R_sq Try.f70 934 935 (by kernel_rfl) ?_
      refine R_bk Try.f70 1 1868 (by kernel_rfl) ?_
      refine R_sq Try.f70 3736 3737 (by kernel_rfl) ?_
      obtain ⟨g4, hm⟩ := bif_n hm
      refine R_rn Try.f70 3736 4 [] [] 0 ⟨[(3, vi 0), (5, vi (a1.getD x2.toNat default)), (6, vc (tl e_i64 default a1)), (7, vi ((a1.length : Nat) : Int)), (8, vi x2)], []⟩ (o1 (inb_of g4)) (by kernel_rfl) (by kernel_rfl) ?_
      refine R_sq Try.f70 7474 7475 (by kernel_rfl) ?_
      refine R_rn Try.f70 7474 5 [] [] 0 ⟨[(3, vi 0), (5, vi (a1.getD x2.toNat default)), (6, vc (tl e_i64 default a1)), (7, vi ((a1.length : Nat) : Int)), (8, vi x2), (14, vb ((a1.getD x2.toNat default) != 0))], []⟩ o0 (by kernel_rfl) (by kernel_rfl) ?_
      refine R_cn Try.f70 (.tmp 14) 14950 14951 (by kernel_rfl) ((a1.getD x2.toNat default) != 0) (by kernel_rfl) (fun b5 => ?_) (fun b5 => ?_)
      · replace hm := bif_t b5 hm
        refine R_sq Try.f70 29900 29901 (by kernel_rfl) ?_
        refine R_rn Try.f70 29900 6 [] [] 0 ⟨[(2, vi (a1.getD x2.toNat default))], []⟩ o0 (by kernel_rfl) (by kernel_rfl) ?_
        obtain rfl := Option.some.inj hm
        refine R_ret (by kernel_rfl) ?_
        refine L1_ret (a1.getD x2.toNat default) ?_
        exact ret_mk (by kernel_rfl) (by kernel_rfl)
      · replace hm := bif_f b5 hm
        refine R_skip (by kernel_rfl) ?_
        refine R_rn Try.f70 935 7 [] [] 0 ⟨[(3, vi 0), (6, vc (tl e_i64 default a1)), (7, vi ((a1.length : Nat) : Int)), (8, vi (w64 (x2 + 1)))], []⟩ o0 (by kernel_rfl) (by kernel_rfl) ?_
        exact HL_enter (cmp_Or_Si64_L1_S a1 (w64 (x2 + 1))) (by kernel_rfl) (by kernel_rfl) (ih (w64 (x2 + 1)) _ hm)
    · replace hm := bif_f b3 hm
      refine R_exit 0 (by kernel_rfl) ?_
      obtain rfl := Option.some.inj hm
      exact L1_mk () (by kernel_rfl) (by kernel_rfl)

set_option maxRecDepth 100000 in
theorem cmp_Or_Si64_ok (a1 : List Int) (r : Int) (hm : cmp_Or_Si64 a1 = some r) : CtX Try.prog globs 70 0 0 [.one (tl e_i64 default a1)] [] (cmp_Or_Si64_x r) (cmp_Or_Si64_o r) := by
  unfold cmp_Or_Si64 at hm
  refine CtX_of_E (fn := Try.f70) (c := nd Try.f70 1) (nt := 18) (by kernel_rfl) (by kernel_rfl) (by kernel_rfl) (by kernel_rfl) fun E => ?_
  refine R_sq Try.f70 2 3 (by kernel_rfl) ?_
  refine R_rn Try.f70 2 0 [] [] 0 ⟨[(0, vc (tl e_i64 default a1))], []⟩ o0 (by kernel_rfl) (by kernel_rfl) ?_
  refine R_sq Try.f70 6 7 (by kernel_rfl) ?_
  refine R_rn Try.f70 6 1 [] [] 0 ⟨[(0, vc (tl e_i64 default a1)), (3, vi 0)], []⟩ o0 (by kernel_rfl) (by kernel_rfl) ?_
  refine R_sq Try.f70 14 15 (by kernel_rfl) ?_
  refine R_sq Try.f70 28 29 (by kernel_rfl) ?_
  refine R_rn Try.f70 28 2 [] [] 0 ⟨[(3, vi 0), (6, vc (tl e_i64 default a1)), (7, vi ((a1.length : Nat) : Int)), (8, vi 0)], []⟩ o0 (by kernel_rfl) (by kernel_rfl) ?_
  obtain ⟨u8, h7, hm⟩ := bind_s hm
  refine R_loop1 (nd Try.f70 116) 0 (by kernel_rfl) FUEL (fun o => cmp_Or_Si64_L1_T) (fun v st => RetQ Try.prog Try.f70 (cmp_Or_Si64_x v) (cmp_Or_Si64_o v) .ret st) u8 (HL_enter (cmp_Or_Si64_L1_S a1 0) (by kernel_rfl) (by kernel_rfl) (cmp_Or_Si64_L1_ok E a1 FUEL 0 u8 h7)) ?_ ?_
  · rintro v9 rfl st hr
    obtain rfl := Option.some.inj hm
    exact hr
  · rintro o6 rfl
    replace hm : _ = some r := hm
    refine R_sq Try.f70 30 31 (by kernel_rfl) ?_
    refine R_rn Try.f70 30 8 [] [] 0 ⟨[(2, vi 0)], []⟩ o0 (by kernel_rfl) (by kernel_rfl) ?_
    obtain rfl := Option.some.inj hm
    refine R_ret (by kernel_rfl) ?_
    exact ret_mk (by kernel_rfl) (by kernel_rfl)

end Saw
end Go.SL

namespace Go.SL
namespace Saw
open Go.Proofs
set_option maxHeartbeats 4000000

def poly_Hull_1_x (r : Int) : V := vi r

def poly_Hull_1_o (r : Int) : List (Nat × (Nat × O)) := []

theorem poly_Hull_1_f (r : Int) : Frozen (poly_Hull_1_o r) := by
  intro i k o h
  unfold poly_Hull_1_o at h
  cases h

set_option maxRecDepth 100000 in
theorem poly_Hull_1_ok (a1 : Point) (a2 : Point) (r : Int) (hm : poly_Hull_1 a1 a2 = some r) : CtX Try.prog globs 69 0 0 [.agg [ci a1.X, ci a1.Y], .agg [ci a2.X, ci a2.Y]] [] (poly_Hull_1_x r) (poly_Hull_1_o r) := by
  unfold poly_Hull_1 at hm
  refine CtX_of_E (fn := Try.f69) (c := nd Try.f69 1) (nt := 17) (by kernel_rfl) (by kernel_rfl) (by kernel_rfl) (by kernel_rfl) fun E => ?_
  refine R_sq Try.f69 2 3 (by kernel_rfl) ?_
  refine R_rn Try.f69 2 0 [] [] 0 ⟨[(2, vp 0 0), (3, vp 1 0)], [(0, bx 46 [ci a1.X, ci a1.Y]), (1, bx 46 [ci a2.X, ci a2.Y])]⟩ o0 (by kernel_rfl) (by kernel_rfl) ?_
  refine R_sq Try.f69 6 7 (by kernel_rfl) ?_
  obtain ⟨v3, h4, hm⟩ := bind_s hm
  obtain ⟨v5, h6, hm⟩ := bind_s hm
  obtain ⟨v7, h8, hm⟩ := bind_s hm
  refine R_dr Try.f69 6 1 [] [(4, dex (cen [] [] 2 0 (cmp_Compare_i64_x v3) (cmp_Compare_i64_o v3) [6, 8] [])), (9, dex (cen [] [] 2 0 (cmp_Compare_i64_x v5) (cmp_Compare_i64_o v5) [11, 13] [])), (10, drw 2 0 (rf e_i64 ([v3, v5] : List Int))), (11, dex (cen [] [] 3 0 (cmp_Or_Si64_x v7) (cmp_Or_Si64_o v7) [15] [2]))] [] [0, 1, 0, 4, 15, 0, 32, 0, 128, 511, 1023, 2047, 4095] 2 ⟨[(4, vi v7)], []⟩ (o1 (And.intro (callS (K := (kx E 17 0)) ⟨[(6, vi a1.X), (8, vi a2.X)], []⟩ (opAt (rg Try.f69 6) 4) [] [] 2 o0 rfl (cmp_Compare_i64_ok a1.X a2.X v3 h4) (.inl rfl) (by kernel_rfl)) (And.intro (callS (K := (kx E 17 0)) ⟨[(11, vi a1.Y), (13, vi a2.Y)], []⟩ (opAt (rg Try.f69 6) 9) [] [] 2 o0 rfl (cmp_Compare_i64_ok a1.Y a2.Y v5 h6) (.inl rfl) (by kernel_rfl)) (And.intro (litP e_i64 default 1 (fun _ => rfl) ([v3, v5] : List Int) 2 rfl) (callS (K := (kx E 17 0)) (xs' := [.one (.lst 2 (rf e_i64 ([v3, v5] : List Int)))]) (b := false) ⟨[(15, vo 2 0 1 2)], [(2, ro 0 3 1 2 (rf e_i64 ([v3, v5] : List Int)))]⟩ (opAt (rg Try.f69 6) 11) [] [] 3 (o1 (Nat.le_refl 2)) (by simp only [tl, rf, show ([v3, v5] : List Int).length = 2 from rfl]) (cmp_Or_Si64_ok ([v3, v5] : List Int) v7 h8) (.inr ⟨(by kernel_rfl), cmp_Or_Si64_f v7⟩) (by kernel_rfl)))))) (by kernel_rfl) (by kernel_rfl) ?_
  obtain rfl := Option.some.inj hm
  refine R_ret (by kernel_rfl) ?_
  exact ret_mk (by kernel_rfl) (by kernel_rfl)

end Saw
end Go.SL

namespace Go.SL
namespace Saw
open Go.Proofs
set_option maxHeartbeats 4000000

def slices_SortFunc_SPoint_x (a1 : List Point) (r : List Point) : V := .undef

def slices_SortFunc_SPoint_o (a1 : List Point) (r : List Point) : List (Nat × (Nat × O)) := [(0, ro 0 46 2 r.length (rf e_Point r))]

theorem slices_SortFunc_SPoint_f (a1 : List Point) (r : List Point) : Frozen (slices_SortFunc_SPoint_o a1 r) := by
  intro i k o h
  unfold slices_SortFunc_SPoint_o at h
  rw [look_cons] at h
  split at h
  · cases h; exact fun _ _ => rfl
  · cases h

theorem lfB {α:Type} {o:Option α} {a b:α} (h:o=some a) (e:a=b:=by kernel_rfl):o=some b:=h.trans (congrArg some e)
def slices_SortFunc_SPoint_lay_ren :Go.Shelf.Ren:=⟨fun |6=>68|15=>87|14=>86|28=>100|29=>101|20=>92|21=>93|22=>94|23=>95|24=>96|25=>97|26=>98|27=>99|46=>104|47=>105|48=>106|49=>107|50=>108|57=>109|n=>n,fun |22=>29|24=>46|25=>72|3=>3|39=>85|0=>0|53=>96|55=>81|4=>4|46=>89|45=>88|50=>93|5=>5|9=>9|66=>98|70=>102|76=>104|77=>78|n=>n,fun n=>n⟩
theorem slices_SortFunc_SPoint_lay : Go.Proofs.SlLaysF0.n6 Try.prog slices_SortFunc_SPoint_lay_ren :={mixed:=by kernel_rfl,f6:=⟨Try.f68.name,by decide,lfB Try.func68⟩,f14:=⟨Try.f86.name,by decide,lfB Try.func86⟩,f15:=lfB Try.func87,f20:=⟨Try.f92.name,by decide,lfB Try.func92⟩,f21:=⟨Try.f93.name,by decide,lfB Try.func93⟩,f22:=⟨Try.f94.name,by decide,lfB Try.func94⟩,f23:=⟨Try.f95.name,by decide,lfB Try.func95⟩,f24:=⟨Try.f96.name,by decide,lfB Try.func96⟩,f25:=⟨Try.f97.name,by decide,lfB Try.func97⟩,f26:=⟨Try.f98.name,by decide,lfB Try.func98⟩,f27:=⟨Try.f99.name,by decide,lfB Try.func99⟩,f28:=lfB Try.func100,f29:=lfB Try.func101,f46:=⟨Try.f104.name,by decide,lfB Try.func104⟩,f47:=lfB Try.func105,f48:=lfB Try.func106,f49:=⟨Try.f107.name,by decide,lfB Try.func107⟩,f50:=⟨Try.f108.name,by decide,lfB Try.func108⟩,f57:=⟨Try.f109.name,by decide,lfB Try.func109⟩,t0:=Try.underlying0,a0:=Try.isAgg0,z0:=Try.sizeOf0,v0:=Try.zeroValue0,t3:=Try.underlying3,a3:=Try.isAgg3,z3:=Try.sizeOf3,v3:=Try.zeroValue3,t4:=Try.underlying4,a4:=Try.isAgg4,z4:=Try.sizeOf4,v4:=Try.zeroValue4,t5:=Try.underlying5,a5:=Try.isAgg5,z5:=Try.sizeOf5,v5:=Try.zeroValue5,t9:=Try.underlying9,a9:=Try.isAgg9,z9:=Try.sizeOf9,v9:=Try.zeroValue9,t22:=Try.underlying29,a22:=Try.isAgg29,z22:=Try.sizeOf29,v22:=Try.zeroValue29,t25:=Try.underlying72,a25:=Try.isAgg72,z25:=Try.sizeOf72,v25:=Try.zeroValue72,t39:=Try.underlying85,a39:=Try.isAgg85,z39:=Try.sizeOf85,v39:=Try.zeroValue85,t45:=Try.underlying88,a45:=Try.isAgg88,z45:=Try.sizeOf88,v45:=Try.zeroValue88,t46:=Try.underlying89,a46:=Try.isAgg89,z46:=Try.sizeOf89,v46:=Try.zeroValue89,t50:=Try.underlying93,a50:=Try.isAgg93,z50:=Try.sizeOf93,v50:=Try.zeroValue93,t53:=Try.underlying96,a53:=Try.isAgg96,z53:=Try.sizeOf96,v53:=Try.zeroValue96,t55:=Try.underlying81,a55:=Try.isAgg81,z55:=Try.sizeOf81,v55:=Try.zeroValue81,t66:=Try.underlying98,a66:=Try.isAgg98,z66:=Try.sizeOf98,v66:=Try.zeroValue98,t70:=Try.underlying102,a70:=Try.isAgg102,z70:=Try.sizeOf102,v70:=Try.zeroValue102,t76:=Try.underlying104,a76:=Try.isAgg104,z76:=Try.sizeOf104,v76:=Try.zeroValue104,t77:=Try.underlying78,a77:=Try.isAgg78,z77:=Try.sizeOf78,v77:=Try.zeroValue78}

def encV_Point (p : Point) : List Value := [.int .i64 p.X, .int .i64 p.Y]
theorem slices_SortFunc_SPoint_swo : Go.Sort.SWO (ltOf cmpPt) where
  irrefl x := by unfold ltOf cmpPt; simp
  trans x y z h1 h2 := by
    rw [ltPt] at *
    simp only [decide_eq_true_eq] at *
    omega
  ntrans x y z h1 h2 := by
    rw [ltPt] at *
    simp only [decide_eq_false_iff_not] at *
    omega
theorem slices_SortFunc_SPoint_anti (x y : Point) (h1 : ltOf cmpPt x y = false) (h2 : ltOf cmpPt y x = false) : x = y := by
  rw [ltPt] at *
  simp only [decide_eq_false_iff_not] at *
  cases x; cases y
  simp only [Point.mk.injEq] at *
  omega
theorem slices_SortFunc_SPoint_ok (a1 : List Point) (r : List Point) (hm : slices_SortFunc_SPoint a1 = some r) : CtX Try.prog globs 68 1 1 [.one (.own 0 0 2 a1.length), .one (.fn 69 [])] [(0, ro 0 46 2 a1.length (rf e_Point a1))] (slices_SortFunc_SPoint_x a1 r) (slices_SortFunc_SPoint_o a1 r) := by
  unfold slices_SortFunc_SPoint at hm
  obtain ⟨g1, hm⟩ := bif_n hm
  obtain rfl := Option.some.inj hm
  have hs := sortOk_of g1
  have eg : ∀ args w, (callFunc 69 args).run Try.prog w = .ok (.enter 69 args) w := enters_of Try.func69 (by kernel_rfl) rfl
  exact CtX_sort (gl := globs) slices_SortFunc_SPoint_lay 2 Try.isAgg46 Try.sizeOf46 encV_Point (fun _ => rfl) (fun x v hv => by simp [encV_Point] at hv; rcases hv with rfl | rfl <;> rfl) poly_Hull_1 cmpPt poly_Hull_1_eq slices_SortFunc_SPoint_swo slices_SortFunc_SPoint_anti 69 46 eg (fun x y => poly_Hull_1_ok x y _ (poly_Hull_1_eq x y)) a1 hs.1 hs.2


end Saw
end Go.SL

namespace Go.SL
namespace Saw
open Go.Proofs
set_option maxHeartbeats 4000000

def slices_Compact_SPoint_x (a1 : List Point) (r : (List Point) × (List Point)) : V := vo 0 0 2 r.2.length

def slices_Compact_SPoint_o (a1 : List Point) (r : (List Point) × (List Point)) : List (Nat × (Nat × O)) := [(0, ro 0 46 2 r.2.length (rf e_Point r.2))]

theorem slices_Compact_SPoint_f (a1 : List Point) (r : (List Point) × (List Point)) : Frozen (slices_Compact_SPoint_o a1 r) := by
  intro i k o h
  unfold slices_Compact_SPoint_o at h
  rw [look_cons] at h
  split at h
  · cases h; exact fun _ _ => rfl
  · cases h

def slices_Compact_SPoint_k3_S (l3 : List Point) (x4 : Int) (x12 : Int) (l19 : List Point) (l19n : Nat) (x20 : Int) : St :=
  ⟨[(0, vo 0 0 2 l19n), (3, vi x20), (4, vc (.sub 0 0 2 x4.toNat (l3.length - x4.toNat))), (5, vi x12)], [(0, ro 0 46 2 l19n (rf e_Point l19))]⟩

def slices_Compact_SPoint_L2_S (l3 : List Point) (x4 : Int) (l10 : List Point) (l10n : Nat) (x11 : Int) (x12 : Int) : St :=
  ⟨[(0, vo 0 0 2 l10n), (3, vi x11), (4, vc (.sub 0 0 2 x4.toNat (l3.length - x4.toNat))), (5, vi x12)], [(0, ro 0 46 2 l10n (rf e_Point l10))]⟩

def slices_Compact_SPoint_L2_T (l21 : List Point) (x22 : Int) : St :=
  ⟨[(0, vo 0 0 2 l21.length), (3, vi x22)], [(0, ro 0 46 2 l21.length (rf e_Point l21))]⟩

def slices_Compact_SPoint_L1_S (l3 : List Point) (l3n : Nat) (x4 : Int) : St :=
  ⟨[(0, vo 0 0 2 l3n), (3, vi x4)], [(0, ro 0 46 2 l3n (rf e_Point l3))]⟩

def slices_Compact_SPoint_L1_T (l27 : List Point) : St :=
  ⟨[(0, vo 0 0 2 l27.length)], [(0, ro 0 46 2 l27.length (rf e_Point l27))]⟩

set_option maxRecDepth 100000 in
theorem slices_Compact_SPoint_L2_ok (E : Env 1) (l3 : List Point) (x4 : Int) : ∀ (n : Nat) (l10 : List Point) (l10n : Nat) (x11 : Int) (x12 : Int) (res : (List Point) × Int), l10.length = l10n → slices_Compact_SPoint_L2 l3 x4 n l10 x11 x12 = some res → HL (kx E 61 1) (nd Try.f72 119380) (loopQ0 2 (fun o => slices_Compact_SPoint_L2_T o.1 o.2) res) n (slices_Compact_SPoint_L2_S l3 x4 l10 l10n x11 x12) := by
  intro n
  induction n with
  | zero =>
    intro l10 l10n x11 x12 res hl0 hm
    cases hm
  | succ n ih =>
    intro l10 l10n x11 x12 res hl0 hm
    subst hl0
    refine HL_succ ?_
    refine R_sq Try.f72 238760 238761 (by kernel_rfl) ?_
    refine R_sq Try.f72 477520 477521 (by kernel_rfl) ?_
    refine R_rn Try.f72 477520 9 [] [] 1 ⟨[(0, vo 0 0 2 l10.length), (3, vi x11), (4, vc (.sub 0 0 2 x4.toNat (l3.length - x4.toNat))), (5, vi x12), (32, vb (decide (x12 < (((l3.length - x4.toNat) : Nat) : Int))))], [(0, ro 0 46 2 l10.length (rf e_Point l10))]⟩ o0 (by kernel_rfl) (by kernel_rfl) ?_
    refine R_cn Try.f72 (.tmp 32) 955042 955043 (by kernel_rfl) (decide (x12 < (((l3.length - x4.toNat) : Nat) : Int))) (by kernel_rfl) (fun b13 => ?_) (fun b13 => ?_)
    · replace hm := bif_t b13 hm
      refine R_skip (by kernel_rfl) ?_
      refine R_join (ι := (List Point) × Nat × Int) (nd Try.f72 477522) (nd Try.f72 477523) (by kernel_rfl) (fun p => slices_Compact_SPoint_k3_S l3 x4 x12 p.1 p.2.1 p.2.2) (fun p => p.1.length = p.2.1 ∧ slices_Compact_SPoint_k3 x12 (slices_Compact_SPoint_L2 l3 x4 n) p.1 p.2.2 = some res) ?_ ?_
      · rintro ⟨l19, l19n, x20⟩ ⟨el19, hm⟩
        replace el19 : l19.length = l19n := el19
        subst el19
        show H _ (slices_Compact_SPoint_k3_S l3 x4 x12 l19 l19.length x20) (nd Try.f72 477523) _
        refine R_rn Try.f72 477523 10 [] [] 1 ⟨[(0, vo 0 0 2 l19.length), (3, vi x20), (4, vc (.sub 0 0 2 x4.toNat (l3.length - x4.toNat))), (5, vi (w64 (x12 + 1)))], [(0, ro 0 46 2 l19.length (rf e_Point l19))]⟩ o0 (by kernel_rfl) (by kernel_rfl) ?_
        exact HL_enter (slices_Compact_SPoint_L2_S l3 x4 l19 l19.length x20 (w64 (x12 + 1))) (by kernel_rfl) (by kernel_rfl) (ih l19 l19.length x20 (w64 (x12 + 1)) _ rfl hm)
      · refine R_bk Try.f72 3 955044 (by kernel_rfl) ?_
        refine R_sq Try.f72 1910088 1910089 (by kernel_rfl) ?_
        obtain ⟨g14, hm⟩ := bif_n hm
        obtain ⟨g15, hm⟩ := bif_n hm
        obtain ⟨g16, hm⟩ := bif_n hm
        refine R_dr Try.f72 1910088 11 [] [] [] [0, 0, 3, 7, 0, 0, 32, 112, 240, 511] 1 ⟨[(0, vo 0 0 2 l10.length), (3, vi x11), (4, vc (.sub 0 0 2 x4.toNat (l3.length - x4.toNat))), (5, vi x12), (44, vb (!((((l10.getD (x4.toNat + x12.toNat) default).X) == ((l10.getD (x4.toNat + ((w64 (x12 - 1)).toNat)) default).X)) && ((((l10.getD (x4.toNat + x12.toNat) default).Y) == ((l10.getD (x4.toNat + ((w64 (x12 - 1)).toNat)) default).Y)) && true))))], [(0, ro 0 46 2 l10.length (rf e_Point l10))]⟩ (o1 (And.intro (inb_of g14) (And.intro (Nat.lt_of_lt_of_le (Nat.add_lt_add_left (toNat_lt (inb_of g14)) x4.toNat) (Nat.le_of_ble_eq_true g15)) (And.intro (inb_of g16) (Nat.lt_of_lt_of_le (Nat.add_lt_add_left (toNat_lt (inb_of g16)) x4.toNat) (Nat.le_of_ble_eq_true g15)))))) (by kernel_rfl) (by kernel_rfl) ?_
        refine R_cn Try.f72 (.tmp 44) 3820178 3820179 (by kernel_rfl) (!((((l10.getD (x4.toNat + x12.toNat) default).X) == ((l10.getD (x4.toNat + ((w64 (x12 - 1)).toNat)) default).X)) && ((((l10.getD (x4.toNat + x12.toNat) default).Y) == ((l10.getD (x4.toNat + ((w64 (x12 - 1)).toNat)) default).Y)) && true))) (by kernel_rfl) (fun b17 => ?_) (fun b17 => ?_)
        · replace hm := bif_t b17 hm
          refine R_sq Try.f72 7640356 7640357 (by kernel_rfl) ?_
          obtain ⟨g18, hm⟩ := bif_n hm
          refine R_rn Try.f72 7640356 12 [(7, drw 0 0 (rf e_Point (l10.set x11.toNat (l10.getD (x4.toNat + x12.toNat) default))))] [] 1 ⟨[(0, vo 0 0 2 l10.length), (3, vi x11), (4, vc (.sub 0 0 2 x4.toNat (l3.length - x4.toNat))), (5, vi x12)], [(0, ro 0 46 2 l10.length (rf e_Point (l10.set x11.toNat (l10.getD (x4.toNat + x12.toNat) default))))]⟩ (o1 (And.intro (inb_of g14) (And.intro (Nat.lt_of_lt_of_le (Nat.add_lt_add_left (toNat_lt (inb_of g14)) x4.toNat) (Nat.le_of_ble_eq_true g15)) (And.intro (inb_of g18) (stP e_Point default (l10.getD (x4.toNat + x12.toNat) default) l10 l10.length x11.toNat 0 [ci ((l10.getD (x4.toNat + x12.toNat) default).X), ci ((l10.getD (x4.toNat + x12.toNat) default).Y)] rfl (toNat_lt (inb_of g18)) rfl))))) (by kernel_rfl) (by kernel_rfl) ?_
          refine R_rn Try.f72 7640357 13 [] [] 1 ⟨[(0, vo 0 0 2 l10.length), (3, vi (w64 (x11 + 1))), (4, vc (.sub 0 0 2 x4.toNat (l3.length - x4.toNat))), (5, vi x12)], [(0, ro 0 46 2 l10.length (rf e_Point (l10.set x11.toNat (l10.getD (x4.toNat + x12.toNat) default))))]⟩ o0 (by kernel_rfl) (by kernel_rfl) ?_
          exact J_mk ((l10.set x11.toNat (l10.getD (x4.toNat + x12.toNat) default)), l10.length, w64 (x11 + 1)) ⟨(len_set rfl), hm⟩ (by kernel_rfl) (by kernel_rfl)
        · replace hm := bif_f b17 hm
          refine R_skip (by kernel_rfl) ?_
          exact J_mk (l10, l10.length, x11) ⟨rfl, hm⟩ (by kernel_rfl) (by kernel_rfl)
    · replace hm := bif_f b13 hm
      refine R_exit 2 (by kernel_rfl) ?_
      obtain rfl := Option.some.inj hm
      exact L0_mk (by kernel_rfl) (by kernel_rfl)

set_option maxRecDepth 100000 in
theorem slices_Compact_SPoint_L1_ok (E : Env 1) (a1 : List Point) : ∀ (n : Nat) (l3 : List Point) (l3n : Nat) (x4 : Int) (res : ((List Point) × (List Point)) ⊕ (List Point)), l3.length = l3n → slices_Compact_SPoint_L1 n l3 x4 = some res → HL (kx E 61 1) (nd Try.f72 116) (loopQ 0 (fun o => slices_Compact_SPoint_L1_T o) (fun v st => RetQ Try.prog Try.f72 (slices_Compact_SPoint_x a1 v) (slices_Compact_SPoint_o a1 v) .ret st) res) n (slices_Compact_SPoint_L1_S l3 l3n x4) := by
  intro n
  induction n with
  | zero =>
    intro l3 l3n x4 res hl0 hm
    cases hm
  | succ n ih =>
    intro l3 l3n x4 res hl0 hm
    subst hl0
    refine HL_succ ?_
    refine R_sq Try.f72 232 233 (by kernel_rfl) ?_
    refine R_sq Try.f72 464 465 (by kernel_rfl) ?_
    refine R_rn Try.f72 464 4 [] [] 1 ⟨[(0, vo 0 0 2 l3.length), (3, vi x4), (13, vb (decide (x4 < ((l3.length : Nat) : Int))))], [(0, ro 0 46 2 l3.length (rf e_Point l3))]⟩ o0 (by kernel_rfl) (by kernel_rfl) ?_
    refine R_cn Try.f72 (.tmp 13) 930 931 (by kernel_rfl) (decide (x4 < ((l3.length : Nat) : Int))) (by kernel_rfl) (fun b5 => ?_) (fun b5 => ?_)
    · replace hm := bif_t b5 hm
      refine R_skip (by kernel_rfl) ?_
      refine R_sq Try.f72 466 467 (by kernel_rfl) ?_
      refine R_bk Try.f72 1 932 (by kernel_rfl) ?_
      refine R_sq Try.f72 1864 1865 (by kernel_rfl) ?_
      obtain ⟨g6, hm⟩ := bif_n hm
      obtain ⟨g7, hm⟩ := bif_n hm
      refine R_dr Try.f72 1864 6 [] [] [] [0, 0, 3, 7, 0, 0, 32, 112, 240, 511] 1 ⟨[(0, vo 0 0 2 l3.length), (3, vi x4), (25, vb ((((l3.getD x4.toNat default).X) == ((l3.getD ((w64 (x4 - 1)).toNat) default).X)) && ((((l3.getD x4.toNat default).Y) == ((l3.getD ((w64 (x4 - 1)).toNat) default).Y)) && true)))], [(0, ro 0 46 2 l3.length (rf e_Point l3))]⟩ (o1 (And.intro (inb_of g6) (And.intro (toNat_lt (inb_of g6)) (And.intro (inb_of g7) (toNat_lt (inb_of g7)))))) (by kernel_rfl) (by kernel_rfl) ?_
      refine R_cn Try.f72 (.tmp 25) 3730 3731 (by kernel_rfl) ((((l3.getD x4.toNat default).X) == ((l3.getD ((w64 (x4 - 1)).toNat) default).X)) && ((((l3.getD x4.toNat default).Y) == ((l3.getD ((w64 (x4 - 1)).toNat) default).Y)) && true)) (by kernel_rfl) (fun b8 => ?_) (fun b8 => ?_)
      · replace hm := bif_t b8 hm
        refine R_sq Try.f72 7460 7461 (by kernel_rfl) ?_
        obtain ⟨g9, hm⟩ := bif_n hm
        refine R_rn Try.f72 7460 7 [] [] 1 ⟨[(0, vo 0 0 2 l3.length), (3, vi x4), (4, vc (.sub 0 0 2 x4.toNat (l3.length - x4.toNat)))], [(0, ro 0 46 2 l3.length (rf e_Point l3))]⟩ (o1 (And.intro (slOk_of g9).1 (slOk_of g9).2.1)) (by kernel_rfl) (by kernel_rfl) ?_
        refine R_sq Try.f72 14922 14923 (by kernel_rfl) ?_
        refine R_sq Try.f72 29844 29845 (by kernel_rfl) ?_
        refine R_rn Try.f72 29844 8 [] [] 1 ⟨[(0, vo 0 0 2 l3.length), (3, vi x4), (4, vc (.sub 0 0 2 x4.toNat (l3.length - x4.toNat))), (5, vi 1)], [(0, ro 0 46 2 l3.length (rf e_Point l3))]⟩ o0 (by kernel_rfl) (by kernel_rfl) ?_
        obtain ⟨o23, h24, hm⟩ := bind_s hm
        refine R_loop0 (nd Try.f72 119380) 2 (by kernel_rfl) FUEL (fun o => slices_Compact_SPoint_L2_T o.1 o.2) o23 (HL_enter (slices_Compact_SPoint_L2_S l3 x4 l3 l3.length x4 1) (by kernel_rfl) (by kernel_rfl) (slices_Compact_SPoint_L2_ok E l3 x4 FUEL l3 l3.length x4 1 o23 rfl h24)) ?_
        refine R_sq Try.f72 29846 29847 (by kernel_rfl) ?_
        obtain ⟨g25, hm⟩ := bif_n hm
        refine R_rn Try.f72 29846 14 [(3, drw 0 0 (rf e_Point o23.1))] [.row 0 o23.2.toNat (rf e_Point (o23.1.take o23.2.toNat))] 1 ⟨[(0, vo 0 0 2 o23.1.length), (3, vi o23.2)], [(0, ro 0 46 2 o23.2.toNat (rf e_Point (o23.1.take o23.2.toNat)))]⟩ (o1 (And.intro (And.intro (And.intro (slOk_of g25).1 (slOk_of g25).2.1) (show o23.2.toNat + (o23.1.length - o23.2.toNat) ≤ o23.1.length by have := (slOk_of g25); omega)) (tkP e_Point default o23.1 o23.2.toNat o23.2.toNat (Nat.le_refl _)))) (by kernel_rfl) (by kernel_rfl) ?_
        refine R_sq Try.f72 59694 59695 (by kernel_rfl) ?_
        obtain ⟨g26, hm⟩ := bif_n hm
        refine R_rn Try.f72 59694 15 [] [] 1 ⟨[(2, vo 0 0 2 o23.2.toNat)], [(0, ro 0 46 2 o23.2.toNat (rf e_Point (o23.1.take o23.2.toNat)))]⟩ (o1 (And.intro (slOk_of g26).2.1 (slOk_of g26).2.2)) (by kernel_rfl) (by kernel_rfl) ?_
        refine H_fin [.len 0 ((o23.1.take o23.2.toNat).length)] ⟨[(2, vo 0 0 2 ((o23.1.take o23.2.toNat).length))], [(0, ro 0 46 2 ((o23.1.take o23.2.toNat).length) (rf e_Point (o23.1.take o23.2.toNat)))]⟩ (o1 (And.intro (Eq.symm (show (o23.1.take o23.2.toNat).length = o23.2.toNat from (len_take rfl (Nat.le_trans (Nat.le_add_right _ _) (show o23.2.toNat + (o23.1.length - o23.2.toNat) ≤ o23.1.length by have := (slOk_of g25); omega))))) (Eq.symm (show (o23.1.take o23.2.toNat).length = o23.2.toNat from (len_take rfl (Nat.le_trans (Nat.le_add_right _ _) (show o23.2.toNat + (o23.1.length - o23.2.toNat) ≤ o23.1.length by have := (slOk_of g25); omega))))))) (by kernel_rfl) ?_
        obtain rfl := Option.some.inj hm
        refine R_ret (by kernel_rfl) ?_
        refine L1_ret ((o23.1.take o23.2.toNat), (o23.1.take o23.2.toNat)) ?_
        exact ret_mk (by kernel_rfl) (by kernel_rfl)
      · replace hm := bif_f b8 hm
        refine R_skip (by kernel_rfl) ?_
        refine R_rn Try.f72 467 5 [] [] 1 ⟨[(0, vo 0 0 2 l3.length), (3, vi (w64 (x4 + 1)))], [(0, ro 0 46 2 l3.length (rf e_Point l3))]⟩ o0 (by kernel_rfl) (by kernel_rfl) ?_
        exact HL_enter (slices_Compact_SPoint_L1_S l3 l3.length (w64 (x4 + 1))) (by kernel_rfl) (by kernel_rfl) (ih l3 l3.length (w64 (x4 + 1)) _ rfl hm)
    · replace hm := bif_f b5 hm
      refine R_exit 0 (by kernel_rfl) ?_
      obtain rfl := Option.some.inj hm
      exact L1_mk l3 (by kernel_rfl) (by kernel_rfl)

set_option maxRecDepth 100000 in
theorem slices_Compact_SPoint_ok (a1 : List Point) (r : (List Point) × (List Point)) (hm : slices_Compact_SPoint a1 = some r) : CtX Try.prog globs 72 1 1 [.one (.own 0 0 2 a1.length)] [(0, ro 0 46 2 a1.length (rf e_Point a1))] (slices_Compact_SPoint_x a1 r) (slices_Compact_SPoint_o a1 r) := by
  unfold slices_Compact_SPoint at hm
  refine CtX_of_E (fn := Try.f72) (c := nd Try.f72 1) (nt := 61) (by kernel_rfl) (by kernel_rfl) (by kernel_rfl) (by kernel_rfl) fun E => ?_
  refine R_sq Try.f72 2 3 (by kernel_rfl) ?_
  refine R_rn Try.f72 2 0 [] [] 1 ⟨[(0, vo 0 0 2 a1.length)], [(0, ro 0 46 2 a1.length (rf e_Point a1))]⟩ o0 (by kernel_rfl) (by kernel_rfl) ?_
  refine R_sq Try.f72 6 7 (by kernel_rfl) ?_
  refine R_sq Try.f72 12 13 (by kernel_rfl) ?_
  refine R_rn Try.f72 12 1 [] [] 1 ⟨[(0, vo 0 0 2 a1.length), (8, vb (decide (((a1.length : Nat) : Int) < 2)))], [(0, ro 0 46 2 a1.length (rf e_Point a1))]⟩ o0 (by kernel_rfl) (by kernel_rfl) ?_
  refine R_cn Try.f72 (.tmp 8) 26 27 (by kernel_rfl) (decide (((a1.length : Nat) : Int) < 2)) (by kernel_rfl) (fun b2 => ?_) (fun b2 => ?_)
  · replace hm := bif_t b2 hm
    refine R_sq Try.f72 52 53 (by kernel_rfl) ?_
    refine R_rn Try.f72 52 2 [] [] 1 ⟨[(2, vo 0 0 2 a1.length)], [(0, ro 0 46 2 a1.length (rf e_Point a1))]⟩ o0 (by kernel_rfl) (by kernel_rfl) ?_
    obtain rfl := Option.some.inj hm
    refine R_ret (by kernel_rfl) ?_
    exact ret_mk (by kernel_rfl) (by kernel_rfl)
  · replace hm := bif_f b2 hm
    refine R_skip (by kernel_rfl) ?_
    refine R_sq Try.f72 14 15 (by kernel_rfl) ?_
    refine R_sq Try.f72 28 29 (by kernel_rfl) ?_
    refine R_rn Try.f72 28 3 [] [] 1 ⟨[(0, vo 0 0 2 a1.length), (3, vi 1)], [(0, ro 0 46 2 a1.length (rf e_Point a1))]⟩ o0 (by kernel_rfl) (by kernel_rfl) ?_
    obtain ⟨u30, h29, hm⟩ := bind_s hm
    refine R_loop1 (nd Try.f72 116) 0 (by kernel_rfl) FUEL (fun o => slices_Compact_SPoint_L1_T o) (fun v st => RetQ Try.prog Try.f72 (slices_Compact_SPoint_x a1 v) (slices_Compact_SPoint_o a1 v) .ret st) u30 (HL_enter (slices_Compact_SPoint_L1_S a1 a1.length 1) (by kernel_rfl) (by kernel_rfl) (slices_Compact_SPoint_L1_ok E a1 FUEL a1 a1.length 1 u30 rfl h29)) ?_ ?_
    · rintro v31 rfl st hr
      obtain rfl := Option.some.inj hm
      exact hr
    · rintro o28 rfl
      replace hm : _ = some r := hm
      refine R_sq Try.f72 30 31 (by kernel_rfl) ?_
      refine R_rn Try.f72 30 16 [] [] 1 ⟨[(2, vo 0 0 2 o28.length)], [(0, ro 0 46 2 o28.length (rf e_Point o28))]⟩ o0 (by kernel_rfl) (by kernel_rfl) ?_
      obtain rfl := Option.some.inj hm
      refine R_ret (by kernel_rfl) ?_
      exact ret_mk (by kernel_rfl) (by kernel_rfl)

end Saw
end Go.SL

namespace Go.SL
namespace Saw
open Go.Proofs
set_option maxHeartbeats 4000000

def poly_chain_x (r : (List Point)) : V := vo 0 0 2 r.length

def poly_chain_o (r : (List Point)) : List (Nat × (Nat × O)) := [(0, ro 0 46 2 r.length (rf e_Point r))]

theorem poly_chain_f (r : (List Point)) : Frozen (poly_chain_o r) := by
  intro i k o h
  unfold poly_chain_o at h
  rw [look_cons] at h
  split at h
  · cases h; exact fun _ _ => rfl
  · cases h

def poly_chain_k3_S (a1 : List Point) (x3 : Int) (l6 : List Point) (x12 : Bool) : St :=
  ⟨[(3, vo 0 0 2 l6.length), (5, vp 1 0), (6, vc (tl e_Point default a1)), (7, vi ((a1.length : Nat) : Int)), (8, vi x3), (31, vb x12)], [(0, ro 0 46 2 l6.length (rf e_Point l6)), (1, bx 46 [ci ((a1.getD x3.toNat default).X), ci ((a1.getD x3.toNat default).Y)])]⟩

def poly_chain_L2_S (a1 : List Point) (x3 : Int) (l6 : List Point) (l6n : Nat) : St :=
  ⟨[(3, vo 0 0 2 l6n), (5, vp 1 0), (6, vc (tl e_Point default a1)), (7, vi ((a1.length : Nat) : Int)), (8, vi x3)], [(0, ro 0 46 2 l6n (rf e_Point l6)), (1, bx 46 [ci ((a1.getD x3.toNat default).X), ci ((a1.getD x3.toNat default).Y)])]⟩

def poly_chain_L2_T (a1 : List Point) (x3 : Int) (l15 : List Point) : St :=
  ⟨[(3, vo 0 0 2 l15.length), (5, vp 1 0), (6, vc (tl e_Point default a1)), (7, vi ((a1.length : Nat) : Int)), (8, vi x3)], [(0, ro 0 46 2 l15.length (rf e_Point l15)), (1, bx 46 [ci ((a1.getD x3.toNat default).X), ci ((a1.getD x3.toNat default).Y)])]⟩

def poly_chain_L1_S (a1 : List Point) (l2 : List Point) (l2n : Nat) (x3 : Int) : St :=
  ⟨[(3, vo 0 0 2 l2n), (6, vc (tl e_Point default a1)), (7, vi ((a1.length : Nat) : Int)), (8, vi x3)], [(0, ro 0 46 2 l2n (rf e_Point l2))]⟩

def poly_chain_L1_T (l19 : List Point) : St :=
  ⟨[(3, vo 0 0 2 l19.length)], [(0, ro 0 46 2 l19.length (rf e_Point l19))]⟩

set_option maxRecDepth 100000 in
theorem poly_chain_L2_ok (E : Env 0) (a1 : List Point) (x3 : Int) : ∀ (n : Nat) (l6 : List Point) (l6n : Nat) (res : (List Point)), l6.length = l6n → poly_chain_L2 a1 x3 n l6 = some res → HL (kx E 47 0) (nd Try.f73 29896) (loopQ0 2 (fun o => poly_chain_L2_T a1 x3 o) res) n (poly_chain_L2_S a1 x3 l6 l6n) := by
  intro n
  induction n with
  | zero =>
    intro l6 l6n res hl0 hm
    cases hm
  | succ n ih =>
    intro l6 l6n res hl0 hm
    subst hl0
    refine HL_succ ?_
    refine R_sq Try.f73 59792 59793 (by kernel_rfl) ?_
    refine R_join (ι := Bool) (nd Try.f73 119584) (nd Try.f73 119585) (by kernel_rfl) (fun p => poly_chain_k3_S a1 x3 l6 p) (fun p => poly_chain_k3 l6 (poly_chain_L2 a1 x3 n) p = some res) ?_ ?_
    · rintro x12 hm
      show H _ (poly_chain_k3_S a1 x3 l6 x12) (nd Try.f73 119585) _
      refine R_cn Try.f73 (.tmp 31) 239170 239171 (by kernel_rfl) x12 (by kernel_rfl) (fun b13 => ?_) (fun b13 => ?_)
      · replace hm := bif_t b13 hm
        refine R_skip (by kernel_rfl) ?_
        refine R_bk Try.f73 3 119586 (by kernel_rfl) ?_
        obtain ⟨g14, hm⟩ := bif_n hm
        refine R_rn Try.f73 119586 6 [] [.row 0 ((w64 (((l6.length : Nat) : Int) - 1)).toNat) (rf e_Point (l6.take ((w64 (((l6.length : Nat) : Int) - 1)).toNat)))] 2 ⟨[(3, vo 0 0 2 ((w64 (((l6.length : Nat) : Int) - 1)).toNat)), (5, vp 1 0), (6, vc (tl e_Point default a1)), (7, vi ((a1.length : Nat) : Int)), (8, vi x3)], [(0, ro 0 46 2 ((w64 (((l6.length : Nat) : Int) - 1)).toNat) (rf e_Point (l6.take ((w64 (((l6.length : Nat) : Int) - 1)).toNat)))), (1, bx 46 [ci ((a1.getD x3.toNat default).X), ci ((a1.getD x3.toNat default).Y)])]⟩ (o1 (And.intro (And.intro (slOk_of g14).2.1 (slOk_of g14).2.2) (tkP e_Point default l6 l6.length ((w64 (((l6.length : Nat) : Int) - 1)).toNat) (show (w64 (((l6.length : Nat) : Int) - 1)).toNat ≤ l6.length by have := (slOk_of g14); omega)))) (by kernel_rfl) (by kernel_rfl) ?_
        exact HL_enter (poly_chain_L2_S a1 x3 (l6.take ((w64 (((l6.length : Nat) : Int) - 1)).toNat)) ((w64 (((l6.length : Nat) : Int) - 1)).toNat)) (by kernel_rfl) (by kernel_rfl) (ih (l6.take ((w64 (((l6.length : Nat) : Int) - 1)).toNat)) ((w64 (((l6.length : Nat) : Int) - 1)).toNat) _ (len_take rfl (show (w64 (((l6.length : Nat) : Int) - 1)).toNat ≤ l6.length by have := (slOk_of g14); omega)) hm)
      · replace hm := bif_f b13 hm
        refine R_exit 2 (by kernel_rfl) ?_
        obtain rfl := Option.some.inj hm
        exact L0_mk (by kernel_rfl) (by kernel_rfl)
    · rcases Bool.eq_false_or_eq_true (decide (((l6.length : Nat) : Int) ≥ 2)) with b7 | b7
      · replace hm := bif_t b7 hm
        obtain ⟨g8, hm⟩ := bif_n hm
        obtain ⟨g9, hm⟩ := bif_n hm
        obtain ⟨v10, h11, hm⟩ := bind_s hm
        refine R_dr Try.f73 119584 5 [] [(3, dfx true), (17, dex (cen [] [] 2 0 (poly_cross_x v10) (poly_cross_o v10) [15, 21, 27, 28] []))] [] [0, 1, 3, 7, 15, 15, 47, 111, 255, 511, 15, 15, 2063, 6159, 15375, 31759, 15, 131071, 262143, 524287] 2 ⟨[(3, vo 0 0 2 l6.length), (5, vp 1 0), (6, vc (tl e_Point default a1)), (7, vi ((a1.length : Nat) : Int)), (8, vi x3), (16, vo 0 0 2 l6.length), (17, vo 0 0 2 l6.length), (18, vi ((l6.length : Nat) : Int)), (19, vi (w64 (((l6.length : Nat) : Int) - 2))), (20, vc (.rptr 0 0 2 ((w64 (((l6.length : Nat) : Int) - 2)).toNat) 0)), (21, va [ci ((l6.getD ((w64 (((l6.length : Nat) : Int) - 2)).toNat) default).X), ci ((l6.getD ((w64 (((l6.length : Nat) : Int) - 2)).toNat) default).Y)]), (22, vo 0 0 2 l6.length), (23, vo 0 0 2 l6.length), (24, vi ((l6.length : Nat) : Int)), (25, vi (w64 (((l6.length : Nat) : Int) - 1))), (26, vc (.rptr 0 0 2 ((w64 (((l6.length : Nat) : Int) - 1)).toNat) 0)), (27, va [ci ((l6.getD ((w64 (((l6.length : Nat) : Int) - 1)).toNat) default).X), ci ((l6.getD ((w64 (((l6.length : Nat) : Int) - 1)).toNat) default).Y)]), (28, va [ci ((a1.getD x3.toNat default).X), ci ((a1.getD x3.toNat default).Y)]), (29, vi v10), (30, vb (decide (v10 ≤ 0))), (31, vb (decide (v10 ≤ 0)))], [(0, ro 0 46 2 l6.length (rf e_Point l6)), (1, bx 46 [ci ((a1.getD x3.toNat default).X), ci ((a1.getD x3.toNat default).Y)])]⟩ (o1 (And.intro b7 (And.intro (inb_of g8) (And.intro (toNat_lt (inb_of g8)) (And.intro (inb_of g9) (And.intro (toNat_lt (inb_of g9)) (callS (K := (kx E 47 0)) ⟨[(15, vb true), (21, va [ci ((l6.getD ((w64 (((l6.length : Nat) : Int) - 2)).toNat) default).X), ci ((l6.getD ((w64 (((l6.length : Nat) : Int) - 2)).toNat) default).Y)]), (27, va [ci ((l6.getD ((w64 (((l6.length : Nat) : Int) - 1)).toNat) default).X), ci ((l6.getD ((w64 (((l6.length : Nat) : Int) - 1)).toNat) default).Y)]), (28, va [ci ((a1.getD x3.toNat default).X), ci ((a1.getD x3.toNat default).Y)])], []⟩ (opAt (rg Try.f73 119584) 17) [] [] 2 o0 rfl (poly_cross_ok (l6.getD ((w64 (((l6.length : Nat) : Int) - 2)).toNat) default) (l6.getD ((w64 (((l6.length : Nat) : Int) - 1)).toNat) default) (a1.getD x3.toNat default) v10 h11) (.inl rfl) (by kernel_rfl)))))))) (by kernel_rfl) (by kernel_rfl) ?_
        exact J_mk (decide (v10 ≤ 0)) hm (by kernel_rfl) (by kernel_rfl)
      · replace hm := bif_f b7 hm
        refine R_dr Try.f73 119584 5 [] [(3, dfx false)] [] [0, 1, 3, 7, 15, 15, 47, 111, 255, 511, 15, 15, 2063, 6159, 15375, 31759, 15, 131071, 262143, 524287] 2 ⟨[(3, vo 0 0 2 l6.length), (5, vp 1 0), (6, vc (tl e_Point default a1)), (7, vi ((a1.length : Nat) : Int)), (8, vi x3), (31, vb false)], [(0, ro 0 46 2 l6.length (rf e_Point l6)), (1, bx 46 [ci ((a1.getD x3.toNat default).X), ci ((a1.getD x3.toNat default).Y)])]⟩ (o1 b7) (by kernel_rfl) (by kernel_rfl) ?_
        exact J_mk (false) hm (by kernel_rfl) (by kernel_rfl)

set_option maxRecDepth 100000 in
theorem poly_chain_L1_ok (E : Env 0) (a1 : List Point) : ∀ (n : Nat) (l2 : List Point) (l2n : Nat) (x3 : Int) (res : (List Point)), l2.length = l2n → poly_chain_L1 a1 n l2 x3 = some res → HL (kx E 47 0) (nd Try.f73 116) (loopQ0 0 (fun o => poly_chain_L1_T o) res) n (poly_chain_L1_S a1 l2 l2n x3) := by
  intro n
  induction n with
  | zero =>
    intro l2 l2n x3 res hl0 hm
    cases hm
  | succ n ih =>
    intro l2 l2n x3 res hl0 hm
    subst hl0
    refine HL_succ ?_
    refine R_sq Try.f73 232 233 (by kernel_rfl) ?_
    refine R_rn Try.f73 232 3 [] [] 1 ⟨[(3, vo 0 0 2 l2.length), (6, vc (tl e_Point default a1)), (7, vi ((a1.length : Nat) : Int)), (8, vi x3), (9, vb (decide (x3 < ((a1.length : Nat) : Int))))], [(0, ro 0 46 2 l2.length (rf e_Point l2))]⟩ o0 (by kernel_rfl) (by kernel_rfl) ?_
    refine R_sq Try.f73 466 467 (by kernel_rfl) ?_
    refine R_cn Try.f73 (.tmp 9) 932 933 (by kernel_rfl) (decide (x3 < ((a1.length : Nat) : Int))) (by kernel_rfl) (fun b4 => ?_) (fun b4 => ?_)
    · replace hm := bif_t b4 hm
      refine R_skip (by kernel_rfl) ?_
      refine R_sq Try.f73 934 935 (by kernel_rfl) ?_
      refine R_bk Try.f73 1 1868 (by kernel_rfl) ?_
      refine R_sq Try.f73 3736 3737 (by kernel_rfl) ?_
      obtain ⟨g5, hm⟩ := bif_n hm
      refine R_rn Try.f73 3736 4 [] [] 1 ⟨[(3, vo 0 0 2 l2.length), (5, vp 1 0), (6, vc (tl e_Point default a1)), (7, vi ((a1.length : Nat) : Int)), (8, vi x3)], [(0, ro 0 46 2 l2.length (rf e_Point l2)), (1, bx 46 [ci ((a1.getD x3.toNat default).X), ci ((a1.getD x3.toNat default).Y)])]⟩ (o1 (inb_of g5)) (by kernel_rfl) (by kernel_rfl) ?_
      refine R_sq Try.f73 7474 7475 (by kernel_rfl) ?_
      obtain ⟨o16, h17, hm⟩ := bind_s hm
      refine R_loop0 (nd Try.f73 29896) 2 (by kernel_rfl) FUEL (fun o => poly_chain_L2_T a1 x3 o) o16 (HL_enter (poly_chain_L2_S a1 x3 l2 l2.length) (by kernel_rfl) (by kernel_rfl) (poly_chain_L2_ok E a1 x3 FUEL l2 l2.length o16 rfl h17)) ?_
      obtain ⟨g18, hm⟩ := bif_n hm
      refine R_rn Try.f73 7475 7 [(2, drw 2 0 (rf e_Point ([(a1.getD x3.toNat default)] : List Point))), (3, drw 0 1 (rf e_Point (o16 ++ ([(a1.getD x3.toNat default)] : List Point))))] [] 2 ⟨[(3, vo 0 1 2 (o16.length + 1)), (6, vc (tl e_Point default a1)), (7, vi ((a1.length : Nat) : Int)), (8, vi x3)], [(0, ro 1 46 2 (o16.length + 1) (rf e_Point (o16 ++ ([(a1.getD x3.toNat default)] : List Point))))]⟩ (o1 (And.intro (litP e_Point default 2 (fun _ => rfl) ([(a1.getD x3.toNat default)] : List Point) 1 rfl) (apP e_Point default o16 ([(a1.getD x3.toNat default)] : List Point) o16.length 1 2 16 (1 ≤ 1) (Nat.le_refl _) rfl rfl (fun _ => rfl) (room_of g18)))) (by kernel_rfl) (by kernel_rfl) ?_
      refine R_rn Try.f73 935 8 [] [] 3 ⟨[(3, vo 0 1 2 (o16.length + 1)), (6, vc (tl e_Point default a1)), (7, vi ((a1.length : Nat) : Int)), (8, vi (w64 (x3 + 1)))], [(0, ro 1 46 2 (o16.length + 1) (rf e_Point (o16 ++ ([(a1.getD x3.toNat default)] : List Point))))]⟩ o0 (by kernel_rfl) (by kernel_rfl) ?_
      exact HL_enter (poly_chain_L1_S a1 (o16 ++ ([(a1.getD x3.toNat default)] : List Point)) (o16.length + 1) (w64 (x3 + 1))) (by kernel_rfl) (by kernel_rfl) (ih (o16 ++ ([(a1.getD x3.toNat default)] : List Point)) (o16.length + 1) (w64 (x3 + 1)) _ (len_app rfl rfl) hm)
    · replace hm := bif_f b4 hm
      refine R_exit 0 (by kernel_rfl) ?_
      obtain rfl := Option.some.inj hm
      exact L0_mk (by kernel_rfl) (by kernel_rfl)

set_option maxRecDepth 100000 in
theorem poly_chain_ok (a1 : List Point) (r : (List Point)) (hm : poly_chain a1 = some r) : CtX Try.prog globs 73 0 0 [.one (tl e_Point default a1)] [] (poly_chain_x r) (poly_chain_o r) := by
  unfold poly_chain at hm
  refine CtX_of_E (fn := Try.f73) (c := nd Try.f73 1) (nt := 47) (by kernel_rfl) (by kernel_rfl) (by kernel_rfl) (by kernel_rfl) fun E => ?_
  refine R_sq Try.f73 2 3 (by kernel_rfl) ?_
  refine R_rn Try.f73 2 0 [] [] 0 ⟨[(0, vc (tl e_Point default a1))], []⟩ o0 (by kernel_rfl) (by kernel_rfl) ?_
  refine R_sq Try.f73 6 7 (by kernel_rfl) ?_
  refine R_rn Try.f73 6 1 [] [] 0 ⟨[(0, vc (tl e_Point default a1)), (3, vc (.emp))], []⟩ o0 (by kernel_rfl) (by kernel_rfl) ?_
  refine R_sq Try.f73 14 15 (by kernel_rfl) ?_
  refine R_sq Try.f73 28 29 (by kernel_rfl) ?_
  refine R_rn Try.f73 28 2 [] [] 0 ⟨[(3, vc (.emp)), (6, vc (tl e_Point default a1)), (7, vi ((a1.length : Nat) : Int)), (8, vi 0)], []⟩ o0 (by kernel_rfl) (by kernel_rfl) ?_
  refine H_fin [.own 3 0 46 2 (rf e_Point ([] : List Point))] ⟨[(3, vo 0 0 2 0), (6, vc (tl e_Point default a1)), (7, vi ((a1.length : Nat) : Int)), (8, vi 0)], [(0, ro 0 46 2 0 (rf e_Point ([] : List Point)))]⟩ o0 (by kernel_rfl) ?_
  obtain ⟨o20, h21, hm⟩ := bind_s hm
  refine R_loop0 (nd Try.f73 116) 0 (by kernel_rfl) FUEL (fun o => poly_chain_L1_T o) o20 (HL_enter (poly_chain_L1_S a1 ([] : List Point) 0 0) (by kernel_rfl) (by kernel_rfl) (poly_chain_L1_ok E a1 FUEL ([] : List Point) 0 0 o20 rfl h21)) ?_
  refine R_sq Try.f73 30 31 (by kernel_rfl) ?_
  obtain ⟨g22, hm⟩ := bif_n hm
  refine R_rn Try.f73 30 9 [] [.row 0 ((w64 (((o20.length : Nat) : Int) - 1)).toNat) (rf e_Point (o20.take ((w64 (((o20.length : Nat) : Int) - 1)).toNat)))] 1 ⟨[(2, vo 0 0 2 ((w64 (((o20.length : Nat) : Int) - 1)).toNat))], [(0, ro 0 46 2 ((w64 (((o20.length : Nat) : Int) - 1)).toNat) (rf e_Point (o20.take ((w64 (((o20.length : Nat) : Int) - 1)).toNat))))]⟩ (o1 (And.intro (And.intro (slOk_of g22).2.1 (slOk_of g22).2.2) (tkP e_Point default o20 o20.length ((w64 (((o20.length : Nat) : Int) - 1)).toNat) (show (w64 (((o20.length : Nat) : Int) - 1)).toNat ≤ o20.length by have := (slOk_of g22); omega)))) (by kernel_rfl) (by kernel_rfl) ?_
  refine H_fin [.len 0 ((o20.take ((w64 (((o20.length : Nat) : Int) - 1)).toNat)).length)] ⟨[(2, vo 0 0 2 ((o20.take ((w64 (((o20.length : Nat) : Int) - 1)).toNat)).length))], [(0, ro 0 46 2 ((o20.take ((w64 (((o20.length : Nat) : Int) - 1)).toNat)).length) (rf e_Point (o20.take ((w64 (((o20.length : Nat) : Int) - 1)).toNat))))]⟩ (o1 (And.intro (Eq.symm (show (o20.take ((w64 (((o20.length : Nat) : Int) - 1)).toNat)).length = (w64 (((o20.length : Nat) : Int) - 1)).toNat from (len_take rfl (show (w64 (((o20.length : Nat) : Int) - 1)).toNat ≤ o20.length by have := (slOk_of g22); omega)))) (Eq.symm (show (o20.take ((w64 (((o20.length : Nat) : Int) - 1)).toNat)).length = (w64 (((o20.length : Nat) : Int) - 1)).toNat from (len_take rfl (show (w64 (((o20.length : Nat) : Int) - 1)).toNat ≤ o20.length by have := (slOk_of g22); omega)))))) (by kernel_rfl) ?_
  obtain rfl := Option.some.inj hm
  refine R_ret (by kernel_rfl) ?_
  exact ret_mk (by kernel_rfl) (by kernel_rfl)

end Saw
end Go.SL

namespace Go.SL
namespace Saw
open Go.Proofs
set_option maxHeartbeats 4000000

def slices_Reverse_SPoint_x (a1 : List Point) (r : (List Point)) : V := .undef

def slices_Reverse_SPoint_o (a1 : List Point) (r : (List Point)) : List (Nat × (Nat × O)) := [(0, ro 0 46 2 r.length (rf e_Point r))]

theorem slices_Reverse_SPoint_f (a1 : List Point) (r : (List Point)) : Frozen (slices_Reverse_SPoint_o a1 r) := by
  intro i k o h
  unfold slices_Reverse_SPoint_o at h
  rw [look_cons] at h
  split at h
  · cases h; exact fun _ _ => rfl
  · cases h

def slices_Reverse_SPoint_L1_S (l2 : List Point) (l2n : Nat) (x3 : Int) (x4 : Int) : St :=
  ⟨[(0, vo 0 0 2 l2n), (2, vi x3), (3, vi x4)], [(0, ro 0 46 2 l2n (rf e_Point l2))]⟩

def slices_Reverse_SPoint_L1_T (l8 : List Point) : St :=
  ⟨[], [(0, ro 0 46 2 l8.length (rf e_Point l8))]⟩

set_option maxRecDepth 100000 in
theorem slices_Reverse_SPoint_L1_ok (E : Env 1) : ∀ (n : Nat) (l2 : List Point) (l2n : Nat) (x3 : Int) (x4 : Int) (res : (List Point)), l2.length = l2n → slices_Reverse_SPoint_L1 n l2 x3 x4 = some res → HL (kx E 28 1) (nd Try.f74 12) (loopQ0 0 (fun o => slices_Reverse_SPoint_L1_T o) res) n (slices_Reverse_SPoint_L1_S l2 l2n x3 x4) := by
  intro n
  induction n with
  | zero =>
    intro l2 l2n x3 x4 res hl0 hm
    cases hm
  | succ n ih =>
    intro l2 l2n x3 x4 res hl0 hm
    subst hl0
    refine HL_succ ?_
    refine R_sq Try.f74 24 25 (by kernel_rfl) ?_
    refine R_sq Try.f74 48 49 (by kernel_rfl) ?_
    refine R_rn Try.f74 48 1 [] [] 1 ⟨[(0, vo 0 0 2 l2.length), (2, vi x3), (3, vi x4), (9, vb (decide (x3 < x4)))], [(0, ro 0 46 2 l2.length (rf e_Point l2))]⟩ o0 (by kernel_rfl) (by kernel_rfl) ?_
    refine R_cn Try.f74 (.tmp 9) 98 99 (by kernel_rfl) (decide (x3 < x4)) (by kernel_rfl) (fun b5 => ?_) (fun b5 => ?_)
    · replace hm := bif_t b5 hm
      refine R_skip (by kernel_rfl) ?_
      refine R_sq Try.f74 50 51 (by kernel_rfl) ?_
      refine R_bk Try.f74 1 100 (by kernel_rfl) ?_
      obtain ⟨g6, hm⟩ := bif_n hm
      obtain ⟨g7, hm⟩ := bif_n hm
      refine R_dr Try.f74 100 3 [] [(13, drw 0 0 (rf e_Point (l2.set x3.toNat (l2.getD x4.toNat default)))), (15, drw 0 0 (rf e_Point ((l2.set x3.toNat (l2.getD x4.toNat default)).set x4.toNat (l2.getD x3.toNat default))))] [] [0, 0, 0, 0, 0, 0, 48, 112, 0, 0, 768, 1792, 4083, 8179, 16383, 32767] 1 ⟨[(0, vo 0 0 2 l2.length), (2, vi x3), (3, vi x4)], [(0, ro 0 46 2 l2.length (rf e_Point ((l2.set x3.toNat (l2.getD x4.toNat default)).set x4.toNat (l2.getD x3.toNat default))))]⟩ (o1 (And.intro (inb_of g6) (And.intro (toNat_lt (inb_of g6)) (And.intro (inb_of g7) (And.intro (toNat_lt (inb_of g7)) (And.intro (inb_of g7) (And.intro (stP e_Point default (l2.getD x4.toNat default) l2 l2.length x3.toNat 0 [ci ((l2.getD x4.toNat default).X), ci ((l2.getD x4.toNat default).Y)] rfl (toNat_lt (inb_of g7)) rfl) (And.intro (inb_of g6) (stP e_Point default (l2.getD x3.toNat default) (l2.set x3.toNat (l2.getD x4.toNat default)) l2.length x4.toNat 0 [ci ((l2.getD x3.toNat default).X), ci ((l2.getD x3.toNat default).Y)] (len_set rfl) (toNat_lt (inb_of g6)) rfl))))))))) (by kernel_rfl) (by kernel_rfl) ?_
      refine R_rn Try.f74 51 2 [] [] 1 ⟨[(0, vo 0 0 2 l2.length), (2, vi (w64 (x3 + 1))), (3, vi (w64 (x4 - 1)))], [(0, ro 0 46 2 l2.length (rf e_Point ((l2.set x3.toNat (l2.getD x4.toNat default)).set x4.toNat (l2.getD x3.toNat default))))]⟩ o0 (by kernel_rfl) (by kernel_rfl) ?_
      exact HL_enter (slices_Reverse_SPoint_L1_S ((l2.set x3.toNat (l2.getD x4.toNat default)).set x4.toNat (l2.getD x3.toNat default)) l2.length (w64 (x3 + 1)) (w64 (x4 - 1))) (by kernel_rfl) (by kernel_rfl) (ih ((l2.set x3.toNat (l2.getD x4.toNat default)).set x4.toNat (l2.getD x3.toNat default)) l2.length (w64 (x3 + 1)) (w64 (x4 - 1)) _ (len_set (len_set rfl)) hm)
    · replace hm := bif_f b5 hm
      refine R_exit 0 (by kernel_rfl) ?_
      obtain rfl := Option.some.inj hm
      exact L0_mk (by kernel_rfl) (by kernel_rfl)

set_option maxRecDepth 100000 in
theorem slices_Reverse_SPoint_ok (a1 : List Point) (r : (List Point)) (hm : slices_Reverse_SPoint a1 = some r) : CtX Try.prog globs 74 1 1 [.one (.own 0 0 2 a1.length)] [(0, ro 0 46 2 a1.length (rf e_Point a1))] (slices_Reverse_SPoint_x a1 r) (slices_Reverse_SPoint_o a1 r) := by
  unfold slices_Reverse_SPoint at hm
  refine CtX_of_E (fn := Try.f74) (c := nd Try.f74 1) (nt := 28) (by kernel_rfl) (by kernel_rfl) (by kernel_rfl) (by kernel_rfl) fun E => ?_
  refine R_sq Try.f74 2 3 (by kernel_rfl) ?_
  refine R_rn Try.f74 2 0 [] [] 1 ⟨[(0, vo 0 0 2 a1.length), (2, vi 0), (3, vi (w64 (((a1.length : Nat) : Int) - 1)))], [(0, ro 0 46 2 a1.length (rf e_Point a1))]⟩ o0 (by kernel_rfl) (by kernel_rfl) ?_
  obtain ⟨o9, h10, hm⟩ := bind_s hm
  refine R_loop0 (nd Try.f74 12) 0 (by kernel_rfl) FUEL (fun o => slices_Reverse_SPoint_L1_T o) o9 (HL_enter (slices_Reverse_SPoint_L1_S a1 a1.length 0 (w64 (((a1.length : Nat) : Int) - 1))) (by kernel_rfl) (by kernel_rfl) (slices_Reverse_SPoint_L1_ok E  FUEL a1 a1.length 0 (w64 (((a1.length : Nat) : Int) - 1)) o9 rfl h10)) ?_
  obtain rfl := Option.some.inj hm
  exact ret_mk (by kernel_rfl) (by kernel_rfl)

end Saw
end Go.SL

namespace Go.SL
namespace Saw
open Go.Proofs
set_option maxHeartbeats 4000000

def poly_Hull_x (r : (List Point)) : V := vo 0 0 2 r.length

def poly_Hull_o (r : (List Point)) : List (Nat × (Nat × O)) := [(0, ro 0 46 2 r.length (rf e_Point r))]

theorem poly_Hull_f (r : (List Point)) : Frozen (poly_Hull_o r) := by
  intro i k o h
  unfold poly_Hull_o at h
  rw [look_cons] at h
  split at h
  · cases h; exact fun _ _ => rfl
  · cases h

def poly_Hull_k1_S (a1 : List Point) (x6 : Bool) : St :=
  ⟨[(0, vc (tl e_Point default a1)), (17, vb x6)], []⟩

set_option maxRecDepth 100000 in
theorem poly_Hull_ok (a1 : List Point) (r : (List Point)) (hm : poly_Hull a1 = some r) : CtX Try.prog globs 36 0 0 [.one (tl e_Point default a1)] [] (poly_Hull_x r) (poly_Hull_o r) := by
  unfold poly_Hull at hm
  refine CtX_of_E (fn := Try.f36) (c := nd Try.f36 1) (nt := 36) (by kernel_rfl) (by kernel_rfl) (by kernel_rfl) (by kernel_rfl) fun E => ?_
  refine R_sq Try.f36 2 3 (by kernel_rfl) ?_
  refine R_rn Try.f36 2 0 [] [] 0 ⟨[(0, vc (tl e_Point default a1))], []⟩ o0 (by kernel_rfl) (by kernel_rfl) ?_
  refine R_sq Try.f36 6 7 (by kernel_rfl) ?_
  refine R_join (ι := Bool) (nd Try.f36 12) (nd Try.f36 13) (by kernel_rfl) (fun p => poly_Hull_k1_S a1 p) (fun p => poly_Hull_k1 a1 p = some r) ?_ ?_
  · rintro x6 hm
    show H _ (poly_Hull_k1_S a1 x6) (nd Try.f36 13) _
    refine R_cn Try.f36 (.tmp 17) 26 27 (by kernel_rfl) x6 (by kernel_rfl) (fun b7 => ?_) (fun b7 => ?_)
    · replace hm := bif_t b7 hm
      refine R_sq Try.f36 52 53 (by kernel_rfl) ?_
      refine R_rn Try.f36 52 2 [] [] 0 ⟨[(2, vc (.emp))], []⟩ o0 (by kernel_rfl) (by kernel_rfl) ?_
      refine H_fin [.own 2 0 46 2 (rf e_Point ([] : List Point))] ⟨[(2, vo 0 0 2 0)], [(0, ro 0 46 2 0 (rf e_Point ([] : List Point)))]⟩ o0 (by kernel_rfl) ?_
      refine H_fin [.len 0 (([] : List Point).length)] ⟨[(2, vo 0 0 2 (([] : List Point).length))], [(0, ro 0 46 2 (([] : List Point).length) (rf e_Point ([] : List Point)))]⟩ (o1 (And.intro (show 0 = ([] : List Point).length from rfl) (show 0 = ([] : List Point).length from rfl))) (by kernel_rfl) ?_
      obtain rfl := Option.some.inj hm
      refine R_ret (by kernel_rfl) ?_
      exact ret_mk (by kernel_rfl) (by kernel_rfl)
    · replace hm := bif_f b7 hm
      refine R_skip (by kernel_rfl) ?_
      refine R_sq Try.f36 14 15 (by kernel_rfl) ?_
      obtain ⟨v8, h9, hm⟩ := bind_s hm
      refine R_rn Try.f36 14 3 [(1, dex (cen [] [] 0 0 (slices_Clone_SPoint_x v8) (slices_Clone_SPoint_o v8) [18] []))] [] 0 ⟨[(3, vo 0 0 2 v8.length)], [(0, ro 0 46 2 v8.length (rf e_Point v8))]⟩ (o1 (callS (K := (kx E 36 0)) ⟨[(18, vc (tl e_Point default a1))], []⟩ (opAt (rg Try.f36 14) 1) [] [] 0 o0 rfl (slices_Clone_SPoint_ok a1 v8 h9) (.inl rfl) (by kernel_rfl))) (by kernel_rfl) (by kernel_rfl) ?_
      refine R_sq Try.f36 30 31 (by kernel_rfl) ?_
      obtain ⟨v10, h11, hm⟩ := bind_s hm
      obtain ⟨g12, hm⟩ := bif_n hm
      refine R_rn Try.f36 30 4 [(1, dex (cen [(0, 0)] [0] 0 1 (slices_SortFunc_SPoint_x v8 v10) (slices_SortFunc_SPoint_o v8 v10) [20] [0]))] [.len 0 v8.length] 1 ⟨[(3, vo 0 0 2 v8.length)], [(0, ro 0 46 2 v8.length (rf e_Point v10))]⟩ (o1 (And.intro (callS (K := (kx E 36 0)) ⟨[(20, vo 0 0 2 v8.length)], [(0, ro 0 46 2 v8.length (rf e_Point v8))]⟩ (opAt (rg Try.f36 30) 1) [(0, 0)] [0] 0 o0 rfl (slices_SortFunc_SPoint_ok v8 v10 h11) (.inl rfl) (by kernel_rfl)) (And.intro (And.intro (Eq.refl v8.length) (Eq.refl v8.length)) (And.intro (of_beq g12) (Eq.refl v8.length))))) (by kernel_rfl) (by kernel_rfl) ?_
      refine R_sq Try.f36 62 63 (by kernel_rfl) ?_
      obtain ⟨v13, h14, hm⟩ := bind_s hm
      refine R_rn Try.f36 62 5 [(1, dpr [.len 0 v10.length] (dex (cen [(0, 0)] [0] 0 1 (slices_Compact_SPoint_x v10 v13) (slices_Compact_SPoint_o v10 v13) [22] [0])))] [] 1 ⟨[(3, vo 0 0 2 v13.2.length)], [(0, ro 0 46 2 v13.2.length (rf e_Point v13.2))]⟩ (o1 (And.intro (And.intro (And.intro (Eq.symm (show v10.length = v8.length from (of_beq g12))) (Eq.symm (show v10.length = v8.length from (of_beq g12)))) (Eq.symm (show v10.length = v8.length from (of_beq g12)))) (callS (K := (kx E 36 0)) ⟨[(22, vo 0 0 2 v10.length)], [(0, ro 0 46 2 v10.length (rf e_Point v10))]⟩ (opAt (rg Try.f36 62) 1) [(0, 0)] [0] 0 o0 rfl (slices_Compact_SPoint_ok v10 v13 h14) (.inl rfl) (by kernel_rfl)))) (by kernel_rfl) (by kernel_rfl) ?_
      refine R_sq Try.f36 126 127 (by kernel_rfl) ?_
      obtain ⟨v15, h16, hm⟩ := bind_s hm
      refine R_rn Try.f36 126 6 [(1, dex (cen [] [] 1 0 (poly_chain_x v15) (poly_chain_o v15) [24] [0]))] [] 1 ⟨[(3, vo 0 0 2 v13.2.length), (4, vo 1 0 2 v15.length)], [(0, ro 0 46 2 v13.2.length (rf e_Point v13.2)), (1, ro 0 46 2 v15.length (rf e_Point v15))]⟩ (o1 (callS (K := (kx E 36 0)) (b := false) ⟨[(24, vo 0 0 2 v13.2.length)], [(0, ro 0 46 2 v13.2.length (rf e_Point v13.2))]⟩ (opAt (rg Try.f36 126) 1) [] [] 1 (o1 (Nat.le_refl v13.2.length)) rfl (poly_chain_ok v13.2 v15 h16) (.inr ⟨(by kernel_rfl), poly_chain_f v15⟩) (by kernel_rfl))) (by kernel_rfl) (by kernel_rfl) ?_
      refine R_sq Try.f36 254 255 (by kernel_rfl) ?_
      obtain ⟨v17, h18, hm⟩ := bind_s hm
      obtain ⟨g19, hm⟩ := bif_n hm
      refine R_rn Try.f36 254 7 [(1, dex (cen [(0, 0)] [0] 1 1 (slices_Reverse_SPoint_x v13.2 v17) (slices_Reverse_SPoint_o v13.2 v17) [26] [0]))] [.len 0 v13.2.length] 2 ⟨[(3, vo 0 0 2 v13.2.length), (4, vo 1 0 2 v15.length)], [(0, ro 0 46 2 v13.2.length (rf e_Point v17)), (1, ro 0 46 2 v15.length (rf e_Point v15))]⟩ (o1 (And.intro (callS (K := (kx E 36 0)) ⟨[(26, vo 0 0 2 v13.2.length)], [(0, ro 0 46 2 v13.2.length (rf e_Point v13.2))]⟩ (opAt (rg Try.f36 254) 1) [(0, 0)] [0] 1 o0 rfl (slices_Reverse_SPoint_ok v13.2 v17 h18) (.inl rfl) (by kernel_rfl)) (And.intro (And.intro (Eq.refl v13.2.length) (Eq.refl v13.2.length)) (And.intro (of_beq g19) (Eq.refl v13.2.length))))) (by kernel_rfl) (by kernel_rfl) ?_
      refine R_sq Try.f36 510 511 (by kernel_rfl) ?_
      obtain ⟨v20, h21, hm⟩ := bind_s hm
      obtain ⟨g22, hm⟩ := bif_n hm
      refine R_rn Try.f36 510 8 [(2, dex (cen [] [] 2 0 (poly_chain_x v20) (poly_chain_o v20) [29] [0])), (3, drw 1 1 (rf e_Point (v15 ++ v20)))] [] 2 ⟨[(4, vo 1 1 2 (v15.length + v20.length))], [(1, ro 1 46 2 (v15.length + v20.length) (rf e_Point (v15 ++ v20)))]⟩ (o1 (And.intro (callS (K := (kx E 36 0)) (xs' := [.one (.lst v13.2.length (rf e_Point v17))]) (b := false) ⟨[(29, vo 0 0 2 v13.2.length)], [(0, ro 0 46 2 v13.2.length (rf e_Point v17))]⟩ (opAt (rg Try.f36 510) 2) [] [] 2 (o1 (Nat.le_refl v13.2.length)) (by simp only [tl, rf, show v17.length = v13.2.length from (of_beq g19)]) (poly_chain_ok v17 v20 h21) (.inr ⟨(by kernel_rfl), poly_chain_f v20⟩) (by kernel_rfl)) (apP e_Point default v15 v20 v15.length v20.length 2 16 (v20.length ≤ v20.length) (Nat.le_refl _) rfl rfl (fun _ => rfl) (room_of g22)))) (by kernel_rfl) (by kernel_rfl) ?_
      refine R_sq Try.f36 1022 1023 (by kernel_rfl) ?_
      refine R_sq Try.f36 2044 2045 (by kernel_rfl) ?_
      refine R_rn Try.f36 2044 9 [] [] 3 ⟨[(4, vo 1 1 2 (v15.length + v20.length)), (34, vb (decide ((((v15.length + v20.length) : Nat) : Int) < 3)))], [(1, ro 1 46 2 (v15.length + v20.length) (rf e_Point (v15 ++ v20)))]⟩ o0 (by kernel_rfl) (by kernel_rfl) ?_
      refine R_cn Try.f36 (.tmp 34) 4090 4091 (by kernel_rfl) (decide ((((v15.length + v20.length) : Nat) : Int) < 3)) (by kernel_rfl) (fun b23 => ?_) (fun b23 => ?_)
      · replace hm := bif_t b23 hm
        refine R_sq Try.f36 8180 8181 (by kernel_rfl) ?_
        refine R_rn Try.f36 8180 10 [] [] 3 ⟨[(2, vc (.emp))], []⟩ o0 (by kernel_rfl) (by kernel_rfl) ?_
        refine H_fin [.own 2 3 46 2 (rf e_Point ([] : List Point))] ⟨[(2, vo 3 0 2 0)], [(3, ro 0 46 2 0 (rf e_Point ([] : List Point)))]⟩ o0 (by kernel_rfl) ?_
        refine H_fin [.len 3 (([] : List Point).length)] ⟨[(2, vo 3 0 2 (([] : List Point).length))], [(3, ro 0 46 2 (([] : List Point).length) (rf e_Point ([] : List Point)))]⟩ (o1 (And.intro (show 0 = ([] : List Point).length from rfl) (show 0 = ([] : List Point).length from rfl))) (by kernel_rfl) ?_
        obtain rfl := Option.some.inj hm
        refine H_swap 3 0 (by kernel_rfl) ?_
        refine R_ret (by kernel_rfl) ?_
        exact ret_mk (by kernel_rfl) (by kernel_rfl)
      · replace hm := bif_f b23 hm
        refine R_skip (by kernel_rfl) ?_
        refine R_sq Try.f36 2046 2047 (by kernel_rfl) ?_
        refine R_rn Try.f36 2046 11 [] [] 3 ⟨[(2, vo 1 1 2 (v15.length + v20.length))], [(1, ro 1 46 2 (v15.length + v20.length) (rf e_Point (v15 ++ v20)))]⟩ o0 (by kernel_rfl) (by kernel_rfl) ?_
        refine H_fin [.len 1 ((v15 ++ v20).length)] ⟨[(2, vo 1 1 2 ((v15 ++ v20).length))], [(1, ro 1 46 2 ((v15 ++ v20).length) (rf e_Point (v15 ++ v20)))]⟩ (o1 (And.intro (Eq.symm (show (v15 ++ v20).length = (v15.length + v20.length) from (len_app rfl rfl))) (Eq.symm (show (v15 ++ v20).length = (v15.length + v20.length) from (len_app rfl rfl))))) (by kernel_rfl) ?_
        obtain rfl := Option.some.inj hm
        refine H_swap 1 0 (by kernel_rfl) ?_
        refine R_ret (by kernel_rfl) ?_
        exact ret_mk (by kernel_rfl) (by kernel_rfl)
  · rcases Bool.eq_false_or_eq_true (decide (((a1.length : Nat) : Int) < 3)) with b2 | b2
    · replace hm := bif_t b2 hm
      refine R_rn Try.f36 12 1 [(3, dfx true)] [] 0 ⟨[(0, vc (tl e_Point default a1)), (17, vb true)], []⟩ (o1 b2) (by kernel_rfl) (by kernel_rfl) ?_
      exact J_mk (true) hm (by kernel_rfl) (by kernel_rfl)
    · replace hm := bif_f b2 hm
      rcases Bool.eq_false_or_eq_true (decide (((a1.length : Nat) : Int) > 32)) with b3 | b3
      · replace hm := bif_t b3 hm
        refine R_rn Try.f36 12 1 [(3, dfx false), (8, dfx true)] [] 0 ⟨[(0, vc (tl e_Point default a1)), (17, vb true)], []⟩ (o1 (And.intro b2 b3)) (by kernel_rfl) (by kernel_rfl) ?_
        exact J_mk (true) hm (by kernel_rfl) (by kernel_rfl)
      · replace hm := bif_f b3 hm
        obtain ⟨v4, h5, hm⟩ := bind_s hm
        refine R_rn Try.f36 12 1 [(3, dfx false), (8, dfx false), (10, dex (cen [] [] 0 0 (poly_inRange_x v4) (poly_inRange_o v4) [13, 14] []))] [] 0 ⟨[(0, vc (tl e_Point default a1)), (17, vb (!v4))], []⟩ (o1 (And.intro b2 (And.intro b3 (callS (K := (kx E 36 0)) ⟨[(13, vb false), (14, vc (tl e_Point default a1))], []⟩ (opAt (rg Try.f36 12) 10) [] [] 0 o0 rfl (poly_inRange_ok a1 v4 h5) (.inl rfl) (by kernel_rfl))))) (by kernel_rfl) (by kernel_rfl) ?_
        exact J_mk (!v4) hm (by kernel_rfl) (by kernel_rfl)

end Saw
end Go.SL
