import Derived.Test.YtjobdnkaonbgnaaEBase
import Derived.Test.YtjobdnkaonbgnaaELs
import Derived.Test.YtjobdnkaonbgnaaEFa1
import Derived.Test.YtjobdnkaonbgnaaELlaw22Small
import Derived.Test.YtjobdnkaonbgnaaELlaw22awake
import Derived.Test.YtjobdnkaonbgnaaEFa8
import Derived.Test.YtjobdnkaonbgnaaEFa7
set_option linter.unusedVariables false
set_option linter.unusedSimpArgs false
namespace Go.SL
namespace Saw
open Go.Proofs
set_option maxHeartbeats 4000000
set_option maxRecDepth 100000
def ZI (r : Bool) : V := vb r
def ZK (r : Bool) : List (Nat × (Nat × O)) := []
def DV (x15 : Bool) : St :=
 ⟨[(2, vb x15)], []⟩
def DQ (a1 : Law22_Given) (v7 : Yield × Int) (v9 : (List Yield_Cut) × Int) (x27 : Int) (x28 : Int) (x41 : Int) (x48 : Bool) : St :=
 ⟨[(1, vp 0 0), (3, vp 1 0), (5, vo 2 0 9 v9.1.length), (7, vi x27), (8, vi x28), (9, vp 3 0), (11, vi x41), (150, vb x48)], [(0, bx 37 (qO a1)), (1, bx 41 (zF v7.1)), (2, ro 0 54 9 v9.1.length (rf qL v9.1)), (3, bx 52 [ci ((((v9.1.getD x28.toNat default).Box).X).A), ci ((((v9.1.getD x28.toNat default).Box).X).B), ci ((((v9.1.getD x28.toNat default).Box).Y).A), ci ((((v9.1.getD x28.toNat default).Box).Y).B), ci ((((v9.1.getD x28.toNat default).Box).Z).A), ci ((((v9.1.getD x28.toNat default).Box).Z).B)])]⟩
def XH (a1 : Law22_Given) (v7 : Yield × Int) (v9 : (List Yield_Cut) × Int) (x27 : Int) (x28 : Int) (x41 : Int) : St :=
 ⟨[(1, vp 0 0), (3, vp 1 0), (5, vo 2 0 9 v9.1.length), (7, vi x27), (8, vi x28), (9, vp 3 0), (11, vi x41)], [(0, bx 37 (qO a1)), (1, bx 41 (zF v7.1)), (2, ro 0 54 9 v9.1.length (rf qL v9.1)), (3, bx 52 [ci ((((v9.1.getD x28.toNat default).Box).X).A), ci ((((v9.1.getD x28.toNat default).Box).X).B), ci ((((v9.1.getD x28.toNat default).Box).Y).A), ci ((((v9.1.getD x28.toNat default).Box).Y).B), ci ((((v9.1.getD x28.toNat default).Box).Z).A), ci ((((v9.1.getD x28.toNat default).Box).Z).B)])]⟩
def DT (a1 : Law22_Given) (v7 : Yield × Int) (v9 : (List Yield_Cut) × Int) (x27 : Int) (x28 : Int) : St :=
 ⟨[(1, vp 0 0), (3, vp 1 0), (5, vo 2 0 9 v9.1.length), (7, vi x27), (8, vi x28), (9, vp 3 0)], [(0, bx 37 (qO a1)), (1, bx 41 (zF v7.1)), (2, ro 0 54 9 v9.1.length (rf qL v9.1)), (3, bx 52 [ci ((((v9.1.getD x28.toNat default).Box).X).A), ci ((((v9.1.getD x28.toNat default).Box).X).B), ci ((((v9.1.getD x28.toNat default).Box).Y).A), ci ((((v9.1.getD x28.toNat default).Box).Y).B), ci ((((v9.1.getD x28.toNat default).Box).Z).A), ci ((((v9.1.getD x28.toNat default).Box).Z).B)])]⟩
def DJ (a1 : Law22_Given) (v7 : Yield × Int) (v9 : (List Yield_Cut) × Int) (x27 : Int) (x28 : Int) (x39 : Bool) : St :=
 ⟨[(1, vp 0 0), (3, vp 1 0), (5, vo 2 0 9 v9.1.length), (7, vi x27), (8, vi x28), (9, vp 3 0), (124, vb x39)], [(0, bx 37 (qO a1)), (1, bx 41 (zF v7.1)), (2, ro 0 54 9 v9.1.length (rf qL v9.1)), (3, bx 52 [ci ((((v9.1.getD x28.toNat default).Box).X).A), ci ((((v9.1.getD x28.toNat default).Box).X).B), ci ((((v9.1.getD x28.toNat default).Box).Y).A), ci ((((v9.1.getD x28.toNat default).Box).Y).B), ci ((((v9.1.getD x28.toNat default).Box).Z).A), ci ((((v9.1.getD x28.toNat default).Box).Z).B)])]⟩
def XG (a1 : Law22_Given) (v7 : Yield × Int) (v9 : (List Yield_Cut) × Int) (x27 : Int) (x28 : Int) : St :=
 ⟨[(1, vp 0 0), (3, vp 1 0), (5, vo 2 0 9 v9.1.length), (7, vi x27), (8, vi x28)], [(0, bx 37 (qO a1)), (1, bx 41 (zF v7.1)), (2, ro 0 54 9 v9.1.length (rf qL v9.1))]⟩
def DK (v7 : Yield × Int) (x56 : Int) : St :=
 ⟨[(3, vp 1 0), (7, vi x56)], [(1, bx 41 (zF v7.1))]⟩
def DL (x64 : Bool) : St :=
 ⟨[(2, vb x64)], []⟩
def BA (a1 : Law22_Given) (v7 : Yield × Int) (v9 : (List Yield_Cut) × Int) (x25 : Bool) : St :=
 ⟨[(1, vp 0 0), (3, vp 1 0), (5, vo 2 0 9 v9.1.length), (53, vb x25)], [(0, bx 37 (qO a1)), (1, bx 41 (zF v7.1)), (2, ro 0 54 9 v9.1.length (rf qL v9.1))]⟩
theorem II (E : Env 0) (a1 : Law22_Given) (v7 : Yield × Int) (v9 : (List Yield_Cut) × Int) (x27 : Int) (x28 : Int) : ∀ (n : Nat) (x41 : Int) (res : Bool ⊕ Unit), zP v9 x28 n x41 = some res → HL (kx E 164 0) (nd Try.f3 4182644) (yI 2 (fun o => DT a1 v7 v9 x27 x28) (fun v st => RetQ Try.prog Try.f3 (ZI v) (ZK v) .ret st) res) n (XH a1 v7 v9 x27 x28 x41) := by
 intro n
 induction n with
 | zero =>
  intro x41 res hm
  cases hm
 | succ n ih =>
  intro x41 res hm
  refine qT ?_
  refine q_sq ?_
  refine q_sq ?_
  refine q_vu [] 5 [] [(127, vb (decide (x41 < x28)))] [] [] ?_
  refine q_cn (decide (x41 < x28)) (fun b42 => ?_) (fun b42 => ?_)
  ·replace hm := qA b42 hm
   refine q_sk ?_
   refine q_sq ?_
   refine q_bk 3 ?_
   refine q_jn (ι := Bool) (fun p => DQ a1 v7 v9 x27 x28 x41 p) (fun p => JO x41 (zP v9 x28 n) p = some res) ?_ ?_
   ·rintro x48 hm
    show H _ (DQ a1 v7 v9 x27 x28 x41 x48) _ _
    refine q_cn x48 (fun b49 => ?_) (fun b49 => ?_)
    ·replace hm := qA b49 hm
     refine q_sq ?_
     refine q_vn [] 5 ⟨[(2, vb false)], []⟩ ?_
     obtain rfl := Option.some.inj hm
     refine q_rt ?_
     refine zL false ?_
     exact q_rm
    ·replace hm := qB b49 hm
     refine q_sk ?_
     refine q_vu [] 5 [11, 150] [(11, vi (w64 (x41 + 1)))] [] [] ?_
     exact q_hl (XH a1 v7 v9 x27 x28 (w64 (x41 + 1))) (ih (w64 (x41 + 1)) _ hm)
   ·obtain ⟨g43, hm⟩ := qP hm
    obtain ⟨g44, hm⟩ := qP hm
    rcases Bool.eq_false_or_eq_true (decide (((v9.1.getD x41.toNat default).Leaf) ≥ ((v9.1.getD x28.toNat default).Leaf))) with b45 | b45
    ·replace hm := qA b45 hm
     refine q_du [qd 2 (Dir.none) (inb_of g43), qd 4 (Dir.none) (toNat_lt (inb_of g43)), qd 7 (Dir.none) (inb_of g44), qd 9 (Dir.none) (toNat_lt (inb_of g44)), qf 11 b45] [0, 0, 3, 7, 15, 0, 0, 96, 224, 480, 1023, 2047, 4095, 4095, 16383, 32767, 65535, 4095, 262143, 524287, 1048575] 5 [127] [(150, vb true)] [] [] ?_
     exact q_J (true) hm
    ·replace hm := qB b45 hm
     obtain ⟨v46, h47, hm⟩ := qC hm
     refine q_du [qd 2 (Dir.none) (inb_of g43), qd 4 (Dir.none) (toNat_lt (inb_of g43)), qd 7 (Dir.none) (inb_of g44), qd 9 (Dir.none) (toNat_lt (inb_of g44)), qf 11 b45, qd 14 (Dir.none) (inb_of g43), qd 16 (Dir.none) (toNat_lt (inb_of g43)), qk 18 [141, 146, 147] 5 ⟨[(141, vb false), (146, va [ci ((((v9.1.getD x41.toNat default).Box).X).A), ci ((((v9.1.getD x41.toNat default).Box).X).B), ci ((((v9.1.getD x41.toNat default).Box).Y).A), ci ((((v9.1.getD x41.toNat default).Box).Y).B), ci ((((v9.1.getD x41.toNat default).Box).Z).A), ci ((((v9.1.getD x41.toNat default).Box).Z).B)]), (147, va [ci ((((v9.1.getD x28.toNat default).Box).X).A), ci ((((v9.1.getD x28.toNat default).Box).X).B), ci ((((v9.1.getD x28.toNat default).Box).Y).A), ci ((((v9.1.getD x28.toNat default).Box).Y).B), ci ((((v9.1.getD x28.toNat default).Box).Z).A), ci ((((v9.1.getD x28.toNat default).Box).Z).B)])], []⟩ (qEs ((v9.1.getD x41.toNat default).Box) ((v9.1.getD x28.toNat default).Box) v46 h47)] [0, 0, 3, 7, 15, 0, 0, 96, 224, 480, 1023, 2047, 4095, 4095, 16383, 32767, 65535, 4095, 262143, 524287, 1048575] 5 [127] [(150, vb (!v46))] [] [] ?_
     exact q_J (!v46) hm
  ·replace hm := qB b42 hm
   refine q_ex 2 ?_
   obtain rfl := Option.some.inj hm
   exact yP () (by kernel_rfl) (by kernel_rfl)
theorem IF (E : Env 0) (a1 : Law22_Given) (v7 : Yield × Int) (v9 : (List Yield_Cut) × Int) : ∀ (n : Nat) (x27 : Int) (x28 : Int) (res : Bool ⊕ Int), qX a1 v9 n x27 x28 = some res → HL (kx E 164 0) (nd Try.f3 4084) (yI 0 (fun o => DK v7 o) (fun v st => RetQ Try.prog Try.f3 (ZI v) (ZK v) .ret st) res) n (XG a1 v7 v9 x27 x28) := by
 intro n
 induction n with
 | zero =>
  intro x27 x28 res hm
  cases hm
 | succ n ih =>
  intro x27 x28 res hm
  refine qT ?_
  refine q_sq ?_
  refine q_sq ?_
  refine q_vu [] 3 [] [(57, vb (decide (x28 < ((v9.1.length : Nat) : Int))))] [] [] ?_
  refine q_cn (decide (x28 < ((v9.1.length : Nat) : Int))) (fun b29 => ?_) (fun b29 => ?_)
  ·replace hm := qA b29 hm
   refine q_sk ?_
   refine q_sq ?_
   refine q_bk 1 ?_
   refine q_sq ?_
   obtain ⟨g30, hm⟩ := qP hm
   refine q_vu [qd 2 (Dir.none) (inb_of g30), qd 4 (Dir.none) (toNat_lt (inb_of g30))] 3 [57] [(9, vp 3 0)] [] [(3, bx 52 [ci ((((v9.1.getD x28.toNat default).Box).X).A), ci ((((v9.1.getD x28.toNat default).Box).X).B), ci ((((v9.1.getD x28.toNat default).Box).Y).A), ci ((((v9.1.getD x28.toNat default).Box).Y).B), ci ((((v9.1.getD x28.toNat default).Box).Z).A), ci ((((v9.1.getD x28.toNat default).Box).Z).B)])] ?_
   refine q_sq ?_
   refine q_vu [] 4 [] [(10, vp 4 0)] [] [(4, bx 28 (qK a1.Pattern.Frame))] ?_
   refine q_sq ?_
   refine q_jn (ι := Bool) (fun p => DJ a1 v7 v9 x27 x28 p) (fun p => zQ a1 v9 x27 x28 (qX a1 v9 n) p = some res) ?_ ?_
   ·rintro x39 hm
    show H _ (DJ a1 v7 v9 x27 x28 x39) _ _
    refine q_cn x39 (fun b40 => ?_) (fun b40 => ?_)
    ·replace hm := qA b40 hm
     refine q_sq ?_
     refine q_vn [] 5 ⟨[(2, vb false)], []⟩ ?_
     obtain rfl := Option.some.inj hm
     refine q_rt ?_
     refine zL false ?_
     exact q_rm
    ·replace hm := qB b40 hm
     refine q_sk ?_
     refine q_sq ?_
     refine q_sq ?_
     refine q_vu [] 5 [124] [(11, vi 0)] [] [] ?_
     obtain ⟨u52, h51, hm⟩ := qC hm
     refine zW (nd Try.f3 4182644) 2 (by kernel_rfl) FUEL (fun o => DT a1 v7 v9 x27 x28) (fun v st => RetQ Try.prog Try.f3 (ZI v) (ZK v) .ret st) u52 (q_hl (XH a1 v7 v9 x27 x28 0) (II E a1 v7 v9 x27 x28 FUEL 0 u52 h51)) ?_ ?_
     ·rintro v53 rfl st hr
      obtain rfl := Option.some.inj hm
      exact zL v53 hr
     ·rintro o50 rfl
      replace hm : _ = some res := hm
      obtain ⟨v54, h55, hm⟩ := qC hm
      refine q_vu [qc 4 [153, 154] 5 (JZ a1.Solid ((v9.1.getD x28.toNat default).Box) v54 h55)] 5 [7, 9] [(7, vi (w64 (x27 + v54)))] [3] [] ?_
      refine q_vu [] 5 [8] [(8, vi (w64 (x28 + 1)))] [] [] ?_
      exact q_hl (XG a1 v7 v9 (w64 (x27 + v54)) (w64 (x28 + 1))) (ih (w64 (x27 + v54)) (w64 (x28 + 1)) _ hm)
   ·rcases Bool.eq_false_or_eq_true (decide (((((v9.1.getD x28.toNat default).Box).X).A) < a1.Pattern.Frame.X.A)) with b31 | b31
    ·replace hm := qA b31 hm
     refine q_du [qf 7 b31] [0, 1, 3, 0, 8, 24, 63, 127, 255, 511, 1023, 255, 2303, 6399, 16383, 32767, 65535, 131071, 262143, 524287, 131071, 1179647, 3276799, 8388607, 16777215, 33554431, 67108863, 134217727, 268435455, 67108863, 603979775, 1677721599, 4294967295, 8589934591, 17179869183, 34359738367, 68719476735, 137438953471, 274877906943, 549755813887, 1099511627775, 2199023255551, 4398046511103, 8796093022207, 2199023255551, 19791209299967, 54975581388799, 140737488355327, 281474976710655, 562949953421311, 1125899906842623, 1125899906842623, 4503599627370495, 9007199254740991, 18014398509481983, 36028797018963967, 72057594037927935] 5 [10] [(124, vb true)] [4] [] ?_
     exact q_J (true) hm
    ·replace hm := qB b31 hm
     rcases Bool.eq_false_or_eq_true (decide (((((v9.1.getD x28.toNat default).Box).X).B) > a1.Pattern.Frame.X.B)) with b32 | b32
     ·replace hm := qA b32 hm
      refine q_du [qf 7 b31, qf 16 b32] [0, 1, 3, 0, 8, 24, 63, 127, 255, 511, 1023, 255, 2303, 6399, 16383, 32767, 65535, 131071, 262143, 524287, 131071, 1179647, 3276799, 8388607, 16777215, 33554431, 67108863, 134217727, 268435455, 67108863, 603979775, 1677721599, 4294967295, 8589934591, 17179869183, 34359738367, 68719476735, 137438953471, 274877906943, 549755813887, 1099511627775, 2199023255551, 4398046511103, 8796093022207, 2199023255551, 19791209299967, 54975581388799, 140737488355327, 281474976710655, 562949953421311, 1125899906842623, 1125899906842623, 4503599627370495, 9007199254740991, 18014398509481983, 36028797018963967, 72057594037927935] 5 [10] [(124, vb true)] [4] [] ?_
      exact q_J (true) hm
     ·replace hm := qB b32 hm
      rcases Bool.eq_false_or_eq_true (decide (((((v9.1.getD x28.toNat default).Box).Y).A) < a1.Pattern.Frame.Y.A)) with b33 | b33
      ·replace hm := qA b33 hm
       refine q_du [qf 7 b31, qf 16 b32, qf 25 b33] [0, 1, 3, 0, 8, 24, 63, 127, 255, 511, 1023, 255, 2303, 6399, 16383, 32767, 65535, 131071, 262143, 524287, 131071, 1179647, 3276799, 8388607, 16777215, 33554431, 67108863, 134217727, 268435455, 67108863, 603979775, 1677721599, 4294967295, 8589934591, 17179869183, 34359738367, 68719476735, 137438953471, 274877906943, 549755813887, 1099511627775, 2199023255551, 4398046511103, 8796093022207, 2199023255551, 19791209299967, 54975581388799, 140737488355327, 281474976710655, 562949953421311, 1125899906842623, 1125899906842623, 4503599627370495, 9007199254740991, 18014398509481983, 36028797018963967, 72057594037927935] 5 [10] [(124, vb true)] [4] [] ?_
       exact q_J (true) hm
      ·replace hm := qB b33 hm
       rcases Bool.eq_false_or_eq_true (decide (((((v9.1.getD x28.toNat default).Box).Y).B) > a1.Pattern.Frame.Y.B)) with b34 | b34
       ·replace hm := qA b34 hm
        refine q_du [qf 7 b31, qf 16 b32, qf 25 b33, qf 34 b34] [0, 1, 3, 0, 8, 24, 63, 127, 255, 511, 1023, 255, 2303, 6399, 16383, 32767, 65535, 131071, 262143, 524287, 131071, 1179647, 3276799, 8388607, 16777215, 33554431, 67108863, 134217727, 268435455, 67108863, 603979775, 1677721599, 4294967295, 8589934591, 17179869183, 34359738367, 68719476735, 137438953471, 274877906943, 549755813887, 1099511627775, 2199023255551, 4398046511103, 8796093022207, 2199023255551, 19791209299967, 54975581388799, 140737488355327, 281474976710655, 562949953421311, 1125899906842623, 1125899906842623, 4503599627370495, 9007199254740991, 18014398509481983, 36028797018963967, 72057594037927935] 5 [10] [(124, vb true)] [4] [] ?_
        exact q_J (true) hm
       ·replace hm := qB b34 hm
        rcases Bool.eq_false_or_eq_true (decide (((((v9.1.getD x28.toNat default).Box).Z).A) < 0)) with b35 | b35
        ·replace hm := qA b35 hm
         refine q_du [qf 7 b31, qf 16 b32, qf 25 b33, qf 34 b34, qf 40 b35] [0, 1, 3, 0, 8, 24, 63, 127, 255, 511, 1023, 255, 2303, 6399, 16383, 32767, 65535, 131071, 262143, 524287, 131071, 1179647, 3276799, 8388607, 16777215, 33554431, 67108863, 134217727, 268435455, 67108863, 603979775, 1677721599, 4294967295, 8589934591, 17179869183, 34359738367, 68719476735, 137438953471, 274877906943, 549755813887, 1099511627775, 2199023255551, 4398046511103, 8796093022207, 2199023255551, 19791209299967, 54975581388799, 140737488355327, 281474976710655, 562949953421311, 1125899906842623, 1125899906842623, 4503599627370495, 9007199254740991, 18014398509481983, 36028797018963967, 72057594037927935] 5 [10] [(124, vb true)] [4] [] ?_
         exact q_J (true) hm
        ·replace hm := qB b35 hm
         obtain ⟨v36, h37, hm⟩ := qC hm
         rcases Bool.eq_false_or_eq_true (decide (((((v9.1.getD x28.toNat default).Box).Z).B) > v36)) with b38 | b38
         ·replace hm := qA b38 hm
          refine q_du [qf 7 b31, qf 16 b32, qf 25 b33, qf 34 b34, qf 40 b35, qk 46 [108, 113] 5 ⟨[(108, vb false), (113, vc (tl qH default a1.Solid))], []⟩ (RS a1.Solid v36 h37), qf 49 b38] [0, 1, 3, 0, 8, 24, 63, 127, 255, 511, 1023, 255, 2303, 6399, 16383, 32767, 65535, 131071, 262143, 524287, 131071, 1179647, 3276799, 8388607, 16777215, 33554431, 67108863, 134217727, 268435455, 67108863, 603979775, 1677721599, 4294967295, 8589934591, 17179869183, 34359738367, 68719476735, 137438953471, 274877906943, 549755813887, 1099511627775, 2199023255551, 4398046511103, 8796093022207, 2199023255551, 19791209299967, 54975581388799, 140737488355327, 281474976710655, 562949953421311, 1125899906842623, 1125899906842623, 4503599627370495, 9007199254740991, 18014398509481983, 36028797018963967, 72057594037927935] 5 [10] [(124, vb true)] [4] [] ?_
          exact q_J (true) hm
         ·replace hm := qB b38 hm
          refine q_du [qf 7 b31, qf 16 b32, qf 25 b33, qf 34 b34, qf 40 b35, qk 46 [108, 113] 5 ⟨[(108, vb false), (113, vc (tl qH default a1.Solid))], []⟩ (RS a1.Solid v36 h37), qf 49 b38, qd 52 (Dir.none) (inb_of g30), qd 54 (Dir.none) (toNat_lt (inb_of g30))] [0, 1, 3, 0, 8, 24, 63, 127, 255, 511, 1023, 255, 2303, 6399, 16383, 32767, 65535, 131071, 262143, 524287, 131071, 1179647, 3276799, 8388607, 16777215, 33554431, 67108863, 134217727, 268435455, 67108863, 603979775, 1677721599, 4294967295, 8589934591, 17179869183, 34359738367, 68719476735, 137438953471, 274877906943, 549755813887, 1099511627775, 2199023255551, 4398046511103, 8796093022207, 2199023255551, 19791209299967, 54975581388799, 140737488355327, 281474976710655, 562949953421311, 1125899906842623, 1125899906842623, 4503599627370495, 9007199254740991, 18014398509481983, 36028797018963967, 72057594037927935] 5 [10] [(124, vb (decide (((v9.1.getD x28.toNat default).Worth) < 0)))] [4] [] ?_
          exact q_J (decide (((v9.1.getD x28.toNat default).Worth) < 0)) hm
  ·replace hm := qB b29 hm
   refine q_ex 0 ?_
   obtain rfl := Option.some.inj hm
   exact yP x27 (by kernel_rfl) (by kernel_rfl)
theorem qAg (a1 : Law22_Given) (r : Bool) (hm : KW a1 = some r) : CtX Try.prog globs 3 0 0 [.agg (qO a1)] [] (ZI r) (ZK r) := by
 unfold KW at hm
 refine q_E Try.f3 164 fun E => ?_
 refine q_sq ?_
 refine q_vn [] 0 ⟨[(1, vp 0 0)], [(0, bx 37 (qO a1))]⟩ ?_
 refine q_sq ?_
 refine q_sq ?_
 obtain ⟨v2, h3, hm⟩ := qC hm
 refine q_vu [qc 1 [12] 1 (qEm a1 v2 h3)] 1 [] [(14, vb (!v2))] [] [] ?_
 refine q_cn (!v2) (fun b4 => ?_) (fun b4 => ?_)
 ·replace hm := qA b4 hm
  refine q_sq ?_
  obtain ⟨v5, h6, hm⟩ := qC hm
  refine q_vn [qc 0 [] 1 (FE v5 h6)] 1 ⟨[(2, vb v5)], []⟩ ?_
  obtain rfl := Option.some.inj hm
  refine q_rt ?_
  exact q_rm
 ·replace hm := qB b4 hm
  refine q_sk ?_
  refine q_sq ?_
  obtain ⟨v7, h8, hm⟩ := qC hm
  refine q_vu [qc 1 [17] 1 (law22_of_ok a1 v7 h8)] 1 [14] [(3, vp 1 0), (4, vi v7.2)] [] [(1, bx 41 (zF v7.1))] ?_
  refine q_sq ?_
  obtain ⟨v9, h10, hm⟩ := qC hm
  refine q_vu [qc 1 [22] 2 (law22_boards_ok a1 v9 h10)] 2 [] [(5, vo 2 0 9 v9.1.length), (6, vi v9.2)] [] [(2, ro 0 54 9 v9.1.length (rf qL v9.1))] ?_
  refine q_sq ?_
  refine q_sq ?_
  refine q_vu [] 3 [4] [(27, vb (v7.2 != 0))] [] [] ?_
  refine q_cn (v7.2 != 0) (fun b11 => ?_) (fun b11 => ?_)
  ·replace hm := qA b11 hm
   refine q_jn (ι := Bool) (fun p => DV p) (fun p => RF p = some r) ?_ ?_
   ·rintro x15 hm
    show H _ (DV x15) _ _
    obtain rfl := Option.some.inj hm
    refine q_rt ?_
    exact q_rm
   ·rcases Bool.eq_false_or_eq_true ((v7.1.Log == 0) && ((v7.1.Boards == 0) && ((v7.1.Chips == 0) && ((v7.1.Dust == 0) && ((v7.1.Value == 0) && true))))) with b12 | b12
    ·replace hm := qA b12 hm
     obtain ⟨v13, h14, hm⟩ := qC hm
     refine q_vn [qf 3 b12, qk 4 [31] 3 ⟨[(31, vb true)], []⟩ (FE v13 h14)] 3 ⟨[(2, vb v13)], []⟩ ?_
     exact q_J (v13) hm
    ·replace hm := qB b12 hm
     refine q_vn [qf 3 b12] 3 ⟨[(2, vb false)], []⟩ ?_
     exact q_J (false) hm
  ·replace hm := qB b11 hm
   refine q_sk ?_
   refine q_sq ?_
   refine q_jn (ι := Bool) (fun p => BA a1 v7 v9 p) (fun p => jK a1 v7 v9 p = some r) ?_ ?_
   ·rintro x25 hm
    show H _ (BA a1 v7 v9 x25) _ _
    refine q_cn x25 (fun b26 => ?_) (fun b26 => ?_)
    ·replace hm := qA b26 hm
     refine q_sq ?_
     refine q_vn [] 3 ⟨[(2, vb false)], []⟩ ?_
     obtain rfl := Option.some.inj hm
     refine q_rt ?_
     exact q_rm
    ·replace hm := qB b26 hm
     refine q_sk ?_
     refine q_sq ?_
     refine q_vu [] 3 [53] [(7, vi 0)] [] [] ?_
     refine q_sq ?_
     refine q_sq ?_
     refine q_vu [] 3 [] [(8, vi 0)] [] [] ?_
     obtain ⟨u59, h58, hm⟩ := qC hm
     refine zW (nd Try.f3 4084) 0 (by kernel_rfl) FUEL (fun o => DK v7 o) (fun v st => RetQ Try.prog Try.f3 (ZI v) (ZK v) .ret st) u59 (q_hl (XG a1 v7 v9 0 0) (IF E a1 v7 v9 FUEL 0 0 u59 h58)) ?_ ?_
     ·rintro v60 rfl st hr
      obtain rfl := Option.some.inj hm
      exact hr
     ·rintro o57 rfl
      replace hm : _ = some r := hm
      refine q_jn (ι := Bool) (fun p => DL p) (fun p => RG p = some r) ?_ ?_
      ·rintro x64 hm
       show H _ (DL x64) _ _
       obtain rfl := Option.some.inj hm
       refine q_rt ?_
       exact q_rm
      ·rcases Bool.eq_false_or_eq_true (o57 == v7.1.Boards) with b61 | b61
       ·replace hm := qA b61 hm
        obtain ⟨v62, h63, hm⟩ := qC hm
        refine q_vn [qf 4 b61, qk 5 [161] 3 ⟨[(161, vb true)], []⟩ (FE v62 h63)] 3 ⟨[(2, vb v62)], []⟩ ?_
        exact q_J (v62) hm
       ·replace hm := qB b61 hm
        refine q_vn [qf 4 b61] 3 ⟨[(2, vb false)], []⟩ ?_
        exact q_J (false) hm
   ·rcases Bool.eq_false_or_eq_true (v9.2 != 0) with b16 | b16
    ·replace hm := qA b16 hm
     refine q_du [qf 2 b16] [0, 1, 3, 7, 15, 31, 63, 127, 255, 511, 255, 1279, 3327, 8191, 16383, 32767, 65535, 131071, 262143, 524287] 3 [6, 27] [(53, vb true)] [] [] ?_
     exact q_J (true) hm
    ·replace hm := qB b16 hm
     obtain ⟨v17, h18, hm⟩ := qC hm
     rcases Bool.eq_false_or_eq_true (!v17) with b19 | b19
     ·replace hm := qA b19 hm
      refine q_du [qf 2 b16, qk 4 [36, 37] 3 ⟨[(36, vb false), (37, va (zF v7.1))], []⟩ (yV v7.1 v17 h18), qf 7 b19] [0, 1, 3, 7, 15, 31, 63, 127, 255, 511, 255, 1279, 3327, 8191, 16383, 32767, 65535, 131071, 262143, 524287] 3 [6, 27] [(53, vb true)] [] [] ?_
      exact q_J (true) hm
     ·replace hm := qB b19 hm
      obtain ⟨v20, h21, hm⟩ := qC hm
      rcases Bool.eq_false_or_eq_true (v7.1.Log != v20) with b22 | b22
      ·replace hm := qA b22 hm
       refine q_du [qf 2 b16, qk 4 [36, 37] 3 ⟨[(36, vb false), (37, va (zF v7.1))], []⟩ (yV v7.1 v17 h18), qf 7 b19, qk 12 [41, 45] 3 ⟨[(41, vb false), (45, vc (tl qH default a1.Solid))], []⟩ (BV a1.Solid v20 h21), qf 15 b22] [0, 1, 3, 7, 15, 31, 63, 127, 255, 511, 255, 1279, 3327, 8191, 16383, 32767, 65535, 131071, 262143, 524287] 3 [6, 27] [(53, vb true)] [] [] ?_
       exact q_J (true) hm
      ·replace hm := qB b22 hm
       obtain ⟨v23, h24, hm⟩ := qC hm
       refine q_du [qf 2 b16, qk 4 [36, 37] 3 ⟨[(36, vb false), (37, va (zF v7.1))], []⟩ (yV v7.1 v17 h18), qf 7 b19, qk 12 [41, 45] 3 ⟨[(41, vb false), (45, vc (tl qH default a1.Solid))], []⟩ (BV a1.Solid v20 h21), qf 15 b22, qk 17 [49, 50] 3 ⟨[(49, vb false), (50, va (zF v7.1))], []⟩ (VK v7.1 v23 h24)] [0, 1, 3, 7, 15, 31, 63, 127, 255, 511, 255, 1279, 3327, 8191, 16383, 32767, 65535, 131071, 262143, 524287] 3 [6, 27] [(53, vb (decide (v23 > 1000)))] [] [] ?_
       exact q_J (decide (v23 > 1000)) hm
end Saw
end Go.SL
