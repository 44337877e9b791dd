/- Steps of Go functions that the law SpecialKinds uses, told as plain Lean functions, each with the proof that its call comes to what it tells; words on memory; plain facts. No condition beyond those that each text names. -/
import Derived.Test.YtlgapmhjaaajfaaProg
import Derived.WalkMore
import Derived.Below
import Derived.Deep.Draws
import Derived.Deep.AppendLies
import Derived.Maps.AppendAt
import Derived.OwnWalk
import Derived.Laws.BytesArg
import Derived.Laws.MakeOwn
import Derived.Laws.OwnMore
import Derived.Deep.OwnRows
import Derived.Tactics
import Derived.Lib.ConvBytes
import Derived.Laws.Slices
import Derived.WalkKit
import Derived.KernelRfl
import Derived.RowKit3
import Derived.Deep.LoopGhost
import Derived.Deep.QuietTactic
import Derived.BigQuiet
import Derived.WideLaws
import Derived.Deep.DeepCutAuto
import Derived.Deep.CutBlock
import Derived.Deep.RegionHeld3
import Derived.Laws.Rows
import Derived.Lib.AppendStr
import Derived.ArgAppend
import Derived.Laws.IdiomCopy
import Derived.OrdersHeld
import Derived.Laws.BitsLemmas
import Derived.RowKit
import Derived.Laws.StructEq
import Derived.Test.YtlgapmhjaaajfaaSSpecialKinds0
import Derived.Test.YtlgapmhjaaajfaaSSpecialKinds1
import Derived.Test.YtlgapmhjaaajfaaSSpecialKinds2
import Derived.Test.YtlgapmhjaaajfaaSSpecialKinds3
import Derived.Test.YtlgapmhjaaajfaaSSpecialKinds4
import Derived.Test.YtlgapmhjaaajfaaSSpecialKinds5
section
namespace Go.Proofs.Ytlgapmhjaaajfaa.PA
open Go.RowKit Go.Proofs.YtlgapmhjaaajfaaW.PrintWords Go.Proofs.YtlgapmhjaaajfaaW.PrintLast Go.Proofs.YtlgapmhjaaajfaaW.PrintMore
attribute [local go_sem] max2_int min2_int max_two min_two max_three min_three max_four min_four   -- for this text's walks alone
set_option linter.unusedVariables false
set_option linter.unusedSimpArgs false
def word_Of.f (k : Nat) (a0 : Int) (a1_0 : Bool) (l1_1 : List Int) (a1_2 : Int) : Option (Int × Int) := (word_open.f k a0 ([] : List Int)).bind fun bt828 => (if bt828.2.2.2 = 0 then ((dyad_May.f a1_0 l1_1 a1_2).bind fun t833 => (if t833 = true then ((nat_Num.f k l1_1).bind fun bt834 => ((bits_Len64.f k bt834.1).bind fun t836 => (if bt834.2 = true then (if t836 > (wrap64 (bt828.1 + 1)) then (none) else (if bt834.1 = 0 then (none) else ((word_shape_low.f bt828.1 bt828.2.1 bt828.2.2.1).bind fun t837 => (if a1_2 < t837 then (none) else (if (wrap64 (a1_2 + t836)) > (wrap64 ((wrap64 (Int.tdiv bt828.2.1 2)) + 1)) then (none) else ((word_shape_low.f bt828.1 bt828.2.1 bt828.2.2.1).bind fun t838 => (if 0 ≤ (wrap64 (a1_2 - (mx (wrap64 ((wrap64 ((wrap64 (a1_2 + t836)) - bt828.1)) - 1)) t838))) then ((word_shape_low.f bt828.1 bt828.2.1 bt828.2.2.1).bind fun t839 => (if 0 ≤ bt828.1 then ((word_shape_join.f bt828.1 bt828.2.1 bt828.2.2.1 a1_0 0 (IntKind.u64.wrap ((shl .u64 (IntKind.u64.wrap (wrap64 ((mx (wrap64 ((wrap64 ((wrap64 (a1_2 + t836)) - bt828.1)) - 1)) t838) - t839))) bt828.1) + (shl .u64 bt834.1 (wrap64 (a1_2 - (mx (wrap64 ((wrap64 ((wrap64 (a1_2 + t836)) - bt828.1)) - 1)) t838))))))).bind fun t840 => (some (t840, 0))) else (none))) else (none)))))))) else (none)))) else (none))) else (none))
theorem word_Of.mono : ∀ a0 a1 a2 a3 k, LeO (word_Of.f k a0 a1 a2 a3) (word_Of.f (k + 1) a0 a1 a2 a3) := by
 intro a0 a1 a2 a3 k
 unfold word_Of.f
 repeat' first
   | (with_reducible exact bits_Len64.mono _ _)
   | (with_reducible exact nat_Num.mono _ _)
   | (with_reducible exact word_open.mono _ _ _)
   | (with_reducible exact LeO.refl _)
   | (with_reducible exact LeO.none _)
   | (with_reducible refine LeO.ite ?_ ?_)
   | (with_reducible refine LeO.bind ?_ (fun _ => ?_))
   | exact bits_Len64.mono _ _
   | exact nat_Num.mono _ _
   | exact word_open.mono _ _ _
   | exact LeO.none _
   | refine LeO.ite ?_ ?_
   | refine LeO.bind ?_ (fun _ => ?_)
def word_Of.T9 : Bool × List (List Nat × List Nat) := (true, [([], []), ([0], [0]), ([1], [1]), ([2], [2]), ([2], [2]), ([4, 2], [2, 4]), ([5, 2], [2, 5]), ([3, 6, 2], [2, 3, 6]), ([2, 7], [2, 7]), ([8, 2], [8]), ([9], [9]), ([10, 9], [9, 10]), ([11, 9, 9], [9, 11]), ([12], [12]), ([13, 12], [12, 13]), ([12], [12]), ([15, 12, 12], [12, 15]), ([14, 16, 12], [12, 14, 16]), ([17, 16, 12], [12, 17]), ([18], [18]), ([18], [18]), ([20, 18], [18, 20]), ([21, 18], [18, 21]), ([22, 18], [18, 22]), ([19, 23, 18], [18, 19, 23]), ([18, 24, 12], [12, 18, 24]), ([12, 25, 9], [9, 12, 25]), ([9, 26], [9, 26])])
def word_Of.B9 : List Nat := [0, 1, 3, 7, 7, 23, 55, 127, 255, 511, 1023, 2047, 4095, 8191, 16383, 8191, 40959, 131071, 262143, 524287, 524287, 1572863, 3670015, 7864319, 16777215, 33554431, 67108863, 134217727]
theorem word_Of.tab9 : rtab .any (opsOf Try.f28 9) = word_Of.T9 := by kernel_rfl
theorem word_Of.bits9 : waitsOk word_Of.T9.2 word_Of.B9 = true := by kernel_rfl
def word_Of.T13 : Bool × List (List Nat × List Nat) := (true, [([], []), ([], []), ([1], [1]), ([0, 2], [0, 2]), ([3], [3]), ([], []), ([5], [5]), ([4, 6], [4, 6]), ([7, 6, 0, 1, 2, 3, 4, 5, 6, 7], [7])])
def word_Of.B13 : List Nat := [0, 0, 2, 7, 15, 0, 32, 127, 255]
theorem word_Of.tab13 : rtab .any (opsOf Try.f28 13) = word_Of.T13 := by kernel_rfl
theorem word_Of.bits13 : waitsOk word_Of.T13.2 word_Of.B13 = true := by kernel_rfl
def word_Of.T15 : Bool × List (List Nat × List Nat) := (true, [([], []), ([], []), ([1], [1]), ([], []), ([], []), ([4], [4]), ([3, 5], [3, 5]), ([6], [6]), ([], []), ([8], [8]), ([7, 9], [7, 9]), ([], []), ([10, 11], [10, 11]), ([2, 12], [2, 12]), ([0, 13, 5], [0, 13]), ([14, 14, 0, 1, 2, 3, 4, 5, 6, 7, 8, 9, 10, 11, 12, 13, 14], [14]), ([15, 0, 1, 2, 3, 4, 5, 6, 7, 8, 9, 10, 11, 12, 13, 14, 15], [])])
def word_Of.B15 : List Nat := [0, 0, 2, 0, 0, 16, 56, 120, 0, 256, 1016, 0, 4088, 8190, 16383, 32767, 65535]
theorem word_Of.tab15 : rtab .any (opsOf Try.f28 15) = word_Of.T15 := by kernel_rfl
theorem word_Of.bits15 : waitsOk word_Of.T15.2 word_Of.B15 = true := by kernel_rfl
set_option maxHeartbeats 2000000 in
set_option maxRecDepth 100000 in
theorem word_Of.calls (k : Nat) (a0 : Int) (a1_0 : Bool) (A1_1 : Option Addr) (c1_1 : Nat) (l1_1 : List Int) (a1_2 : Int) (r1 : Int) (r2 : Int) (w : World) (hr1_1 : Kd.C (Kd.int .u32) w A1_1 l1_1.length l1_1) (hc1_1 : l1_1.length ≤ c1_1) (h : word_Of.f k a0 a1_0 l1_1 a1_2 = some (r1, r2)) :
  Calls Try.prog 28 #[.int .u8 a0, .agg #[.bool a1_0, .slice A1_1 l1_1.length c1_1, .int .i64 a1_2]] w fun e w' => e = .returned (.tuple #[.int .u64 r1, .int .i64 r2]) ∧ Below w.heap.size w w' := by
 have hu69 := Try.underlying69
 have hu82 := Try.underlying82
 have hu93 := Try.underlying93
 have HR1_1 := A0_ hr1_1
 have HC1_1 := A0_ hc1_1
 clear hr1_1 hc1_1
 have HB := A0_ (Below.refl w.heap.size w)
 have H : ((word_open.f k a0 ([] : List Int)).bind fun bt828 => (if bt828.2.2.2 = 0 then ((dyad_May.f a1_0 l1_1 a1_2).bind fun t833 => (if t833 = true then ((nat_Num.f k l1_1).bind fun bt834 => ((bits_Len64.f k bt834.1).bind fun t836 => (if bt834.2 = true then (if t836 > (wrap64 (bt828.1 + 1)) then (none) else (if bt834.1 = 0 then (none) else ((word_shape_low.f bt828.1 bt828.2.1 bt828.2.2.1).bind fun t837 => (if a1_2 < t837 then (none) else (if (wrap64 (a1_2 + t836)) > (wrap64 ((wrap64 (Int.tdiv bt828.2.1 2)) + 1)) then (none) else ((word_shape_low.f bt828.1 bt828.2.1 bt828.2.2.1).bind fun t838 => (if 0 ≤ (wrap64 (a1_2 - (mx (wrap64 ((wrap64 ((wrap64 (a1_2 + t836)) - bt828.1)) - 1)) t838))) then ((word_shape_low.f bt828.1 bt828.2.1 bt828.2.2.1).bind fun t839 => (if 0 ≤ bt828.1 then ((word_shape_join.f bt828.1 bt828.2.1 bt828.2.2.1 a1_0 0 (IntKind.u64.wrap ((shl .u64 (IntKind.u64.wrap (wrap64 ((mx (wrap64 ((wrap64 ((wrap64 (a1_2 + t836)) - bt828.1)) - 1)) t838) - t839))) bt828.1) + (shl .u64 bt834.1 (wrap64 (a1_2 - (mx (wrap64 ((wrap64 ((wrap64 (a1_2 + t836)) - bt828.1)) - 1)) t838))))))).bind fun t840 => (some (t840, 0))) else (none))) else (none)))))))) else (none)))) else (none))) else (none))) = some (r1, r2) := h
 clear h
 replace H := Option.bind_eq_some_iff.mp H
 obtain ⟨⟨t828, t829, t830, t831⟩, A30, H⟩ := H
 replace H : (if t831 = 0 then ((dyad_May.f a1_0 l1_1 a1_2).bind fun t833 => (if t833 = true then ((nat_Num.f k l1_1).bind fun bt834 => ((bits_Len64.f k bt834.1).bind fun t836 => (if bt834.2 = true then (if t836 > (wrap64 (t828 + 1)) then (none) else (if bt834.1 = 0 then (none) else ((word_shape_low.f t828 t829 t830).bind fun t837 => (if a1_2 < t837 then (none) else (if (wrap64 (a1_2 + t836)) > (wrap64 ((wrap64 (Int.tdiv t829 2)) + 1)) then (none) else ((word_shape_low.f t828 t829 t830).bind fun t838 => (if 0 ≤ (wrap64 (a1_2 - (mx (wrap64 ((wrap64 ((wrap64 (a1_2 + t836)) - t828)) - 1)) t838))) then ((word_shape_low.f t828 t829 t830).bind fun t839 => (if 0 ≤ t828 then ((word_shape_join.f t828 t829 t830 a1_0 0 (IntKind.u64.wrap ((shl .u64 (IntKind.u64.wrap (wrap64 ((mx (wrap64 ((wrap64 ((wrap64 (a1_2 + t836)) - t828)) - 1)) t838) - t839))) t828) + (shl .u64 bt834.1 (wrap64 (a1_2 - (mx (wrap64 ((wrap64 ((wrap64 (a1_2 + t836)) - t828)) - 1)) t838))))))).bind fun t840 => (some (t840, 0))) else (none))) else (none)))))))) else (none)))) else (none))) else (none)) = some (r1, r2) := H
 have A3 := A0_ A30
 clear A30
 by_cases c4 : t831 = 0
 ·rw [if_pos c4] at H
  have c4b0 : (t831 == 0) = true := beq_iff_eq.mpr c4
  have c4b1 : (t831 != 0) = false := bne_eq_false_iff_eq.mpr c4
  clear c4
  replace H := Option.bind_eq_some_iff.mp H
  obtain ⟨t833, A50, H⟩ := H
  replace H : (if t833 = true then ((nat_Num.f k l1_1).bind fun bt834 => ((bits_Len64.f k bt834.1).bind fun t836 => (if bt834.2 = true then (if t836 > (wrap64 (t828 + 1)) then (none) else (if bt834.1 = 0 then (none) else ((word_shape_low.f t828 t829 t830).bind fun t837 => (if a1_2 < t837 then (none) else (if (wrap64 (a1_2 + t836)) > (wrap64 ((wrap64 (Int.tdiv t829 2)) + 1)) then (none) else ((word_shape_low.f t828 t829 t830).bind fun t838 => (if 0 ≤ (wrap64 (a1_2 - (mx (wrap64 ((wrap64 ((wrap64 (a1_2 + t836)) - t828)) - 1)) t838))) then ((word_shape_low.f t828 t829 t830).bind fun t839 => (if 0 ≤ t828 then ((word_shape_join.f t828 t829 t830 a1_0 0 (IntKind.u64.wrap ((shl .u64 (IntKind.u64.wrap (wrap64 ((mx (wrap64 ((wrap64 ((wrap64 (a1_2 + t836)) - t828)) - 1)) t838) - t839))) t828) + (shl .u64 bt834.1 (wrap64 (a1_2 - (mx (wrap64 ((wrap64 ((wrap64 (a1_2 + t836)) - t828)) - 1)) t838))))))).bind fun t840 => (some (t840, 0))) else (none))) else (none)))))))) else (none)))) else (none)) = some (r1, r2) := H
  have A5 := A0_ A50
  clear A50
  by_cases c6 : t833 = true
  ·subst c6
   have H1 : ((nat_Num.f k l1_1).bind fun bt834 => ((bits_Len64.f k bt834.1).bind fun t836 => (if bt834.2 = true then (if t836 > (wrap64 (t828 + 1)) then (none) else (if bt834.1 = 0 then (none) else ((word_shape_low.f t828 t829 t830).bind fun t837 => (if a1_2 < t837 then (none) else (if (wrap64 (a1_2 + t836)) > (wrap64 ((wrap64 (Int.tdiv t829 2)) + 1)) then (none) else ((word_shape_low.f t828 t829 t830).bind fun t838 => (if 0 ≤ (wrap64 (a1_2 - (mx (wrap64 ((wrap64 ((wrap64 (a1_2 + t836)) - t828)) - 1)) t838))) then ((word_shape_low.f t828 t829 t830).bind fun t839 => (if 0 ≤ t828 then ((word_shape_join.f t828 t829 t830 a1_0 0 (IntKind.u64.wrap ((shl .u64 (IntKind.u64.wrap (wrap64 ((mx (wrap64 ((wrap64 ((wrap64 (a1_2 + t836)) - t828)) - 1)) t838) - t839))) t828) + (shl .u64 bt834.1 (wrap64 (a1_2 - (mx (wrap64 ((wrap64 ((wrap64 (a1_2 + t836)) - t828)) - 1)) t838))))))).bind fun t840 => (some (t840, 0))) else (none))) else (none)))))))) else (none)))) = some (r1, r2) := by rw [if_pos rfl] at H; exact H
   clear H
   have H := H1
   clear H1
   replace H := Option.bind_eq_some_iff.mp H
   obtain ⟨⟨t834, t835⟩, A70, H⟩ := H
   replace H : ((bits_Len64.f k t834).bind fun t836 => (if t835 = true then (if t836 > (wrap64 (t828 + 1)) then (none) else (if t834 = 0 then (none) else ((word_shape_low.f t828 t829 t830).bind fun t837 => (if a1_2 < t837 then (none) else (if (wrap64 (a1_2 + t836)) > (wrap64 ((wrap64 (Int.tdiv t829 2)) + 1)) then (none) else ((word_shape_low.f t828 t829 t830).bind fun t838 => (if 0 ≤ (wrap64 (a1_2 - (mx (wrap64 ((wrap64 ((wrap64 (a1_2 + t836)) - t828)) - 1)) t838))) then ((word_shape_low.f t828 t829 t830).bind fun t839 => (if 0 ≤ t828 then ((word_shape_join.f t828 t829 t830 a1_0 0 (IntKind.u64.wrap ((shl .u64 (IntKind.u64.wrap (wrap64 ((mx (wrap64 ((wrap64 ((wrap64 (a1_2 + t836)) - t828)) - 1)) t838) - t839))) t828) + (shl .u64 t834 (wrap64 (a1_2 - (mx (wrap64 ((wrap64 ((wrap64 (a1_2 + t836)) - t828)) - 1)) t838))))))).bind fun t840 => (some (t840, 0))) else (none))) else (none)))))))) else (none))) = some (r1, r2) := H
   have A7 := A0_ A70
   clear A70
   replace H := Option.bind_eq_some_iff.mp H
   obtain ⟨t836, A80, H⟩ := H
   replace H : (if t835 = true then (if t836 > (wrap64 (t828 + 1)) then (none) else (if t834 = 0 then (none) else ((word_shape_low.f t828 t829 t830).bind fun t837 => (if a1_2 < t837 then (none) else (if (wrap64 (a1_2 + t836)) > (wrap64 ((wrap64 (Int.tdiv t829 2)) + 1)) then (none) else ((word_shape_low.f t828 t829 t830).bind fun t838 => (if 0 ≤ (wrap64 (a1_2 - (mx (wrap64 ((wrap64 ((wrap64 (a1_2 + t836)) - t828)) - 1)) t838))) then ((word_shape_low.f t828 t829 t830).bind fun t839 => (if 0 ≤ t828 then ((word_shape_join.f t828 t829 t830 a1_0 0 (IntKind.u64.wrap ((shl .u64 (IntKind.u64.wrap (wrap64 ((mx (wrap64 ((wrap64 ((wrap64 (a1_2 + t836)) - t828)) - 1)) t838) - t839))) t828) + (shl .u64 t834 (wrap64 (a1_2 - (mx (wrap64 ((wrap64 ((wrap64 (a1_2 + t836)) - t828)) - 1)) t838))))))).bind fun t840 => (some (t840, 0))) else (none))) else (none)))))))) else (none)) = some (r1, r2) := H
   have A8 := A0_ A80
   clear A80
   by_cases c9 : t835 = true
   ·subst c9
    have H1 : (if t836 > (wrap64 (t828 + 1)) then (none) else (if t834 = 0 then (none) else ((word_shape_low.f t828 t829 t830).bind fun t837 => (if a1_2 < t837 then (none) else (if (wrap64 (a1_2 + t836)) > (wrap64 ((wrap64 (Int.tdiv t829 2)) + 1)) then (none) else ((word_shape_low.f t828 t829 t830).bind fun t838 => (if 0 ≤ (wrap64 (a1_2 - (mx (wrap64 ((wrap64 ((wrap64 (a1_2 + t836)) - t828)) - 1)) t838))) then ((word_shape_low.f t828 t829 t830).bind fun t839 => (if 0 ≤ t828 then ((word_shape_join.f t828 t829 t830 a1_0 0 (IntKind.u64.wrap ((shl .u64 (IntKind.u64.wrap (wrap64 ((mx (wrap64 ((wrap64 ((wrap64 (a1_2 + t836)) - t828)) - 1)) t838) - t839))) t828) + (shl .u64 t834 (wrap64 (a1_2 - (mx (wrap64 ((wrap64 ((wrap64 (a1_2 + t836)) - t828)) - 1)) t838))))))).bind fun t840 => (some (t840, 0))) else (none))) else (none)))))))) = some (r1, r2) := by rw [if_pos rfl] at H; exact H
    clear H
    have H := H1
    clear H1
    by_cases c10 : t836 > (wrap64 (t828 + 1))
    ·rw [if_pos c10] at H
     have c10b0 : decide ((wrap64 (t828 + 1)) < t836) = true := decide_eq_true c10
     clear c10
     exact absurd H (by simp)
    ·rw [if_neg c10] at H
     have c10b0 : decide ((wrap64 (t828 + 1)) < t836) = false := decide_eq_false c10
     clear c10
     by_cases c11 : t834 = 0
     ·rw [if_pos c11] at H
      have c11b0 : (t834 == 0) = true := beq_iff_eq.mpr c11
      have c11b1 : (t834 != 0) = false := bne_eq_false_iff_eq.mpr c11
      clear c11
      exact absurd H (by simp)
     ·rw [if_neg c11] at H
      have c11b0 : (t834 == 0) = false := beq_eq_false_iff_ne.mpr c11
      have c11b1 : (t834 != 0) = true := bne_iff_ne.mpr c11
      replace H := Option.bind_eq_some_iff.mp H
      obtain ⟨t837, A120, H⟩ := H
      replace H : (if a1_2 < t837 then (none) else (if (wrap64 (a1_2 + t836)) > (wrap64 ((wrap64 (Int.tdiv t829 2)) + 1)) then (none) else ((word_shape_low.f t828 t829 t830).bind fun t838 => (if 0 ≤ (wrap64 (a1_2 - (mx (wrap64 ((wrap64 ((wrap64 (a1_2 + t836)) - t828)) - 1)) t838))) then ((word_shape_low.f t828 t829 t830).bind fun t839 => (if 0 ≤ t828 then ((word_shape_join.f t828 t829 t830 a1_0 0 (IntKind.u64.wrap ((shl .u64 (IntKind.u64.wrap (wrap64 ((mx (wrap64 ((wrap64 ((wrap64 (a1_2 + t836)) - t828)) - 1)) t838) - t839))) t828) + (shl .u64 t834 (wrap64 (a1_2 - (mx (wrap64 ((wrap64 ((wrap64 (a1_2 + t836)) - t828)) - 1)) t838))))))).bind fun t840 => (some (t840, 0))) else (none))) else (none))))) = some (r1, r2) := H
      have A12 := A0_ A120
      clear A120
      by_cases c13 : a1_2 < t837
      ·rw [if_pos c13] at H
       have c13b0 : decide (a1_2 < t837) = true := decide_eq_true c13
       clear c13
       exact absurd H (by simp)
      ·rw [if_neg c13] at H
       have c13b0 : decide (a1_2 < t837) = false := decide_eq_false c13
       clear c13
       by_cases c14 : (wrap64 (a1_2 + t836)) > (wrap64 ((wrap64 (Int.tdiv t829 2)) + 1))
       ·rw [if_pos c14] at H
        exact absurd H (by simp)
       ·rw [if_neg c14] at H
        have c14b0 : decide ((wrap64 ((wrap64 (Int.tdiv t829 2)) + 1)) < (wrap64 (a1_2 + t836))) = false := decide_eq_false c14
        clear c14
        replace H := Option.bind_eq_some_iff.mp H
        obtain ⟨t838, A150, H⟩ := H
        replace H : (if 0 ≤ (wrap64 (a1_2 - (mx (wrap64 ((wrap64 ((wrap64 (a1_2 + t836)) - t828)) - 1)) t838))) then ((word_shape_low.f t828 t829 t830).bind fun t839 => (if 0 ≤ t828 then ((word_shape_join.f t828 t829 t830 a1_0 0 (IntKind.u64.wrap ((shl .u64 (IntKind.u64.wrap (wrap64 ((mx (wrap64 ((wrap64 ((wrap64 (a1_2 + t836)) - t828)) - 1)) t838) - t839))) t828) + (shl .u64 t834 (wrap64 (a1_2 - (mx (wrap64 ((wrap64 ((wrap64 (a1_2 + t836)) - t828)) - 1)) t838))))))).bind fun t840 => (some (t840, 0))) else (none))) else (none)) = some (r1, r2) := H
        have A15 := A0_ A150
        clear A150
        obtain ⟨ji16, hji16⟩ : ∃ j_ : Int, (mx (wrap64 ((wrap64 ((wrap64 (a1_2 + t836)) - t828)) - 1)) t838) = j_ := ⟨_, rfl⟩
        replace H : (if 0 ≤ (wrap64 (a1_2 - (ji16))) then ((word_shape_low.f t828 t829 t830).bind fun t839 => (if 0 ≤ t828 then ((word_shape_join.f t828 t829 t830 a1_0 0 (IntKind.u64.wrap ((shl .u64 (IntKind.u64.wrap (wrap64 ((ji16) - t839))) t828) + (shl .u64 t834 (wrap64 (a1_2 - (ji16))))))).bind fun t840 => (some (t840, 0))) else (none))) else (none)) = some (r1, r2) := by first | (rw [hji16] at H; exact H) | (simp only [hji16] at H ⊢; exact H)
        (try rw [hji16] at A3)
        (try rw [hji16] at A5)
        (try rw [hji16] at A7)
        (try rw [hji16] at A8)
        (try rw [hji16] at A12)
        (try rw [hji16] at A15)
        have hji16_ : (if (wrap64 ((wrap64 ((wrap64 (a1_2 + t836)) - t828)) - 1)) < t838 then t838 else (wrap64 ((wrap64 ((wrap64 (a1_2 + t836)) - t828)) - 1))) = ji16 := hji16
        obtain ⟨ji17, hji17⟩ : ∃ j_ : Int, (wrap64 (a1_2 - (ji16))) = j_ := ⟨_, rfl⟩
        replace H : (if 0 ≤ (ji17) then ((word_shape_low.f t828 t829 t830).bind fun t839 => (if 0 ≤ t828 then ((word_shape_join.f t828 t829 t830 a1_0 0 (IntKind.u64.wrap ((shl .u64 (IntKind.u64.wrap (wrap64 ((ji16) - t839))) t828) + (shl .u64 t834 (ji17))))).bind fun t840 => (some (t840, 0))) else (none))) else (none)) = some (r1, r2) := by first | (rw [hji17] at H; exact H) | (simp only [hji17] at H ⊢; exact H)
        (try rw [hji17] at A3)
        (try rw [hji17] at A5)
        (try rw [hji17] at A7)
        (try rw [hji17] at A8)
        (try rw [hji17] at A12)
        (try rw [hji17] at A15)
        have hji17w : (IntKind.i64.wrap (a1_2 - (ji16))) = ji17 := (i64_w _).trans hji17
        by_cases c18 : 0 ≤ (ji17)
        ·rw [if_pos c18] at H
         have c18b0 := eq_true c18
         have c18b1 : decide (0 ≤ (ji17)) = true := decide_eq_true c18
         clear c18
         obtain ⟨ji19, hji19⟩ : ∃ j_ : Int, (shl .u64 t834 (ji17)) = j_ := ⟨_, rfl⟩
         replace H : ((word_shape_low.f t828 t829 t830).bind fun t839 => (if 0 ≤ t828 then ((word_shape_join.f t828 t829 t830 a1_0 0 (IntKind.u64.wrap ((shl .u64 (IntKind.u64.wrap (wrap64 ((ji16) - t839))) t828) + (ji19)))).bind fun t840 => (some (t840, 0))) else (none))) = some (r1, r2) := by first | (rw [hji19] at H; exact H) | (simp only [hji19] at H ⊢; exact H)
         (try rw [hji19] at A3)
         (try rw [hji19] at A5)
         (try rw [hji19] at A7)
         (try rw [hji19] at A8)
         (try rw [hji19] at A12)
         (try rw [hji19] at A15)
         have hji19_ : (IntKind.u64.wrap (t834 * 2 ^ min (ji17).toNat 64)) = ji19 := hji19
         have hji19z : (ji17) ≤ 64 → (IntKind.u64.wrap (t834 * 2 ^ (ji17).toNat)) = ji19 := shl_small hji19
         replace H := Option.bind_eq_some_iff.mp H
         obtain ⟨t839, A200, H⟩ := H
         replace H : (if 0 ≤ t828 then ((word_shape_join.f t828 t829 t830 a1_0 0 (IntKind.u64.wrap ((shl .u64 (IntKind.u64.wrap (wrap64 ((ji16) - t839))) t828) + (ji19)))).bind fun t840 => (some (t840, 0))) else (none)) = some (r1, r2) := H
         have A20 := A0_ A200
         clear A200
         by_cases c21 : 0 ≤ t828
         ·rw [if_pos c21] at H
          have c21b0 := eq_true c21
          have c21b1 : decide (0 ≤ t828) = true := decide_eq_true c21
          clear c21
          obtain ⟨ji22, hji22⟩ : ∃ j_ : Int, (shl .u64 (IntKind.u64.wrap (wrap64 ((ji16) - t839))) t828) = j_ := ⟨_, rfl⟩
          replace H : ((word_shape_join.f t828 t829 t830 a1_0 0 (IntKind.u64.wrap ((ji22) + (ji19)))).bind fun t840 => (some (t840, 0))) = some (r1, r2) := by first | (rw [hji22] at H; exact H) | (simp only [hji22] at H ⊢; exact H)
          (try rw [hji22] at A3)
          (try rw [hji22] at A5)
          (try rw [hji22] at A7)
          (try rw [hji22] at A8)
          (try rw [hji22] at A12)
          (try rw [hji22] at A15)
          (try rw [hji22] at A20)
          have hji22_ : (IntKind.u64.wrap ((IntKind.u64.wrap (wrap64 ((ji16) - t839))) * 2 ^ min t828.toNat 64)) = ji22 := hji22
          have hji22z : t828 ≤ 64 → (IntKind.u64.wrap ((IntKind.u64.wrap (wrap64 ((ji16) - t839))) * 2 ^ t828.toNat)) = ji22 := shl_small hji22
          replace H := Option.bind_eq_some_iff.mp H
          obtain ⟨t840, A230, H⟩ := H
          replace H : (some (t840, 0)) = some (r1, r2) := H
          have A23 := A0_ A230
          clear A230
          simp only [Option.some.injEq, Prod.mk.injEq] at H
          obtain ⟨rfl, rfl⟩ := H
          go_enter Try.func28, Try.ntmps28
          try go_wp2_with (first | ((with_reducible refine gate_dst (N := 3) rfl ?_); refine box_event ?hg (N := 3) ?hd (cs := #[.bool a1_0, .slice A1_1 l1_1.length c1_1, .int .i64 a1_2]) (t := 69) ?hr ?_; (case hd => rfl); (case hg => rfl); (case hr => first | (go_simp; done) | (go_simp; rfl)); intro gb827 hg w24 hbox hb; have n0_ := A0_ (below_step (qm_ HB.out) hb); have n1_ := A0_ (hbox); have n2_ := A0_ ((by rw [hg]; exact (below_size (qm_ HB.out)) : w.heap.size ≤ gb827)); have n3_ := A0_ ((by rw [hg]; exact (below_size (qm_ HB.out)) : w.heap.size ≤ gb827)); clear HB; have HB := n0_; have BK827 := n1_; have GW827 := n2_; have GE827 := n3_; clear n0_ n1_ n2_ n3_; clear hb hbox hg) | ((with_reducible refine gate_callee (f := 53) rfl ?_); refine goesL_ (some 15) rfl rfl Try.func53 (by kernel_rfl) rfl #[.int .u8 a0, .slice none 0 0] rfl (by (try simp only [List.map_toArray, List.map_cons, List.map_nil]); first | done | rfl | (simp only [List.length_drop, List.length_take]; rfl)) ?_; (refine (word_open.calls k a0 _ _ ([] : List Int) t828 t829 t830 t831 _ ?side1 ?side2 A3.out).mono ?_); (case side1 => exact Kd.C_nil _ _); (case side2 => exact Nat.le_refl _); rintro e w25 ⟨rfl, hb⟩; refine ⟨_, rfl, ?_⟩; have n0_ := A0_ (blk_below (bm_ BK827.out) hb); have n1_ := A0_ (below_step (by repeat (first | (with_reducible first | exact qm_ HB.out | apply qA_ | apply qN_ | apply qD_ | refine below_set ?_ GE827.out) | exact HB.out)) hb); clear BK827; clear HB; have BK827 := n0_; have HB := n1_; clear n0_ n1_; (try clear hb); (try clear hb2); (try clear hk); (try clear hi)) | ((with_reducible refine gate_dst (N := 6) rfl ?_); refine box_event ?hg (N := 6) ?hd (cs := #[.int .i64 0, .int .i64 0, .int .u64 0]) (t := 82) ?hr ?_; (case hd => rfl); (case hg => rfl); (case hr => first | (go_simp; done) | (go_simp; rfl)); intro gb832 hg w26 hbox hb; have n0_ := A0_ (blk_below (bm_ BK827.out) hb); have n1_ := A0_ (below_step (by repeat (first | (with_reducible first | exact qm_ HB.out | apply qA_ | apply qN_ | apply qD_ | refine below_set ?_ GE827.out) | exact HB.out)) hb); have n2_ := A0_ (hbox); have n3_ := A0_ ((by rw [hg]; exact (below_size (by repeat (first | (with_reducible first | exact qm_ HB.out | apply qA_ | apply qN_ | apply qD_ | refine below_set ?_ GE827.out) | exact HB.out))) : w.heap.size ≤ gb832)); have n4_ := A0_ ((by rw [hg]; exact (below_size (by repeat (first | (with_reducible first | exact qm_ HB.out | apply qA_ | apply qN_ | apply qD_ | refine below_set ?_ GE827.out) | exact HB.out))) : w.heap.size ≤ gb832)); have n5_ := A0_ ((by rw [hg]; exact Nat.ne_of_lt (blk_lt (bm_ BK827.out)) : gb827 ≠ gb832)); have n6_ := A0_ ((by rw [hg]; exact Nat.ne_of_gt (blk_lt (bm_ BK827.out)) : gb832 ≠ gb827)); clear BK827; clear HB; have BK827 := n0_; have HB := n1_; have BK832 := n2_; have GW832 := n3_; have GE832 := n4_; have NB827_832 := n5_; have NB832_827 := n6_; clear n0_ n1_ n2_ n3_ n4_ n5_ n6_; clear hb hbox hg; have hnb27 := NB832_827.out; have hnc27 := NB827_832.out; have hcz28 := bc3_ BK832.out; have hfz28 := bf3_ BK832.out; have hcz29 := bc3_ BK827.out; have hfz29 := bf3_ BK827.out) | ((with_reducible refine gate_callee (f := 54) rfl ?_); refine goesL_ (some 22) rfl rfl Try.func54 (by kernel_rfl) rfl #[.agg #[.bool a1_0, .slice A1_1 l1_1.length c1_1, .int .i64 a1_2]] rfl (by (try simp only [List.map_toArray, List.map_cons, List.map_nil]); first | done | rfl | (simp only [List.length_drop, List.length_take]; rfl)) ?_; (with_reducible refine (dyad_May.calls a1_0 _ _ l1_1 a1_2 true _ ?side1 ?side2 A5.out).mono ?_); (case side1 => exact Kd.C_below HR1_1.out (by repeat (first | (with_reducible first | exact qm_ HB.out | apply qA_ | apply qN_ | apply qD_ | refine below_set ?_ GE827.out | refine below_set ?_ GE832.out) | exact HB.out))); (case side2 => exact HC1_1.out); rintro e w30 ⟨rfl, hb⟩; refine ⟨_, rfl, ?_⟩; have n0_ := A0_ (blk_below (g := gb827) (o := .cells #[.bool a1_0, .slice A1_1 l1_1.length c1_1, .int .i64 a1_2] 69 (0, 0)) (by (with_reducible repeat first | apply bN_ | apply bD_ | apply bA_); refine blk_far ?_ NB827_832.out _; (with_reducible repeat first | apply bN_ | apply bD_ | apply bA_); refine blk_far ?_ NB827_832.out _; (with_reducible repeat first | apply bN_ | apply bD_ | apply bA_); refine blk_far ?_ NB827_832.out _; (with_reducible repeat first | apply bN_ | apply bD_ | apply bA_); exact BK827.out) hb); have n1_ := A0_ (blk_below (g := gb832) (o := .cells #[.int .i64 t828, .int .i64 t829, .int .u64 t830] 82 (0, 0)) (by (with_reducible repeat first | apply bN_ | apply bD_ | apply bA_); refine blk_put (cs := #[.int .i64 t828, .int .i64 t829, .int .u64 0]) ?_ 2 _ rfl; (with_reducible repeat first | apply bN_ | apply bD_ | apply bA_); refine blk_put (cs := #[.int .i64 t828, .int .i64 0, .int .u64 0]) ?_ 1 _ rfl; (with_reducible repeat first | apply bN_ | apply bD_ | apply bA_); refine blk_put (cs := #[.int .i64 0, .int .i64 0, .int .u64 0]) ?_ 0 _ rfl; (with_reducible repeat first | apply bN_ | apply bD_ | apply bA_); exact BK832.out) hb); have n2_ := A0_ (below_step (by repeat (first | (with_reducible first | exact qm_ HB.out | apply qA_ | apply qN_ | apply qD_ | refine below_set ?_ GE827.out | refine below_set ?_ GE832.out) | exact HB.out)) hb); clear BK827; clear BK832; clear HB; have BK827 := n0_; have BK832 := n1_; have HB := n2_; clear n0_ n1_ n2_; (try clear hb); (try clear hb2); (try clear hk); (try clear hi); have hcz31 := bc3_ BK827.out; have hfz31 := bf3_ BK827.out) | ((with_reducible refine gate_callee (f := 55) rfl ?_); refine goesL_ (some 27) rfl rfl Try.func55 (by kernel_rfl) rfl #[.slice A1_1 l1_1.length c1_1] rfl (by (try simp only [List.map_toArray, List.map_cons, List.map_nil]); first | done | rfl | (simp only [List.length_drop, List.length_take]; rfl)) ?_; (with_reducible refine (nat_Num.calls k _ _ l1_1 t834 true _ ?side1 ?side2 A7.out).mono ?_); (case side1 => repeat (first | exact (Kd.C_below HR1_1.out HB.out) | (with_reducible refine Kd.C_alloc ?_ _) | (with_reducible refine Kd.C_drewN ?_ _) | (with_reducible refine Kd.C_drew ?_))); (case side2 => exact HC1_1.out); rintro e w' ⟨rfl, ⟨nd, rfl⟩⟩; refine ⟨_, rfl, ?_⟩) | ((with_reducible refine gate_callee (f := 56) rfl ?_); refine goesL_ (some 31) rfl rfl Try.func56 (by kernel_rfl) rfl #[.int .u64 t834] rfl (by (try simp only [List.map_toArray, List.map_cons, List.map_nil]); first | done | rfl | (simp only [List.length_drop, List.length_take]; rfl)) ?_; (with_reducible refine (bits_Len64.calls k t834 t836 _ A8.out).mono ?_); rintro e w' ⟨rfl, ⟨nd, rfl⟩⟩; refine ⟨_, rfl, ?_⟩))
          (try (rw [drewN_self w30]; generalize hq_ : World.drewN w30 _ = w30; have n0_ : Aside0 (w30.heap[gb827]? = some (.cells #[.bool a1_0, .slice A1_1 l1_1.length c1_1, .int .i64 a1_2] 69 (0, 0))) := ⟨by rw [← hq_]; exact (bm_ BK827.out)⟩; have n1_ : Aside0 (w30.heap[gb832]? = some (.cells #[.int .i64 t828, .int .i64 t829, .int .u64 t830] 82 (0, 0))) := ⟨by rw [← hq_]; exact (bm_ BK832.out)⟩; have n2_ : Aside0 (Below w.heap.size w w30) := ⟨by rw [← hq_]; exact (by repeat (first | (with_reducible first | exact qm_ HB.out | apply qA_ | apply qN_ | apply qD_ | refine below_set ?_ GE827.out | refine below_set ?_ GE832.out) | exact HB.out))⟩; clear BK827 BK832 HB hq_; have BK827 := n0_; have BK832 := n1_; have HB := n2_; clear n0_ n1_ n2_))
          have n0_ := A0_ (blk_drew BK827.out)
          have n1_ := A0_ (blk_drew BK832.out)
          have n2_ := A0_ (below_drew1 HB.out)
          clear BK827
          clear BK832
          clear HB
          have BK827 := n0_
          have BK832 := n1_
          have HB := n2_
          clear n0_ n1_ n2_
          refine start_ (n := 28) (S := fun w' => w'.cell? ⟨gb832, 0, none⟩ = some (.int .i64 t828) ∧ w'.cell? ⟨gb832, 1, none⟩ = some (.int .i64 t829) ∧ w'.cell? ⟨gb832, 2, none⟩ = some (.int .u64 t830) ∧ w'.cell? ⟨gb827, 0, none⟩ = some (.bool a1_0) ∧ w'.cell? ⟨gb827, 1, none⟩ = some (.slice A1_1 l1_1.length c1_1) ∧ w'.cell? ⟨gb827, 2, none⟩ = some (.int .i64 a1_2)) (ds := []) #[false, false, false, false, false, false, false, false, false, false, false, false, false, false, false, false, false, false, false, false, false, false, false, false, false, false, false, false] (by kernel_rfl) rfl rfl ⟨(blk_cell BK832.out 0).trans rfl, (blk_cell BK832.out 1).trans rfl, (blk_cell BK832.out 2).trans rfl, (blk_cell BK827.out 0).trans rfl, (blk_cell BK827.out 1).trans rfl, (blk_cell BK827.out 2).trans rfl⟩ (fun hHeld => ?_); refine with_tabW word_Of.tab9 word_Of.bits9 (fun HT_ HW_ => ?_)
          generalize w30.drew = w32 at BK827 BK832 HB hHeld ⊢
          refine pure_ (i := 0) (N := some 36) (v := ?_) (a' := ?_) #[true, false, false, false, false, false, false, false, false, false, false, false, false, false, false, false, false, false, false, false, false, false, false, false, false, false, false, false] rfl rfl (any_of HT_.out (by kernel_rfl)) (fun _ _ _ h => h) (Or.inl ⟨by rfl, ?_⟩) ?_ ?_
          rotate_left
          ·intro w'
           go_simp
           with_reducible rfl
          rotate_left
          ·simp only [Act.put, List.setIfInBounds_toArray, List.set_cons_zero, List.set_cons_succ, i64_w, i32_w]
           rfl
          refine pure_ (i := 1) (N := some 37) (v := ?_) (a' := ?_) #[true, true, false, false, false, false, false, false, false, false, false, false, false, false, false, false, false, false, false, false, false, false, false, false, false, false, false, false] rfl rfl (any_of HT_.out (by kernel_rfl)) (fun _ _ _ h => h) (Or.inl ⟨by rfl, ?_⟩) ?_ ?_
          rotate_left
          ·intro w'
           go_simp
           with_reducible rfl
          rotate_left
          ·simp only [Act.put, List.setIfInBounds_toArray, List.set_cons_zero, List.set_cons_succ, i64_w, i32_w]
           rfl
          refine pure_ (i := 2) (N := some 38) (v := ?_) (a' := ?_) #[true, true, true, false, false, false, false, false, false, false, false, false, false, false, false, false, false, false, false, false, false, false, false, false, false, false, false, false] rfl rfl (any_of HT_.out (by kernel_rfl)) (fun _ _ _ h => h) (Or.inl ⟨by rfl, ?_⟩) ?_ ?_
          rotate_left
          ·intro w'
           go_simp
           with_reducible rfl
          rotate_left
          ·simp only [Act.put, List.setIfInBounds_toArray, List.set_cons_zero, List.set_cons_succ, i64_w, i32_w]
           rfl
          refine pure_ (i := 3) (N := some 39) (v := ?_) (a' := ?_) #[true, true, true, true, false, false, false, false, false, false, false, false, false, false, false, false, false, false, false, false, false, false, false, false, false, false, false, false] rfl rfl (any_of HT_.out (by kernel_rfl)) (fun _ _ _ h => h) (Or.inl ⟨by rfl, ?_⟩) ?_ ?_
          rotate_left
          ·intro w'
           go_simp
           with_reducible rfl
          rotate_left
          ·simp only [Act.put, List.setIfInBounds_toArray, List.set_cons_zero, List.set_cons_succ, i64_w, i32_w]
           rfl
          refine pure_ (i := 4) (N := some 40) (v := ?_) (a' := ?_) #[true, true, true, true, true, false, false, false, false, false, false, false, false, false, false, false, false, false, false, false, false, false, false, false, false, false, false, false] rfl rfl (any_of HT_.out (by kernel_rfl)) (fun _ _ _ h => h) (Or.inl ⟨by rfl, ?_⟩) ?_ ?_
          rotate_left
          ·intro w'
           go_simp
           with_reducible rfl
          rotate_left
          ·simp only [Act.put, List.setIfInBounds_toArray, List.set_cons_zero, List.set_cons_succ, i64_w, i32_w]
           rfl
          refine take_ (i := 5) (N := some 41) (v := ?_) (a' := ?_) #[true, true, true, true, true, true, false, false, false, false, false, false, false, false, false, false, false, false, false, false, false, false, false, false, false, false, false, false] rfl rfl (take_ofW HT_.out HW_.out (by kernel_rfl)) (fun _ _ _ h => h) (Or.inl ⟨by rfl, ?_⟩) hHeld ?_ ?_
          rotate_left
          ·rintro w' ⟨s0, s1, s2, s3, s4, s5⟩
           go_simp
           with_reducible rfl
          rotate_left
          ·simp only [Act.put, List.setIfInBounds_toArray, List.set_cons_zero, List.set_cons_succ, i64_w, i32_w]
           rfl
          refine pure_ (i := 6) (N := some 42) (v := ?_) (a' := ?_) #[true, true, true, true, true, true, true, false, false, false, false, false, false, false, false, false, false, false, false, false, false, false, false, false, false, false, false, false] rfl rfl (any_of HT_.out (by kernel_rfl)) (fun _ _ _ h => h) (Or.inl ⟨by rfl, ?_⟩) ?_ ?_
          rotate_left
          ·intro w'
           go_simp
           with_reducible rfl
          rotate_left
          ·simp only [Act.put, List.setIfInBounds_toArray, List.set_cons_zero, List.set_cons_succ, i64_w, i32_w]
           rfl
          refine pure_ (i := 7) (N := some 43) (v := ?_) (a' := ?_) #[true, true, true, true, true, true, true, true, false, false, false, false, false, false, false, false, false, false, false, false, false, false, false, false, false, false, false, false] rfl rfl (any_of HT_.out (by kernel_rfl)) (fun _ _ _ h => h) (Or.inl ⟨by rfl, ?_⟩) ?_ ?_
          rotate_left
          ·intro w'
           go_simp
           with_reducible rfl
          rotate_left
          ·simp only [Act.put, List.setIfInBounds_toArray, List.set_cons_zero, List.set_cons_succ, i64_w, i32_w]
           rfl
          refine pure_ (i := 8) (N := some 44) (v := ?_) (a' := ?_) #[true, true, true, true, true, true, true, true, true, false, false, false, false, false, false, false, false, false, false, false, false, false, false, false, false, false, false, false] rfl rfl (any_of HT_.out (by kernel_rfl)) (fun _ _ _ h => h) (Or.inl ⟨by rfl, ?_⟩) ?_ ?_
          rotate_left
          ·intro w'
           go_simp
           with_reducible rfl
          rotate_left
          ·simp only [Act.put, List.setIfInBounds_toArray, List.set_cons_zero, List.set_cons_succ, i64_w, i32_w]
           rfl
          refine pure_ (i := 9) (N := some 45) (v := ?_) (a' := ?_) #[true, true, true, true, true, true, true, true, true, true, false, false, false, false, false, false, false, false, false, false, false, false, false, false, false, false, false, false] rfl rfl (any_of HT_.out (by kernel_rfl)) (fun _ _ _ h => h) (Or.inl ⟨by rfl, ?_⟩) ?_ ?_
          rotate_left
          ·intro w'
           go_simp
           with_reducible rfl
          rotate_left
          ·simp only [Act.put, List.setIfInBounds_toArray, List.set_cons_zero, List.set_cons_succ, i64_w, i32_w]
           rfl
          refine pure_ (i := 10) (N := some 46) (v := ?_) (a' := ?_) #[true, true, true, true, true, true, true, true, true, true, true, false, false, false, false, false, false, false, false, false, false, false, false, false, false, false, false, false] rfl rfl (any_of HT_.out (by kernel_rfl)) (fun _ _ _ h => h) (Or.inl ⟨by rfl, ?_⟩) ?_ ?_
          rotate_left
          ·intro w'
           go_simp
           with_reducible rfl
          rotate_left
          ·simp only [Act.put, List.setIfInBounds_toArray, List.set_cons_zero, List.set_cons_succ, i64_w, i32_w]
           rfl
          refine pure_ (i := 11) (N := some 47) (v := ?_) (a' := ?_) #[true, true, true, true, true, true, true, true, true, true, true, true, false, false, false, false, false, false, false, false, false, false, false, false, false, false, false, false] rfl rfl (any_of HT_.out (by kernel_rfl)) (fun _ _ _ h => h) (Or.inl ⟨by rfl, ?_⟩) ?_ ?_
          rotate_left
          ·intro w'
           go_simp
           with_reducible rfl
          rotate_left
          ·simp only [Act.put, List.setIfInBounds_toArray, List.set_cons_zero, List.set_cons_succ, i64_w, i32_w]
           rfl
          refine pure_ (i := 12) (N := some 48) (v := ?_) (a' := ?_) #[true, true, true, true, true, true, true, true, true, true, true, true, true, false, false, false, false, false, false, false, false, false, false, false, false, false, false, false] rfl rfl (any_of HT_.out (by kernel_rfl)) (fun _ _ _ h => h) (Or.inl ⟨by rfl, ?_⟩) ?_ ?_
          rotate_left
          ·intro w'
           go_simp
           with_reducible rfl
          rotate_left
          ·simp only [Act.put, List.setIfInBounds_toArray, List.set_cons_zero, List.set_cons_succ, i64_w, i32_w]
           rfl
          refine pure_ (i := 13) (N := some 49) (v := ?_) (a' := ?_) #[true, true, true, true, true, true, true, true, true, true, true, true, true, true, false, false, false, false, false, false, false, false, false, false, false, false, false, false] rfl rfl (any_of HT_.out (by kernel_rfl)) (fun _ _ _ h => h) (Or.inl ⟨by rfl, ?_⟩) ?_ ?_
          rotate_left
          ·intro w'
           go_simp
           with_reducible rfl
          rotate_left
          ·simp only [Act.put, List.setIfInBounds_toArray, List.set_cons_zero, List.set_cons_succ, i64_w, i32_w]
           rfl
          refine take_ (i := 14) (N := some 50) (v := ?_) (a' := ?_) #[true, true, true, true, true, true, true, true, true, true, true, true, true, true, true, false, false, false, false, false, false, false, false, false, false, false, false, false] rfl rfl (take_ofW HT_.out HW_.out (by kernel_rfl)) (fun _ _ _ h => h) (Or.inl ⟨by rfl, ?_⟩) hHeld ?_ ?_
          rotate_left
          ·rintro w' ⟨s0, s1, s2, s3, s4, s5⟩
           go_simp
           with_reducible rfl
          rotate_left
          ·simp only [Act.put, List.setIfInBounds_toArray, List.set_cons_zero, List.set_cons_succ, i64_w, i32_w]
           rfl
          refine take_ (i := 15) (N := some 51) (v := ?_) (a' := ?_) #[true, true, true, true, true, true, true, true, true, true, true, true, true, true, true, true, false, false, false, false, false, false, false, false, false, false, false, false] rfl rfl (take_ofW HT_.out HW_.out (by kernel_rfl)) (fun _ _ _ h => h) (Or.inl ⟨by rfl, ?_⟩) hHeld ?_ ?_
          rotate_left
          ·rintro w' ⟨s0, s1, s2, s3, s4, s5⟩
           go_simp
           with_reducible rfl
          rotate_left
          ·simp only [Act.put, List.setIfInBounds_toArray, List.set_cons_zero, List.set_cons_succ, i64_w, i32_w]
           rfl
          refine one_ (i := 16) (N := some 52) #[true, true, true, true, true, true, true, true, true, true, true, true, true, true, true, true, true, false, false, false, false, false, false, false, false, false, false, false] rfl rfl (one_of HT_.out (by kernel_rfl)) (by decide) (fun K hK => ?_)
          refine goes_ Try.func57 (by kernel_rfl) rfl #[.agg #[.int .i64 t828, .int .i64 t829, .int .u64 t830]] (by rfl) rfl rfl (by (try simp only [List.map_toArray, List.map_cons, List.map_nil]); first | done | rfl | (simp only [List.length_drop, List.length_take]; rfl)) ?_
          with_reducible refine (word_shape_low.calls t828 t829 t830 t837 _ A12.out).mono ?_
          rintro e w33 ⟨rfl, hb⟩
          refine ⟨_, rfl, ?_⟩
          have n0_ := A0_ (blk_below (bm_ BK827.out) hb)
          have n1_ := A0_ (blk_below (bm_ BK832.out) hb)
          have n2_ := A0_ (below_step (by repeat (first | (with_reducible first | exact qm_ HB.out | apply qA_ | apply qN_ | apply qD_ | refine below_set ?_ GE827.out | refine below_set ?_ GE832.out) | exact HB.out)) hb)
          clear BK827
          clear BK832
          clear HB
          have BK827 := n0_
          have BK832 := n1_
          have HB := n2_
          clear n0_ n1_ n2_
          (try clear hb)
          (try clear hb2)
          (try clear hk)
          (try clear hi)
          refine hK.out _ _ ⟨(blk_cell BK832.out 0).trans rfl, (blk_cell BK832.out 1).trans rfl, (blk_cell BK832.out 2).trans rfl, (blk_cell BK827.out 0).trans rfl, (blk_cell BK827.out 1).trans rfl, (blk_cell BK827.out 2).trans rfl⟩ (fun hHeld => ?_)
          clear hK K
          refine norm_ (a' := ?_) ?_ ?_
          rotate_left
          ·show Act.put _ (some 52) _ = _
           simp only [Act.put, List.setIfInBounds_toArray, List.set_cons_zero, List.set_cons_succ, i64_w, i32_w]
           rfl
          refine pure_ (i := 17) (N := some 53) (v := ?_) (a' := ?_) #[true, true, true, true, true, true, true, true, true, true, true, true, true, true, true, true, true, true, false, false, false, false, false, false, false, false, false, false] rfl rfl (any_of HT_.out (by kernel_rfl)) (fun _ _ _ h => h) (Or.inl ⟨by rfl, ?_⟩) ?_ ?_
          rotate_left
          ·intro w'
           go_simp
           with_reducible rfl
          rotate_left
          ·simp only [Act.put, List.setIfInBounds_toArray, List.set_cons_zero, List.set_cons_succ, i64_w, i32_w]
           rfl
          refine pure_ (i := 18) (N := some 54) (v := ?_) (a' := ?_) #[true, true, true, true, true, true, true, true, true, true, true, true, true, true, true, true, true, true, true, false, false, false, false, false, false, false, false, false] rfl rfl (any_of HT_.out (by kernel_rfl)) (fun _ _ _ h => h) (Or.inl ⟨by rfl, ?_⟩) ?_ ?_
          rotate_left
          ·intro w'
           go_simp
           with_reducible rfl
          rotate_left
          ·simp only [Act.put, List.setIfInBounds_toArray, List.set_cons_zero, List.set_cons_succ, i64_w, i32_w]
           rfl
          refine pure_ (i := 19) (N := some 55) (v := ?_) (a' := ?_) #[true, true, true, true, true, true, true, true, true, true, true, true, true, true, true, true, true, true, true, true, false, false, false, false, false, false, false, false] rfl rfl (any_of HT_.out (by kernel_rfl)) (fun _ _ _ h => h) (Or.inl ⟨by rfl, ?_⟩) ?_ ?_
          rotate_left
          ·intro w'
           go_simp
           with_reducible rfl
          rotate_left
          ·simp only [Act.put, List.setIfInBounds_toArray, List.set_cons_zero, List.set_cons_succ, i64_w, i32_w]
           rfl
          refine pure_ (i := 20) (N := some 56) (v := ?_) (a' := ?_) #[true, true, true, true, true, true, true, true, true, true, true, true, true, true, true, true, true, true, true, true, true, false, false, false, false, false, false, false] rfl rfl (any_of HT_.out (by kernel_rfl)) (fun _ _ _ h => h) (Or.inl ⟨by rfl, ?_⟩) ?_ ?_
          rotate_left
          ·intro w'
           go_simp
           with_reducible rfl
          rotate_left
          ·simp only [Act.put, List.setIfInBounds_toArray, List.set_cons_zero, List.set_cons_succ, i64_w, i32_w]
           rfl
          refine take_ (i := 21) (N := some 57) (v := ?_) (a' := ?_) #[true, true, true, true, true, true, true, true, true, true, true, true, true, true, true, true, true, true, true, true, true, true, false, false, false, false, false, false] rfl rfl (take_ofW HT_.out HW_.out (by kernel_rfl)) (fun _ _ _ h => h) (Or.inl ⟨by rfl, ?_⟩) hHeld ?_ ?_
          rotate_left
          ·rintro w' ⟨s0, s1, s2, s3, s4, s5⟩
           go_simp
           with_reducible rfl
          rotate_left
          ·simp only [Act.put, List.setIfInBounds_toArray, List.set_cons_zero, List.set_cons_succ, i64_w, i32_w]
           rfl
          refine pure_ (i := 22) (N := some 58) (v := ?_) (a' := ?_) #[true, true, true, true, true, true, true, true, true, true, true, true, true, true, true, true, true, true, true, true, true, true, true, false, false, false, false, false] rfl rfl (any_of HT_.out (by kernel_rfl)) (fun _ _ _ h => h) (Or.inl ⟨by rfl, ?_⟩) ?_ ?_
          rotate_left
          ·intro w'
           go_simp
           with_reducible rfl
          rotate_left
          ·simp only [Act.put, List.setIfInBounds_toArray, List.set_cons_zero, List.set_cons_succ, i64_w, i32_w]
           rfl
          refine pure_ (i := 23) (N := some 59) (v := ?_) (a' := ?_) #[true, true, true, true, true, true, true, true, true, true, true, true, true, true, true, true, true, true, true, true, true, true, true, true, false, false, false, false] rfl rfl (any_of HT_.out (by kernel_rfl)) (fun _ _ _ h => h) (Or.inl ⟨by rfl, ?_⟩) ?_ ?_
          rotate_left
          ·intro w'
           go_simp
           with_reducible rfl
          rotate_left
          ·simp only [Act.put, List.setIfInBounds_toArray, List.set_cons_zero, List.set_cons_succ, i64_w, i32_w]
           rfl
          refine pure_ (i := 24) (N := some 60) (v := ?_) (a' := ?_) #[true, true, true, true, true, true, true, true, true, true, true, true, true, true, true, true, true, true, true, true, true, true, true, true, true, false, false, false] rfl rfl (any_of HT_.out (by kernel_rfl)) (fun _ _ _ h => h) (Or.inl ⟨by rfl, ?_⟩) ?_ ?_
          rotate_left
          ·intro w'
           go_simp
           with_reducible rfl
          rotate_left
          ·simp only [Act.put, List.setIfInBounds_toArray, List.set_cons_zero, List.set_cons_succ, i64_w, i32_w]
           rfl
          refine pure_ (i := 25) (N := some 61) (v := ?_) (a' := ?_) #[true, true, true, true, true, true, true, true, true, true, true, true, true, true, true, true, true, true, true, true, true, true, true, true, true, true, false, false] rfl rfl (any_of HT_.out (by kernel_rfl)) (fun _ _ _ h => h) (Or.inl ⟨by rfl, ?_⟩) ?_ ?_
          rotate_left
          ·intro w'
           go_simp
           with_reducible rfl
          rotate_left
          ·simp only [Act.put, List.setIfInBounds_toArray, List.set_cons_zero, List.set_cons_succ, i64_w, i32_w]
           rfl
          refine pure_ (i := 26) (N := some 62) (v := ?_) (a' := ?_) #[true, true, true, true, true, true, true, true, true, true, true, true, true, true, true, true, true, true, true, true, true, true, true, true, true, true, true, false] rfl rfl (any_of HT_.out (by kernel_rfl)) (fun _ _ _ h => h) (Or.inl ⟨by rfl, ?_⟩) ?_ ?_
          rotate_left
          ·intro w'
           go_simp
           with_reducible rfl
          rotate_left
          ·simp only [Act.put, List.setIfInBounds_toArray, List.set_cons_zero, List.set_cons_succ, i64_w, i32_w]
           rfl
          refine pure_ (i := 27) (N := some 63) (v := ?_) (a' := ?_) #[true, true, true, true, true, true, true, true, true, true, true, true, true, true, true, true, true, true, true, true, true, true, true, true, true, true, true, true] rfl rfl (any_of HT_.out (by kernel_rfl)) (fun _ _ _ h => h) (Or.inl ⟨by rfl, ?_⟩) ?_ ?_
          rotate_left
          ·intro w'
           go_simp
           with_reducible rfl
          rotate_left
          ·simp only [Act.put, List.setIfInBounds_toArray, List.set_cons_zero, List.set_cons_succ, i64_w, i32_w]
           rfl
          refine done_ (done_of HT_.out (by kernel_rfl)) ?_
          try go_wp2
          have n0_ := A0_ (blk_drew BK827.out)
          have n1_ := A0_ (blk_drew BK832.out)
          have n2_ := A0_ (below_drew1 HB.out)
          clear BK827
          clear BK832
          clear HB
          have BK827 := n0_
          have BK832 := n1_
          have HB := n2_
          clear n0_ n1_ n2_
          refine start_ (n := 9) (S := fun w' => w'.cell? ⟨gb832, 0, none⟩ = some (.int .i64 t828) ∧ w'.cell? ⟨gb832, 1, none⟩ = some (.int .i64 t829) ∧ w'.cell? ⟨gb832, 2, none⟩ = some (.int .u64 t830)) (ds := []) #[false, false, false, false, false, false, false, false, false] (by kernel_rfl) rfl rfl ⟨(blk_cell BK832.out 0).trans rfl, (blk_cell BK832.out 1).trans rfl, (blk_cell BK832.out 2).trans rfl⟩ (fun hHeld => ?_); refine with_tabW word_Of.tab13 word_Of.bits13 (fun HT_ HW_ => ?_)
          generalize w33.drew = w34 at BK827 BK832 HB hHeld ⊢
          refine pure_ (i := 0) (N := some 66) (v := ?_) (a' := ?_) #[true, false, false, false, false, false, false, false, false] rfl rfl (any_of HT_.out (by kernel_rfl)) (fun _ _ _ h => h) (Or.inl ⟨by rfl, ?_⟩) ?_ ?_
          rotate_left
          ·intro w'
           go_simp
           with_reducible rfl
          rotate_left
          ·simp only [Act.put, List.setIfInBounds_toArray, List.set_cons_zero, List.set_cons_succ, i64_w, i32_w]
           rfl
          refine pure_ (i := 1) (N := some 67) (v := ?_) (a' := ?_) #[true, true, false, false, false, false, false, false, false] rfl rfl (any_of HT_.out (by kernel_rfl)) (fun _ _ _ h => h) (Or.inl ⟨by rfl, ?_⟩) ?_ ?_
          rotate_left
          ·intro w'
           go_simp
           with_reducible rfl
          rotate_left
          ·simp only [Act.put, List.setIfInBounds_toArray, List.set_cons_zero, List.set_cons_succ, i64_w, i32_w]
           rfl
          refine take_ (i := 2) (N := some 68) (v := ?_) (a' := ?_) #[true, true, true, false, false, false, false, false, false] rfl rfl (take_ofW HT_.out HW_.out (by kernel_rfl)) (fun _ _ _ h => h) (Or.inl ⟨by rfl, ?_⟩) hHeld ?_ ?_
          rotate_left
          ·rintro w' ⟨s0, s1, s2⟩
           go_simp
           with_reducible rfl
          rotate_left
          ·simp only [Act.put, List.setIfInBounds_toArray, List.set_cons_zero, List.set_cons_succ, i64_w, i32_w]
           rfl
          refine pure_ (i := 3) (N := some 69) (v := ?_) (a' := ?_) #[true, true, true, true, false, false, false, false, false] rfl rfl (any_of HT_.out (by kernel_rfl)) (fun _ _ _ h => h) (Or.inl ⟨by rfl, ?_⟩) ?_ ?_
          rotate_left
          ·intro w'
           go_simp
           with_reducible rfl
          rotate_left
          ·simp only [Act.put, List.setIfInBounds_toArray, List.set_cons_zero, List.set_cons_succ, i64_w, i32_w]
           rfl
          refine pure_ (i := 4) (N := some 70) (v := ?_) (a' := ?_) #[true, true, true, true, true, false, false, false, false] rfl rfl (any_of HT_.out (by kernel_rfl)) (fun _ _ _ h => h) (Or.inl ⟨by rfl, ?_⟩) ?_ ?_
          rotate_left
          ·intro w'
           go_simp
           with_reducible rfl
          rotate_left
          ·simp only [Act.put, List.setIfInBounds_toArray, List.set_cons_zero, List.set_cons_succ, i64_w, i32_w]
           rfl
          refine take_ (i := 5) (N := some 71) (v := ?_) (a' := ?_) #[true, true, true, true, true, true, false, false, false] rfl rfl (take_ofW HT_.out HW_.out (by kernel_rfl)) (fun _ _ _ h => h) (Or.inl ⟨by rfl, ?_⟩) hHeld ?_ ?_
          rotate_left
          ·rintro w' ⟨s0, s1, s2⟩
           go_simp
           with_reducible rfl
          rotate_left
          ·simp only [Act.put, List.setIfInBounds_toArray, List.set_cons_zero, List.set_cons_succ, i64_w, i32_w]
           rfl
          refine one_ (i := 6) (N := some 72) #[true, true, true, true, true, true, true, false, false] rfl rfl (one_of HT_.out (by kernel_rfl)) (by decide) (fun K hK => ?_)
          refine goes_ Try.func57 (by kernel_rfl) rfl #[.agg #[.int .i64 t828, .int .i64 t829, .int .u64 t830]] (by rfl) rfl rfl (by (try simp only [List.map_toArray, List.map_cons, List.map_nil]); first | done | rfl | (simp only [List.length_drop, List.length_take]; rfl)) ?_
          with_reducible refine (word_shape_low.calls t828 t829 t830 t838 _ A15.out).mono ?_
          rintro e w35 ⟨rfl, hb⟩
          refine ⟨_, rfl, ?_⟩
          have n0_ := A0_ (blk_below (bm_ BK827.out) hb)
          have n1_ := A0_ (blk_below (bm_ BK832.out) hb)
          have n2_ := A0_ (below_step (by repeat (first | (with_reducible first | exact qm_ HB.out | apply qA_ | apply qN_ | apply qD_ | refine below_set ?_ GE827.out | refine below_set ?_ GE832.out) | exact HB.out)) hb)
          clear BK827
          clear BK832
          clear HB
          have BK827 := n0_
          have BK832 := n1_
          have HB := n2_
          clear n0_ n1_ n2_
          (try clear hb)
          (try clear hb2)
          (try clear hk)
          (try clear hi)
          refine hK.out _ _ ⟨(blk_cell BK832.out 0).trans rfl, (blk_cell BK832.out 1).trans rfl, (blk_cell BK832.out 2).trans rfl⟩ (fun hHeld => ?_)
          clear hK K
          refine norm_ (a' := ?_) ?_ ?_
          rotate_left
          ·show Act.put _ (some 72) _ = _
           simp only [Act.put, List.setIfInBounds_toArray, List.set_cons_zero, List.set_cons_succ, i64_w, i32_w]
           rfl
          refine pure_ (i := 7) (N := some 73) (v := ?_) (a' := ?_) #[true, true, true, true, true, true, true, true, false] rfl rfl (any_of HT_.out (by kernel_rfl)) (fun _ _ _ h => h) (Or.inl ⟨by rfl, ?_⟩) ?_ ?_
          rotate_left
          ·intro w'
           go_simp
           with_reducible rfl
          rotate_left
          ·simp only [Act.put, List.setIfInBounds_toArray, List.set_cons_zero, List.set_cons_succ, i64_w, i32_w]
           rfl
          refine pure_ (i := 8) (N := some 12) (v := ?_) (a' := ?_) #[true, true, true, true, true, true, true, true, true] rfl rfl (any_of HT_.out (by kernel_rfl)) (fun _ _ _ h => h) (Or.inl ⟨by rfl, ?_⟩) ?_ ?_
          rotate_left
          ·intro w'
           go_simp
           with_reducible rfl
          rotate_left
          ·simp only [Act.put, List.setIfInBounds_toArray, List.set_cons_zero, List.set_cons_succ, i64_w, i32_w]
           rfl
          refine done_ (done_of HT_.out (by kernel_rfl)) ?_
          have hcz36 := bc3_ BK827.out
          have hfz36 := bf3_ BK827.out
          try go_wp2
          have n0_ := A0_ (blk_drew BK827.out)
          have n1_ := A0_ (blk_drew BK832.out)
          have n2_ := A0_ (below_drew1 HB.out)
          clear BK827
          clear BK832
          clear HB
          have BK827 := n0_
          have BK832 := n1_
          have HB := n2_
          clear n0_ n1_ n2_
          refine start_ (n := 17) (S := fun w' => w'.cell? ⟨gb832, 0, none⟩ = some (.int .i64 t828) ∧ w'.cell? ⟨gb832, 1, none⟩ = some (.int .i64 t829) ∧ w'.cell? ⟨gb832, 2, none⟩ = some (.int .u64 t830) ∧ w'.cell? ⟨gb827, 0, none⟩ = some (.bool a1_0) ∧ w'.cell? ⟨gb827, 1, none⟩ = some (.slice A1_1 l1_1.length c1_1) ∧ w'.cell? ⟨gb827, 2, none⟩ = some (.int .i64 a1_2)) (ds := []) #[false, false, false, false, false, false, false, false, false, false, false, false, false, false, false, false, false] (by kernel_rfl) rfl rfl ⟨(blk_cell BK832.out 0).trans rfl, (blk_cell BK832.out 1).trans rfl, (blk_cell BK832.out 2).trans rfl, (blk_cell BK827.out 0).trans rfl, (blk_cell BK827.out 1).trans rfl, (blk_cell BK827.out 2).trans rfl⟩ (fun hHeld => ?_); refine with_tabW word_Of.tab15 word_Of.bits15 (fun HT_ HW_ => ?_)
          generalize w35.drew = w37 at BK827 BK832 HB hHeld ⊢
          refine pure_ (i := 1) (N := some 81) (v := ?_) (a' := ?_) #[false, true, false, false, false, false, false, false, false, false, false, false, false, false, false, false, false] rfl rfl (any_of HT_.out (by kernel_rfl)) (fun _ _ _ h => h) (Or.inl ⟨by rfl, ?_⟩) ?_ ?_
          rotate_left
          ·intro w'
           go_simp
           with_reducible rfl
          rotate_left
          ·simp only [Act.put, List.setIfInBounds_toArray, List.set_cons_zero, List.set_cons_succ, i64_w, i32_w]
           rfl
          refine pure_ (i := 3) (N := some 83) (v := ?_) (a' := ?_) #[false, true, false, true, false, false, false, false, false, false, false, false, false, false, false, false, false] rfl rfl (any_of HT_.out (by kernel_rfl)) (fun _ _ _ h => h) (Or.inl ⟨by rfl, ?_⟩) ?_ ?_
          rotate_left
          ·intro w'
           go_simp
           with_reducible rfl
          rotate_left
          ·simp only [Act.put, List.setIfInBounds_toArray, List.set_cons_zero, List.set_cons_succ, i64_w, i32_w]
           rfl
          refine pure_ (i := 8) (N := some 88) (v := ?_) (a' := ?_) #[false, true, false, true, false, false, false, false, true, false, false, false, false, false, false, false, false] rfl rfl (any_of HT_.out (by kernel_rfl)) (fun _ _ _ h => h) (Or.inl ⟨by rfl, ?_⟩) ?_ ?_
          rotate_left
          ·intro w'
           go_simp
           with_reducible rfl
          rotate_left
          ·simp only [Act.put, List.setIfInBounds_toArray, List.set_cons_zero, List.set_cons_succ, i64_w, i32_w]
           rfl
          refine pure_ (i := 11) (N := some 91) (v := ?_) (a' := ?_) #[false, true, false, true, false, false, false, false, true, false, false, true, false, false, false, false, false] rfl rfl (any_of HT_.out (by kernel_rfl)) (fun _ _ _ h => h) (Or.inl ⟨by rfl, ?_⟩) ?_ ?_
          rotate_left
          ·intro w'
           go_simp
           with_reducible rfl
          rotate_left
          ·simp only [Act.put, List.setIfInBounds_toArray, List.set_cons_zero, List.set_cons_succ, i64_w, i32_w]
           rfl
          refine take_ (i := 0) (N := some 80) (v := ?_) (a' := ?_) #[true, true, false, true, false, false, false, false, true, false, false, true, false, false, false, false, false] rfl rfl (take_ofW HT_.out HW_.out (by kernel_rfl)) (fun _ _ _ h => h) (Or.inl ⟨by rfl, ?_⟩) hHeld ?_ ?_
          rotate_left
          ·rintro w' ⟨s0, s1, s2, s3, s4, s5⟩
           go_simp
           with_reducible rfl
          rotate_left
          ·simp only [Act.put, List.setIfInBounds_toArray, List.set_cons_zero, List.set_cons_succ, i64_w, i32_w]
           rfl
          refine take_ (i := 2) (N := some 82) (v := ?_) (a' := ?_) #[true, true, true, true, false, false, false, false, true, false, false, true, false, false, false, false, false] rfl rfl (take_ofW HT_.out HW_.out (by kernel_rfl)) (fun _ _ _ h => h) (Or.inl ⟨by rfl, ?_⟩) hHeld ?_ ?_
          rotate_left
          ·rintro w' ⟨s0, s1, s2, s3, s4, s5⟩
           go_simp
           with_reducible rfl
          rotate_left
          ·simp only [Act.put, List.setIfInBounds_toArray, List.set_cons_zero, List.set_cons_succ, i64_w, i32_w]
           rfl
          refine take_ (i := 4) (N := some 84) (v := ?_) (a' := ?_) #[true, true, true, true, true, false, false, false, true, false, false, true, false, false, false, false, false] rfl rfl (take_ofW HT_.out HW_.out (by kernel_rfl)) (fun _ _ _ h => h) (Or.inl ⟨by rfl, ?_⟩) hHeld ?_ ?_
          rotate_left
          ·rintro w' ⟨s0, s1, s2, s3, s4, s5⟩
           go_simp
           with_reducible rfl
          rotate_left
          ·simp only [Act.put, List.setIfInBounds_toArray, List.set_cons_zero, List.set_cons_succ, i64_w, i32_w]
           rfl
          refine take_ (i := 9) (N := some 89) (v := ?_) (a' := ?_) #[true, true, true, true, true, false, false, false, true, true, false, true, false, false, false, false, false] rfl rfl (take_ofW HT_.out HW_.out (by kernel_rfl)) (fun _ _ _ h => h) (Or.inl ⟨by rfl, ?_⟩) hHeld ?_ ?_
          rotate_left
          ·rintro w' ⟨s0, s1, s2, s3, s4, s5⟩
           go_simp
           with_reducible rfl
          rotate_left
          ·simp only [Act.put, List.setIfInBounds_toArray, List.set_cons_zero, List.set_cons_succ, i64_w, i32_w]
           rfl
          refine one_ (i := 5) (N := some 85) #[true, true, true, true, true, true, false, false, true, true, false, true, false, false, false, false, false] rfl rfl (one_of HT_.out (by kernel_rfl)) (by decide) (fun K hK => ?_)
          refine goes_ Try.func57 (by kernel_rfl) rfl #[.agg #[.int .i64 t828, .int .i64 t829, .int .u64 t830]] (by rfl) rfl rfl (by (try simp only [List.map_toArray, List.map_cons, List.map_nil]); first | done | rfl | (simp only [List.length_drop, List.length_take]; rfl)) ?_
          with_reducible refine (word_shape_low.calls t828 t829 t830 t839 _ A20.out).mono ?_
          rintro e w38 ⟨rfl, hb⟩
          refine ⟨_, rfl, ?_⟩
          have n0_ := A0_ (blk_below (bm_ BK827.out) hb)
          have n1_ := A0_ (blk_below (bm_ BK832.out) hb)
          have n2_ := A0_ (below_step (by repeat (first | (with_reducible first | exact qm_ HB.out | apply qA_ | apply qN_ | apply qD_ | refine below_set ?_ GE827.out | refine below_set ?_ GE832.out) | exact HB.out)) hb)
          clear BK827
          clear BK832
          clear HB
          have BK827 := n0_
          have BK832 := n1_
          have HB := n2_
          clear n0_ n1_ n2_
          (try clear hb)
          (try clear hb2)
          (try clear hk)
          (try clear hi)
          refine hK.out _ _ ⟨(blk_cell BK832.out 0).trans rfl, (blk_cell BK832.out 1).trans rfl, (blk_cell BK832.out 2).trans rfl, (blk_cell BK827.out 0).trans rfl, (blk_cell BK827.out 1).trans rfl, (blk_cell BK827.out 2).trans rfl⟩ (fun hHeld => ?_)
          clear hK K
          refine norm_ (a' := ?_) ?_ ?_
          rotate_left
          ·show Act.put _ (some 85) _ = _
           simp only [Act.put, List.setIfInBounds_toArray, List.set_cons_zero, List.set_cons_succ, i64_w, i32_w]
           rfl
          refine pure_ (i := 6) (N := some 86) (v := ?_) (a' := ?_) #[true, true, true, true, true, true, true, false, true, true, false, true, false, false, false, false, false] rfl rfl (any_of HT_.out (by kernel_rfl)) (fun _ _ _ h => h) (Or.inl ⟨by rfl, ?_⟩) ?_ ?_
          rotate_left
          ·intro w'
           go_simp
           with_reducible rfl
          rotate_left
          ·simp only [Act.put, List.setIfInBounds_toArray, List.set_cons_zero, List.set_cons_succ, i64_w, i32_w]
           rfl
          refine pure_ (i := 7) (N := some 87) (v := ?_) (a' := ?_) #[true, true, true, true, true, true, true, true, true, true, false, true, false, false, false, false, false] rfl rfl (any_of HT_.out (by kernel_rfl)) (fun _ _ _ h => h) (Or.inl ⟨by rfl, ?_⟩) ?_ ?_
          rotate_left
          ·intro w'
           go_simp
           with_reducible rfl
          rotate_left
          ·simp only [Act.put, List.setIfInBounds_toArray, List.set_cons_zero, List.set_cons_succ, i64_w, i32_w]
           rfl
          refine pure_ (i := 10) (N := some 90) (v := ?_) (a' := ?_) #[true, true, true, true, true, true, true, true, true, true, true, true, false, false, false, false, false] rfl rfl (any_of HT_.out (by kernel_rfl)) (fun _ _ _ h => h) (Or.inl ⟨by rfl, ?_⟩) ?_ ?_
          rotate_left
          ·intro w'
           go_simp
           with_reducible rfl
          rotate_left
          ·simp only [Act.put, List.setIfInBounds_toArray, List.set_cons_zero, List.set_cons_succ, i64_w, i32_w]
           rfl
          refine pure_ (i := 12) (N := some 92) (v := ?_) (a' := ?_) #[true, true, true, true, true, true, true, true, true, true, true, true, true, false, false, false, false] rfl rfl (any_of HT_.out (by kernel_rfl)) (fun _ _ _ h => h) (Or.inl ⟨by rfl, ?_⟩) ?_ ?_
          rotate_left
          ·intro w'
           go_simp
           with_reducible rfl
          rotate_left
          ·simp only [Act.put, List.setIfInBounds_toArray, List.set_cons_zero, List.set_cons_succ, i64_w, i32_w]
           rfl
          refine pure_ (i := 13) (N := some 93) (v := ?_) (a' := ?_) #[true, true, true, true, true, true, true, true, true, true, true, true, true, true, false, false, false] rfl rfl (any_of HT_.out (by kernel_rfl)) (fun _ _ _ h => h) (Or.inl ⟨by rfl, ?_⟩) ?_ ?_
          rotate_left
          ·intro w'
           go_simp
           with_reducible rfl
          rotate_left
          ·simp only [Act.put, List.setIfInBounds_toArray, List.set_cons_zero, List.set_cons_succ, i64_w, i32_w]
           rfl
          refine one_ (i := 14) (N := some 94) #[true, true, true, true, true, true, true, true, true, true, true, true, true, true, true, false, false] rfl rfl (one_of HT_.out (by kernel_rfl)) (by decide) (fun K hK => ?_)
          refine goes_ Try.func58 (by kernel_rfl) rfl #[.agg #[.int .i64 t828, .int .i64 t829, .int .u64 t830], .agg #[.bool a1_0, .int .i64 0, .int .u64 (IntKind.u64.wrap ((ji22) + (ji19)))]] (by rfl) rfl rfl (by (try simp only [List.map_toArray, List.map_cons, List.map_nil]); first | done | (simp only [hji19, hji22]; rfl) | rfl | (simp only [List.length_drop, List.length_take]; rfl)) ?_
          with_reducible refine (word_shape_join.calls t828 t829 t830 a1_0 0 (IntKind.u64.wrap ((ji22) + (ji19))) t840 _ A23.out).mono ?_
          rintro e w39 ⟨rfl, hb⟩
          refine ⟨_, rfl, ?_⟩
          have n0_ := A0_ (blk_below (bm_ BK827.out) hb)
          have n1_ := A0_ (blk_below (bm_ BK832.out) hb)
          have n2_ := A0_ (below_step (by repeat (first | (with_reducible first | exact qm_ HB.out | apply qA_ | apply qN_ | apply qD_ | refine below_set ?_ GE827.out | refine below_set ?_ GE832.out) | exact HB.out)) hb)
          clear BK827
          clear BK832
          clear HB
          have BK827 := n0_
          have BK832 := n1_
          have HB := n2_
          clear n0_ n1_ n2_
          (try clear hb)
          (try clear hb2)
          (try clear hk)
          (try clear hi)
          refine hK.out _ _ ⟨(blk_cell BK832.out 0).trans rfl, (blk_cell BK832.out 1).trans rfl, (blk_cell BK832.out 2).trans rfl, (blk_cell BK827.out 0).trans rfl, (blk_cell BK827.out 1).trans rfl, (blk_cell BK827.out 2).trans rfl⟩ (fun hHeld => ?_)
          clear hK K
          refine norm_ (a' := ?_) ?_ ?_
          rotate_left
          ·show Act.put _ (some 94) _ = _
           simp only [Act.put, List.setIfInBounds_toArray, List.set_cons_zero, List.set_cons_succ, i64_w, i32_w]
           rfl
          refine pure_ (i := 15) (N := some 4) (v := ?_) (a' := ?_) #[true, true, true, true, true, true, true, true, true, true, true, true, true, true, true, true, false] rfl rfl (any_of HT_.out (by kernel_rfl)) (fun _ _ _ h => h) (Or.inl ⟨by rfl, ?_⟩) ?_ ?_
          rotate_left
          ·intro w'
           go_simp
           with_reducible rfl
          rotate_left
          ·simp only [Act.put, List.setIfInBounds_toArray, List.set_cons_zero, List.set_cons_succ, i64_w, i32_w]
           rfl
          refine pure_ (i := 16) (N := some 5) (v := ?_) (a' := ?_) #[true, true, true, true, true, true, true, true, true, true, true, true, true, true, true, true, true] rfl rfl (any_of HT_.out (by kernel_rfl)) (fun _ _ _ h => h) (Or.inl ⟨by rfl, ?_⟩) ?_ ?_
          rotate_left
          ·intro w'
           go_simp
           with_reducible rfl
          rotate_left
          ·simp only [Act.put, List.setIfInBounds_toArray, List.set_cons_zero, List.set_cons_succ, i64_w, i32_w]
           rfl
          refine done_ (done_of HT_.out (by kernel_rfl)) ?_
          try go_wp2
          go_ret2
          exact ⟨by first | rfl | (simp [errW_none, errW_some] <;> rfl) | (simp only [← hji16, ← hji17, ← hji19, ← hji22]; first | rfl | (simp [errW_none, errW_some] <;> rfl)) | (simp [*, errW_none, errW_some] <;> rfl), by repeat (first | (with_reducible first | exact qm_ HB.out | apply qA_ | apply qN_ | apply qD_ | refine below_set ?_ GE827.out | refine below_set ?_ GE832.out) | exact HB.out)⟩
         ·rw [if_neg c21] at H
          exact absurd H (by simp)
        ·rw [if_neg c18] at H
         exact absurd H (by simp)
   ·replace c9 := Bool.eq_false_iff.mpr c9
    subst c9
    have H1 : (none) = some (r1, r2) := by rw [if_neg (show ¬ (false = true) by decide)] at H; exact H
    clear H
    have H := H1
    clear H1
    exact absurd H (by simp)
  ·replace c6 := Bool.eq_false_iff.mpr c6
   subst c6
   have H1 : (none) = some (r1, r2) := by rw [if_neg (show ¬ (false = true) by decide)] at H; exact H
   clear H
   have H := H1
   clear H1
   exact absurd H (by simp)
 ·rw [if_neg c4] at H
  exact absurd H (by simp)
end Go.Proofs.Ytlgapmhjaaajfaa.PA
end

section
namespace Go.Proofs.Ytlgapmhjaaajfaa.PA
open Go.RowKit Go.Proofs.YtlgapmhjaaajfaaW.PrintWords Go.Proofs.YtlgapmhjaaajfaaW.PrintLast Go.Proofs.YtlgapmhjaaajfaaW.PrintMore
attribute [local go_sem] max2_int min2_int max_two min_two max_three min_three max_four min_four   -- for this text's walks alone
set_option linter.unusedVariables false
set_option linter.unusedSimpArgs false
def special_Box.f (k : Nat) (a0 : Int) (a1_0 : Int) (a1_1 : Int) : Option (Int × Int × Int) := (pair_Class.f k a0 a1_0 a1_1).bind fun bt843 => (if bt843.2 = 0 then (if bt843.1 = 4 then (some (0, 0, 7)) else ((word_Of.f k a0 false (([1] : List Int)) 0).bind fun bt848 => ((special_boxOf.f k a0 a1_0 a1_1 bt843.1).bind fun bt850 => ((special_box_words.f k bt850.1 bt850.2.1 bt850.2.2.1 bt850.2.2.2 a0 bt848.1).bind fun bt854 => (some (bt854.1, bt854.2, 0)))))) else (some (0, 0, bt843.2)))
set_option maxHeartbeats 2000000 in
set_option maxRecDepth 100000 in
theorem special_Box.calls (k : Nat) (a0 : Int) (a1_0 : Int) (a1_1 : Int) (r1 : Int) (r2 : Int) (r3 : Int) (w : World) (h : special_Box.f k a0 a1_0 a1_1 = some (r1, r2, r3)) :
  Calls Try.prog 10 #[.int .u8 a0, .agg #[.int .u64 a1_0, .int .u64 a1_1]] w fun e w' => e = .returned (.tuple #[.agg #[.int .u64 r1, .int .u64 r2], .int .i64 r3]) ∧ Below w.heap.size w w' := by
 have hu26 := Try.underlying26
 have hu69 := Try.underlying69
 have HB := A0_ (Below.refl w.heap.size w)
 have H : ((pair_Class.f k a0 a1_0 a1_1).bind fun bt843 => (if bt843.2 = 0 then (if bt843.1 = 4 then (some (0, 0, 7)) else ((word_Of.f k a0 false (([1] : List Int)) 0).bind fun bt848 => ((special_boxOf.f k a0 a1_0 a1_1 bt843.1).bind fun bt850 => ((special_box_words.f k bt850.1 bt850.2.1 bt850.2.2.1 bt850.2.2.2 a0 bt848.1).bind fun bt854 => (some (bt854.1, bt854.2, 0)))))) else (some (0, 0, bt843.2)))) = some (r1, r2, r3) := h
 clear h
 replace H := Option.bind_eq_some_iff.mp H
 obtain ⟨⟨t843, t844⟩, A30, H⟩ := H
 replace H : (if t844 = 0 then (if t843 = 4 then (some (0, 0, 7)) else ((word_Of.f k a0 false (([1] : List Int)) 0).bind fun bt848 => ((special_boxOf.f k a0 a1_0 a1_1 t843).bind fun bt850 => ((special_box_words.f k bt850.1 bt850.2.1 bt850.2.2.1 bt850.2.2.2 a0 bt848.1).bind fun bt854 => (some (bt854.1, bt854.2, 0)))))) else (some (0, 0, t844))) = some (r1, r2, r3) := H
 have A3 := A0_ A30
 clear A30
 by_cases c4 : t844 = 0
 ·rw [if_pos c4] at H
  have c4b0 : (t844 == 0) = true := beq_iff_eq.mpr c4
  have c4b1 : (t844 != 0) = false := bne_eq_false_iff_eq.mpr c4
  clear c4
  by_cases c5 : t843 = 4
  ·rw [if_pos c5] at H
   have c5b0 : (t843 == 4) = true := beq_iff_eq.mpr c5
   have c5b1 : (t843 != 4) = false := bne_eq_false_iff_eq.mpr c5
   clear c5
   simp only [Option.some.injEq, Prod.mk.injEq] at H
   obtain ⟨rfl, rfl, rfl⟩ := H
   go_enter Try.func10, Try.ntmps10
   go_wp2_with (first | ((with_reducible refine gate_dst (N := 3) rfl ?_); refine box_event ?hg (N := 3) ?hd (cs := #[.int .u64 a1_0, .int .u64 a1_1]) (t := 26) ?hr ?_; (case hd => rfl); (case hg => rfl); (case hr => first | (go_simp; done) | (go_simp; rfl)); intro gb841 hg w6 hbox hb; have n0_ := A0_ (below_step (qm_ HB.out) hb); have n1_ := A0_ (hbox); have n2_ := A0_ ((by rw [hg]; exact (below_size (qm_ HB.out)) : w.heap.size ≤ gb841)); have n3_ := A0_ ((by rw [hg]; exact (below_size (qm_ HB.out)) : w.heap.size ≤ gb841)); clear HB; have HB := n0_; have BK841 := n1_; have GW841 := n2_; have GE841 := n3_; clear n0_ n1_ n2_ n3_; clear hb hbox hg) | ((with_reducible refine gate_dst (N := 4) rfl ?_); refine box_event ?hg (N := 4) ?hd (cs := #[.int .u64 0, .int .u64 0]) (t := 26) ?hr ?_; (case hd => rfl); (case hg => rfl); (case hr => first | (go_simp; done) | (go_simp; rfl)); intro gb842 hg w7 hbox hb; have n0_ := A0_ (blk_below (bm_ BK841.out) hb); have n1_ := A0_ (below_step (by repeat (first | (with_reducible first | exact qm_ HB.out | apply qA_ | apply qN_ | apply qD_ | refine below_set ?_ GE841.out) | exact HB.out)) hb); have n2_ := A0_ (hbox); have n3_ := A0_ ((by rw [hg]; exact (below_size (by repeat (first | (with_reducible first | exact qm_ HB.out | apply qA_ | apply qN_ | apply qD_ | refine below_set ?_ GE841.out) | exact HB.out))) : w.heap.size ≤ gb842)); have n4_ := A0_ ((by rw [hg]; exact (below_size (by repeat (first | (with_reducible first | exact qm_ HB.out | apply qA_ | apply qN_ | apply qD_ | refine below_set ?_ GE841.out) | exact HB.out))) : w.heap.size ≤ gb842)); have n5_ := A0_ ((by rw [hg]; exact Nat.ne_of_lt (blk_lt (bm_ BK841.out)) : gb841 ≠ gb842)); have n6_ := A0_ ((by rw [hg]; exact Nat.ne_of_gt (blk_lt (bm_ BK841.out)) : gb842 ≠ gb841)); clear BK841; clear HB; have BK841 := n0_; have HB := n1_; have BK842 := n2_; have GW842 := n3_; have GE842 := n4_; have NB841_842 := n5_; have NB842_841 := n6_; clear n0_ n1_ n2_ n3_ n4_ n5_ n6_; clear hb hbox hg; have hnb8 := NB841_842.out; have hnc8 := NB842_841.out; have hcz9 := bc2_ BK841.out; have hfz9 := bf2_ BK841.out) | ((with_reducible refine gate_callee (f := 27) rfl ?_); refine goesL_ (some 13) rfl rfl Try.func27 (by kernel_rfl) rfl #[.int .u8 a0, .agg #[.int .u64 a1_0, .int .u64 a1_1]] rfl (by (try simp only [List.map_toArray, List.map_cons, List.map_nil]); first | done | rfl | (simp only [List.length_drop, List.length_take]; rfl)) ?_; (with_reducible refine (pair_Class.calls k a0 a1_0 a1_1 t843 t844 _ A3.out).mono ?_); rintro e w10 ⟨rfl, hb⟩; refine ⟨_, rfl, ?_⟩; have n0_ := A0_ (blk_below (bm_ BK841.out) hb); have n1_ := A0_ (blk_below (bm_ BK842.out) hb); have n2_ := A0_ (below_step (by repeat (first | (with_reducible first | exact qm_ HB.out | apply qA_ | apply qN_ | apply qD_ | refine below_set ?_ GE841.out | refine below_set ?_ GE842.out) | exact HB.out)) hb); clear BK841; clear BK842; clear HB; have BK841 := n0_; have BK842 := n1_; have HB := n2_; clear n0_ n1_ n2_; (try clear hb); (try clear hb2); (try clear hk); (try clear hi); have hcz11 := bc2_ BK842.out; have hfz11 := bf2_ BK842.out))
   refine bodyPost_ret (results_ct rfl _ _ gb842 26 #[.int .u64 0, .int .u64 0] (0, 0) _ rfl (by (with_reducible repeat first | apply bN_ | apply bD_ | apply bA_); refine blk_put (cs := #[.int .u64 0, .int .u64 0]) ?_ 1 _ rfl; (with_reducible repeat first | apply bN_ | apply bD_ | apply bA_); refine blk_put (cs := #[.int .u64 0, .int .u64 0]) ?_ 0 _ rfl; (with_reducible repeat first | apply bN_ | apply bD_ | apply bA_); exact BK842.out) Try.underlying26 rfl (by kernel_rfl)) rfl ?_
   exact ⟨by first | rfl | (simp [errW_none, errW_some] <;> rfl) | (simp [*, errW_none, errW_some] <;> rfl), by repeat (first | (with_reducible first | exact qm_ HB.out | apply qA_ | apply qN_ | apply qD_ | refine below_set ?_ GE841.out | refine below_set ?_ GE842.out) | exact HB.out)⟩
  ·rw [if_neg c5] at H
   have c5b0 : (t843 == 4) = false := beq_eq_false_iff_ne.mpr c5
   have c5b1 : (t843 != 4) = true := bne_iff_ne.mpr c5
   obtain ⟨y845, hy845⟩ : ∃ y_ : List Int, y_ = (([1] : List Int)) := ⟨_, rfl⟩
   replace H : ((word_Of.f k a0 false y845 0).bind fun bt848 => ((special_boxOf.f k a0 a1_0 a1_1 t843).bind fun bt850 => ((special_box_words.f k bt850.1 bt850.2.1 bt850.2.2.1 bt850.2.2.2 a0 bt848.1).bind fun bt854 => (some (bt854.1, bt854.2, 0))))) = some (r1, r2, r3) := by first | (rw [hy845]; with_reducible exact H) | (have H2_ := (Option.bind_some _ _).symm.trans H; rw [hy845]; with_reducible exact H2_) | (have H2_ := (Option.bind_some _ _).symm.trans H; with_reducible exact H2_) | with_reducible exact H | (rw [hy845]; exact H) | exact H
   have Ny845 := A0_ hy845
   clear hy845
   replace H := Option.bind_eq_some_iff.mp H
   obtain ⟨⟨t848, t849⟩, A120, H⟩ := H
   replace H : ((special_boxOf.f k a0 a1_0 a1_1 t843).bind fun bt850 => ((special_box_words.f k bt850.1 bt850.2.1 bt850.2.2.1 bt850.2.2.2 a0 t848).bind fun bt854 => (some (bt854.1, bt854.2, 0)))) = some (r1, r2, r3) := H
   have A12 := A0_ A120
   clear A120
   replace H := Option.bind_eq_some_iff.mp H
   obtain ⟨⟨t850, t851, t852, t853⟩, A130, H⟩ := H
   replace H : ((special_box_words.f k t850 t851 t852 t853 a0 t848).bind fun bt854 => (some (bt854.1, bt854.2, 0))) = some (r1, r2, r3) := H
   have A13 := A0_ A130
   clear A130
   replace H := Option.bind_eq_some_iff.mp H
   obtain ⟨⟨t854, t855⟩, A140, H⟩ := H
   replace H : (some (t854, t855, 0)) = some (r1, r2, r3) := H
   have A14 := A0_ A140
   clear A140
   simp only [Option.some.injEq, Prod.mk.injEq] at H
   obtain ⟨rfl, rfl, rfl⟩ := H
   go_enter Try.func10, Try.ntmps10
   go_wp2_with (first | ((with_reducible refine gate_dst (N := 3) rfl ?_); refine box_event ?hg (N := 3) ?hd (cs := #[.int .u64 a1_0, .int .u64 a1_1]) (t := 26) ?hr ?_; (case hd => rfl); (case hg => rfl); (case hr => first | (go_simp; done) | (go_simp; rfl)); intro gb841 hg w15 hbox hb; have n0_ := A0_ (below_step (qm_ HB.out) hb); have n1_ := A0_ (hbox); have n2_ := A0_ ((by rw [hg]; exact (below_size (qm_ HB.out)) : w.heap.size ≤ gb841)); have n3_ := A0_ ((by rw [hg]; exact (below_size (qm_ HB.out)) : w.heap.size ≤ gb841)); clear HB; have HB := n0_; have BK841 := n1_; have GW841 := n2_; have GE841 := n3_; clear n0_ n1_ n2_ n3_; clear hb hbox hg) | ((with_reducible refine gate_dst (N := 4) rfl ?_); refine box_event ?hg (N := 4) ?hd (cs := #[.int .u64 0, .int .u64 0]) (t := 26) ?hr ?_; (case hd => rfl); (case hg => rfl); (case hr => first | (go_simp; done) | (go_simp; rfl)); intro gb842 hg w16 hbox hb; have n0_ := A0_ (blk_below (bm_ BK841.out) hb); have n1_ := A0_ (below_step (by repeat (first | (with_reducible first | exact qm_ HB.out | apply qA_ | apply qN_ | apply qD_ | refine below_set ?_ GE841.out) | exact HB.out)) hb); have n2_ := A0_ (hbox); have n3_ := A0_ ((by rw [hg]; exact (below_size (by repeat (first | (with_reducible first | exact qm_ HB.out | apply qA_ | apply qN_ | apply qD_ | refine below_set ?_ GE841.out) | exact HB.out))) : w.heap.size ≤ gb842)); have n4_ := A0_ ((by rw [hg]; exact (below_size (by repeat (first | (with_reducible first | exact qm_ HB.out | apply qA_ | apply qN_ | apply qD_ | refine below_set ?_ GE841.out) | exact HB.out))) : w.heap.size ≤ gb842)); have n5_ := A0_ ((by rw [hg]; exact Nat.ne_of_lt (blk_lt (bm_ BK841.out)) : gb841 ≠ gb842)); have n6_ := A0_ ((by rw [hg]; exact Nat.ne_of_gt (blk_lt (bm_ BK841.out)) : gb842 ≠ gb841)); clear BK841; clear HB; have BK841 := n0_; have HB := n1_; have BK842 := n2_; have GW842 := n3_; have GE842 := n4_; have NB841_842 := n5_; have NB842_841 := n6_; clear n0_ n1_ n2_ n3_ n4_ n5_ n6_; clear hb hbox hg; have hnb17 := NB841_842.out; have hnc17 := NB842_841.out; have hcz18 := bc2_ BK841.out; have hfz18 := bf2_ BK841.out) | ((with_reducible refine gate_callee (f := 27) rfl ?_); refine goesL_ (some 13) rfl rfl Try.func27 (by kernel_rfl) rfl #[.int .u8 a0, .agg #[.int .u64 a1_0, .int .u64 a1_1]] rfl (by (try simp only [List.map_toArray, List.map_cons, List.map_nil]); first | done | rfl | (simp only [List.length_drop, List.length_take]; rfl)) ?_; (with_reducible refine (pair_Class.calls k a0 a1_0 a1_1 t843 t844 _ A3.out).mono ?_); rintro e w19 ⟨rfl, hb⟩; refine ⟨_, rfl, ?_⟩; have n0_ := A0_ (blk_below (bm_ BK841.out) hb); have n1_ := A0_ (blk_below (bm_ BK842.out) hb); have n2_ := A0_ (below_step (by repeat (first | (with_reducible first | exact qm_ HB.out | apply qA_ | apply qN_ | apply qD_ | refine below_set ?_ GE841.out | refine below_set ?_ GE842.out) | exact HB.out)) hb); clear BK841; clear BK842; clear HB; have BK841 := n0_; have BK842 := n1_; have HB := n2_; clear n0_ n1_ n2_; (try clear hb); (try clear hb2); (try clear hk); (try clear hi)) | ((with_reducible refine gate_dst (N := 27) rfl ?_); refine Kd.R_lit (Kd.int .u32) _ 66 ?hg (N := 27) ?hd (xs := ([1] : List Int)) (inner := [.int .u32 1]) (ok := fun _ => True) (okp := fun _ => True) ?hr ?hp (fun _ hk => hk) trivial (Below.refl _ _) (Nat.le_refl _) (by simp) ?_; (case hd => rfl); (case hg => rfl); (case hr => first | (go_simp; done) | (go_simp; rfl)); (case hp => exact (Reps.one (show Kd.M (Kd.int .u32) _ _ _ 1 [.int .u32 1] from rfl) (Reps.none _ _))); intro v846 w20 ho21 hb hg_ hnew_; clear hg_ hnew_; (first | rw [← Ny845.out] at ho21 | (simp only [Int.reduceToNat] at ho21; rw [← Ny845.out] at ho21)); have n0_ := A0_ (Kd.R_lower ho21 (below_size (by repeat (first | (with_reducible first | exact qm_ HB.out | apply qA_ | apply qN_ | apply qD_ | refine below_set ?_ GE841.out | refine below_set ?_ GE842.out) | exact HB.out)))); have n1_ := A0_ (blk_below (bm_ BK841.out) hb); have n2_ := A0_ (blk_below (bm_ BK842.out) hb); have n3_ := A0_ (below_step (by repeat (first | (with_reducible first | exact qm_ HB.out | apply qA_ | apply qN_ | apply qD_ | refine below_set ?_ GE841.out | refine below_set ?_ GE842.out) | exact HB.out)) hb); clear BK841; clear BK842; clear HB; have HO847 := n0_; have BK841 := n1_; have BK842 := n2_; have HB := n3_; clear n0_ n1_ n2_ n3_; clear hb ho21; obtain ⟨Ao22, co22, eo22⟩ := Kd.R_slice HO847.out; subst eo22) | ((with_reducible refine gate_callee (f := 28) rfl ?_); refine goesL_ (some 29) rfl rfl Try.func28 (by kernel_rfl) rfl #[.int .u8 a0, .agg #[.bool false, .slice Ao22 y845.length co22, .int .i64 0]] rfl (by (try simp only [List.map_toArray, List.map_cons, List.map_nil]); first | done | rfl | (simp only [List.length_drop, List.length_take]; rfl)) ?_; (with_reducible refine (word_Of.calls k a0 false _ _ y845 0 t848 t849 _ ?side1 ?side2 A12.out).mono ?_); (case side1 => repeat (first | exact (Kd.R_reads' HO847.out).2.2 | (with_reducible refine Kd.C_alloc ?_ _) | (with_reducible refine Kd.C_drewN ?_ _) | (with_reducible refine Kd.C_drew ?_))); (case side2 => exact (Kd.R_reads' HO847.out).2.1); rintro e w23 ⟨rfl, hb⟩; refine ⟨_, rfl, ?_⟩; have n0_ := A0_ (Kd.R_below (by exact rm_ HO847.out) hb); have n1_ := A0_ (blk_below (bm_ BK841.out) hb); have n2_ := A0_ (blk_below (bm_ BK842.out) hb); have n3_ := A0_ (below_step (by repeat (first | (with_reducible first | exact qm_ HB.out | apply qA_ | apply qN_ | apply qD_ | refine below_set ?_ GE841.out | refine below_set ?_ GE842.out) | exact HB.out)) hb); clear HO847; clear BK841; clear BK842; clear HB; have HO847 := n0_; have BK841 := n1_; have BK842 := n2_; have HB := n3_; clear n0_ n1_ n2_ n3_; (try clear hb); (try clear hb2); (try clear hk); (try clear hi); have hcz24 := bc2_ BK841.out; have hfz24 := bf2_ BK841.out) | ((with_reducible refine gate_callee (f := 19) rfl ?_); refine goesL_ (some 35) rfl rfl Try.func19 (by kernel_rfl) rfl #[.int .u8 a0, .agg #[.int .u64 a1_0, .int .u64 a1_1], .int .u8 t843] rfl (by (try simp only [List.map_toArray, List.map_cons, List.map_nil]); first | done | rfl | (simp only [List.length_drop, List.length_take]; rfl)) ?_; (with_reducible refine (special_boxOf.calls k a0 a1_0 a1_1 t843 t850 t851 t852 t853 _ A13.out).mono ?_); rintro e w25 ⟨rfl, hb⟩; refine ⟨_, rfl, ?_⟩; have n0_ := A0_ (Kd.R_below (by exact rm_ HO847.out) hb); have n1_ := A0_ (blk_below (bm_ BK841.out) hb); have n2_ := A0_ (blk_below (bm_ BK842.out) hb); have n3_ := A0_ (below_step (by repeat (first | (with_reducible first | exact qm_ HB.out | apply qA_ | apply qN_ | apply qD_ | refine below_set ?_ GE841.out | refine below_set ?_ GE842.out) | exact HB.out)) hb); clear HO847; clear BK841; clear BK842; clear HB; have HO847 := n0_; have BK841 := n1_; have BK842 := n2_; have HB := n3_; clear n0_ n1_ n2_ n3_; (try clear hb); (try clear hb2); (try clear hk); (try clear hi)) | ((with_reducible refine gate_callee (f := 21) rfl ?_); refine goesL_ (some 38) rfl rfl Try.func21 (by kernel_rfl) rfl #[.agg #[.int .i64 t850, .bool t851, .int .i64 t852, .bool t853], .int .u8 a0, .int .u64 t848] rfl (by (try simp only [List.map_toArray, List.map_cons, List.map_nil]); first | done | rfl | (simp only [List.length_drop, List.length_take]; rfl)) ?_; (with_reducible refine (special_box_words.calls k t850 t851 t852 t853 a0 t848 t854 t855 _ A14.out).mono ?_); rintro e w26 ⟨rfl, hb⟩; refine ⟨_, rfl, ?_⟩; have n0_ := A0_ (Kd.R_below (by exact rm_ HO847.out) hb); have n1_ := A0_ (blk_below (bm_ BK841.out) hb); have n2_ := A0_ (blk_below (bm_ BK842.out) hb); have n3_ := A0_ (below_step (by repeat (first | (with_reducible first | exact qm_ HB.out | apply qA_ | apply qN_ | apply qD_ | refine below_set ?_ GE841.out | refine below_set ?_ GE842.out) | exact HB.out)) hb); clear HO847; clear BK841; clear BK842; clear HB; have HO847 := n0_; have BK841 := n1_; have BK842 := n2_; have HB := n3_; clear n0_ n1_ n2_ n3_; (try clear hb); (try clear hb2); (try clear hk); (try clear hi); have hcz27 := bc2_ BK842.out; have hfz27 := bf2_ BK842.out))
   refine bodyPost_ret (results_ct rfl _ _ gb842 26 #[.int .u64 t854, .int .u64 t855] (0, 0) _ rfl (by (with_reducible repeat first | apply bN_ | apply bD_ | apply bA_); refine blk_put (cs := #[.int .u64 t854, .int .u64 0]) ?_ 1 _ rfl; (with_reducible repeat first | apply bN_ | apply bD_ | apply bA_); refine blk_put (cs := #[.int .u64 0, .int .u64 0]) ?_ 0 _ rfl; (with_reducible repeat first | apply bN_ | apply bD_ | apply bA_); exact BK842.out) Try.underlying26 rfl (by kernel_rfl)) rfl ?_
   exact ⟨by first | rfl | (simp [errW_none, errW_some] <;> rfl) | (simp [*, errW_none, errW_some] <;> rfl), by repeat (first | (with_reducible first | exact qm_ HB.out | apply qA_ | apply qN_ | apply qD_ | refine below_set ?_ GE841.out | refine below_set ?_ GE842.out) | exact HB.out)⟩
 ·rw [if_neg c4] at H
  have c4b0 : (t844 == 0) = false := beq_eq_false_iff_ne.mpr c4
  have c4b1 : (t844 != 0) = true := bne_iff_ne.mpr c4
  simp only [Option.some.injEq, Prod.mk.injEq] at H
  obtain ⟨rfl, rfl, rfl⟩ := H
  go_enter Try.func10, Try.ntmps10
  go_wp2_with (first | ((with_reducible refine gate_dst (N := 3) rfl ?_); refine box_event ?hg (N := 3) ?hd (cs := #[.int .u64 a1_0, .int .u64 a1_1]) (t := 26) ?hr ?_; (case hd => rfl); (case hg => rfl); (case hr => first | (go_simp; done) | (go_simp; rfl)); intro gb841 hg w28 hbox hb; have n0_ := A0_ (below_step (qm_ HB.out) hb); have n1_ := A0_ (hbox); have n2_ := A0_ ((by rw [hg]; exact (below_size (qm_ HB.out)) : w.heap.size ≤ gb841)); have n3_ := A0_ ((by rw [hg]; exact (below_size (qm_ HB.out)) : w.heap.size ≤ gb841)); clear HB; have HB := n0_; have BK841 := n1_; have GW841 := n2_; have GE841 := n3_; clear n0_ n1_ n2_ n3_; clear hb hbox hg) | ((with_reducible refine gate_dst (N := 4) rfl ?_); refine box_event ?hg (N := 4) ?hd (cs := #[.int .u64 0, .int .u64 0]) (t := 26) ?hr ?_; (case hd => rfl); (case hg => rfl); (case hr => first | (go_simp; done) | (go_simp; rfl)); intro gb842 hg w29 hbox hb; have n0_ := A0_ (blk_below (bm_ BK841.out) hb); have n1_ := A0_ (below_step (by repeat (first | (with_reducible first | exact qm_ HB.out | apply qA_ | apply qN_ | apply qD_ | refine below_set ?_ GE841.out) | exact HB.out)) hb); have n2_ := A0_ (hbox); have n3_ := A0_ ((by rw [hg]; exact (below_size (by repeat (first | (with_reducible first | exact qm_ HB.out | apply qA_ | apply qN_ | apply qD_ | refine below_set ?_ GE841.out) | exact HB.out))) : w.heap.size ≤ gb842)); have n4_ := A0_ ((by rw [hg]; exact (below_size (by repeat (first | (with_reducible first | exact qm_ HB.out | apply qA_ | apply qN_ | apply qD_ | refine below_set ?_ GE841.out) | exact HB.out))) : w.heap.size ≤ gb842)); have n5_ := A0_ ((by rw [hg]; exact Nat.ne_of_lt (blk_lt (bm_ BK841.out)) : gb841 ≠ gb842)); have n6_ := A0_ ((by rw [hg]; exact Nat.ne_of_gt (blk_lt (bm_ BK841.out)) : gb842 ≠ gb841)); clear BK841; clear HB; have BK841 := n0_; have HB := n1_; have BK842 := n2_; have GW842 := n3_; have GE842 := n4_; have NB841_842 := n5_; have NB842_841 := n6_; clear n0_ n1_ n2_ n3_ n4_ n5_ n6_; clear hb hbox hg; have hnb30 := NB841_842.out; have hnc30 := NB842_841.out; have hcz31 := bc2_ BK841.out; have hfz31 := bf2_ BK841.out) | ((with_reducible refine gate_callee (f := 27) rfl ?_); refine goesL_ (some 13) rfl rfl Try.func27 (by kernel_rfl) rfl #[.int .u8 a0, .agg #[.int .u64 a1_0, .int .u64 a1_1]] rfl (by (try simp only [List.map_toArray, List.map_cons, List.map_nil]); first | done | rfl | (simp only [List.length_drop, List.length_take]; rfl)) ?_; (with_reducible refine (pair_Class.calls k a0 a1_0 a1_1 t843 t844 _ A3.out).mono ?_); rintro e w32 ⟨rfl, hb⟩; refine ⟨_, rfl, ?_⟩; have n0_ := A0_ (blk_below (bm_ BK841.out) hb); have n1_ := A0_ (blk_below (bm_ BK842.out) hb); have n2_ := A0_ (below_step (by repeat (first | (with_reducible first | exact qm_ HB.out | apply qA_ | apply qN_ | apply qD_ | refine below_set ?_ GE841.out | refine below_set ?_ GE842.out) | exact HB.out)) hb); clear BK841; clear BK842; clear HB; have BK841 := n0_; have BK842 := n1_; have HB := n2_; clear n0_ n1_ n2_; (try clear hb); (try clear hb2); (try clear hk); (try clear hi); have hcz33 := bc2_ BK842.out; have hfz33 := bf2_ BK842.out))
  refine bodyPost_ret (results_ct rfl _ _ gb842 26 #[.int .u64 0, .int .u64 0] (0, 0) _ rfl (by (with_reducible repeat first | apply bN_ | apply bD_ | apply bA_); refine blk_put (cs := #[.int .u64 0, .int .u64 0]) ?_ 1 _ rfl; (with_reducible repeat first | apply bN_ | apply bD_ | apply bA_); refine blk_put (cs := #[.int .u64 0, .int .u64 0]) ?_ 0 _ rfl; (with_reducible repeat first | apply bN_ | apply bD_ | apply bA_); exact BK842.out) Try.underlying26 rfl (by kernel_rfl)) rfl ?_
  exact ⟨by first | rfl | (simp [errW_none, errW_some] <;> rfl) | (simp [*, errW_none, errW_some] <;> rfl), by repeat (first | (with_reducible first | exact qm_ HB.out | apply qA_ | apply qN_ | apply qD_ | refine below_set ?_ GE841.out | refine below_set ?_ GE842.out) | exact HB.out)⟩
end Go.Proofs.Ytlgapmhjaaajfaa.PA
end
