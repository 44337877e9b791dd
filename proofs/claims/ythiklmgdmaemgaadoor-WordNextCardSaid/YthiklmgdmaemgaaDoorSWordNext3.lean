/- Steps of Go functions that the law WordNext uses, told as plain Lean functions, each with the proof that its call comes to what it tells; words on memory; plain facts. No condition beyond those that each text names. -/
import Derived.Test.YthiklmgdmaemgaaDoorProg
import Derived.WalkMore
import Derived.Shelf.Spec.TrailingZeros
import Derived.Below
import Derived.Deep.Draws
import Derived.Deep.AppendLies
import Derived.Maps.AppendAt
import Derived.OwnWalk
import Derived.Laws.BytesArg
import Derived.Laws.MakeOwn
import Derived.Laws.OwnMore
import Derived.Deep.OwnRows
import Derived.Tactics
import Derived.Lib.ConvBytes
import Derived.Laws.Slices
import Derived.WalkKit
import Derived.KernelRfl
import Derived.RowKit3
import Derived.Deep.LoopGhost
import Derived.Deep.QuietTactic
import Derived.BigQuiet
import Derived.WideLaws
import Derived.Deep.DeepCutAuto
import Derived.Deep.CutBlock
import Derived.Deep.RegionHeld3
import Derived.Laws.Rows
import Derived.Lib.AppendStr
import Derived.ArgAppend
import Derived.Laws.IdiomCopy
import Derived.OrdersHeld
import Derived.Laws.BitsLemmas
import Derived.RowKit
import Derived.Laws.StructEq
import Derived.Test.YthiklmgdmaemgaaDoorSWordNext0
import Derived.Test.YthiklmgdmaemgaaDoorSWordNext1
import Derived.Test.YthiklmgdmaemgaaDoorSWordNext2
section
namespace Go.Proofs.YthiklmgdmaemgaaDoor.PA
open Go.RowKit Go.Proofs.YthiklmgdmaemgaaDoorW.PrintWords Go.Proofs.YthiklmgdmaemgaaDoorW.PrintLast Go.Proofs.YthiklmgdmaemgaaDoorW.PrintMore
attribute [local go_sem] max2_int min2_int max_two min_two max_three min_three max_four min_four   -- for this text's walks alone
set_option linter.unusedVariables false
set_option linter.unusedSimpArgs false
def word_Value.f (k : Nat) (a0 : Int) (a1 : Int) : Option (Bool × List Int × Int × Int) := (word_finite.f k a0 a1).bind fun bt188 => (if bt188.2.2.2 = 0 then ((word_shape_split.f bt188.1 bt188.2.1 bt188.2.2.1 a1).bind fun bt193 => (if bt193.2.1 > 0 then (if 0 ≤ bt188.1 then ((nat_Of.f k (Go.bits .or .u64 bt193.2.2 (shl .u64 1 bt188.1))).bind fun t197 => ((word_shape_low.f bt188.1 bt188.2.1 bt188.2.2.1).bind fun t200 => ((dyad_Make.f k bt193.1 t197 (wrap64 ((wrap64 ((mx bt193.2.1 1) - 1)) + t200))).bind fun bt201 => (some (bt201.1, bt201.2.1, bt201.2.2.1, bt201.2.2.2))))) else (none)) else ((nat_Of.f k bt193.2.2).bind fun t207 => ((word_shape_low.f bt188.1 bt188.2.1 bt188.2.2.1).bind fun t210 => ((dyad_Make.f k bt193.1 t207 (wrap64 ((wrap64 ((mx bt193.2.1 1) - 1)) + t210))).bind fun bt211 => (some (bt211.1, bt211.2.1, bt211.2.2.1, bt211.2.2.2))))))) else (some (false, ([] : List Int), 0, bt188.2.2.2)))
def word_Value.T6 : Bool × List (List Nat × List Nat) := (true, [([], []), ([0], [0]), ([], []), ([2], [2]), ([3], [3]), ([1, 4], [1, 4]), ([0, 1, 2, 3, 4, 5], []), ([6, 5, 0, 1, 2, 3, 4, 5], [5, 6])])
def word_Value.B6 : List Nat := [0, 1, 0, 4, 12, 31, 63, 127]
theorem word_Value.tab6 : rtab .any (opsOf Tryd.f6 6) = word_Value.T6 := by kernel_rfl
theorem word_Value.bits6 : waitsOk word_Value.T6.2 word_Value.B6 = true := by kernel_rfl
def word_Value.T7 : Bool × List (List Nat × List Nat) := (true, [([], []), ([0], [0]), ([], []), ([2], [2]), ([3], [3]), ([], []), ([5], [5]), ([6], [6]), ([7], [7]), ([], []), ([9, 4], [9]), ([8, 10], [8, 10]), ([1, 4, 11, 10], [1, 4, 11]), ([12], [12]), ([12], [12]), ([13, 12, 0, 1, 2, 3, 4, 5, 6, 7, 8, 9, 10, 11, 12, 13, 14], [13]), ([14, 15, 0, 1, 2, 3, 4, 5, 6, 7, 8, 9, 10, 11, 12, 13, 14, 15], [14])])
def word_Value.B7 : List Nat := [0, 1, 0, 4, 12, 0, 32, 96, 224, 0, 540, 2044, 4095, 8191, 8191, 32767, 65535]
theorem word_Value.tab7 : rtab .any (opsOf Tryd.f6 7) = word_Value.T7 := by kernel_rfl
theorem word_Value.bits7 : waitsOk word_Value.T7.2 word_Value.B7 = true := by kernel_rfl
set_option maxHeartbeats 2000000 in
set_option maxRecDepth 100000 in
theorem word_Value.calls (k : Nat) (a0 : Int) (a1 : Int) (r1 : Bool) (r2 : List Int) (r3 : Int) (r4 : Int) (w : World) (h : word_Value.f k a0 a1 = some (r1, r2, r3, r4)) (HT : Aside0 (TabT w)) :
  Calls Tryd.prog 6 #[.int .u8 a0, .int .u64 a1] w fun e w' => ∃ v1_ : Value, e = .returned (.tuple #[.agg #[.bool r1, v1_, .int .i64 r3], .int .i64 r4]) ∧ Kd.V (Kd.int .u32) 78 w' w.heap.size (fun k_ => (w.heap.size ≤ k_)) v1_ r2 ∧ Below w.heap.size w w' := by
 have hu26 := Tryd.underlying26
 have hu55 := Tryd.underlying55
 have hu48 := Tryd.underlying48
 have HB := A0_ (Below.refl w.heap.size w)
 have H : ((word_finite.f k a0 a1).bind fun bt188 => (if bt188.2.2.2 = 0 then ((word_shape_split.f bt188.1 bt188.2.1 bt188.2.2.1 a1).bind fun bt193 => (if bt193.2.1 > 0 then (if 0 ≤ bt188.1 then ((nat_Of.f k (Go.bits .or .u64 bt193.2.2 (shl .u64 1 bt188.1))).bind fun t197 => ((word_shape_low.f bt188.1 bt188.2.1 bt188.2.2.1).bind fun t200 => ((dyad_Make.f k bt193.1 t197 (wrap64 ((wrap64 ((mx bt193.2.1 1) - 1)) + t200))).bind fun bt201 => (some (bt201.1, bt201.2.1, bt201.2.2.1, bt201.2.2.2))))) else (none)) else ((nat_Of.f k bt193.2.2).bind fun t207 => ((word_shape_low.f bt188.1 bt188.2.1 bt188.2.2.1).bind fun t210 => ((dyad_Make.f k bt193.1 t207 (wrap64 ((wrap64 ((mx bt193.2.1 1) - 1)) + t210))).bind fun bt211 => (some (bt211.1, bt211.2.1, bt211.2.2.1, bt211.2.2.2))))))) else (some (false, ([] : List Int), 0, bt188.2.2.2)))) = some (r1, r2, r3, r4) := h
 clear h
 replace H := Option.bind_eq_some_iff.mp H
 obtain ⟨⟨t188, t189, t190, t191⟩, A30, H⟩ := H
 replace H : (if t191 = 0 then ((word_shape_split.f t188 t189 t190 a1).bind fun bt193 => (if bt193.2.1 > 0 then (if 0 ≤ t188 then ((nat_Of.f k (Go.bits .or .u64 bt193.2.2 (shl .u64 1 t188))).bind fun t197 => ((word_shape_low.f t188 t189 t190).bind fun t200 => ((dyad_Make.f k bt193.1 t197 (wrap64 ((wrap64 ((mx bt193.2.1 1) - 1)) + t200))).bind fun bt201 => (some (bt201.1, bt201.2.1, bt201.2.2.1, bt201.2.2.2))))) else (none)) else ((nat_Of.f k bt193.2.2).bind fun t207 => ((word_shape_low.f t188 t189 t190).bind fun t210 => ((dyad_Make.f k bt193.1 t207 (wrap64 ((wrap64 ((mx bt193.2.1 1) - 1)) + t210))).bind fun bt211 => (some (bt211.1, bt211.2.1, bt211.2.2.1, bt211.2.2.2))))))) else (some (false, ([] : List Int), 0, t191))) = some (r1, r2, r3, r4) := H
 have A3 := A0_ A30
 clear A30
 by_cases c4 : t191 = 0
 ·rw [if_pos c4] at H
  have c4b0 : (t191 == 0) = true := beq_iff_eq.mpr c4
  have c4b1 : (t191 != 0) = false := bne_eq_false_iff_eq.mpr c4
  clear c4
  replace H := Option.bind_eq_some_iff.mp H
  obtain ⟨⟨t193, t194, t195⟩, A50, H⟩ := H
  replace H : (if t194 > 0 then (if 0 ≤ t188 then ((nat_Of.f k (Go.bits .or .u64 t195 (shl .u64 1 t188))).bind fun t197 => ((word_shape_low.f t188 t189 t190).bind fun t200 => ((dyad_Make.f k t193 t197 (wrap64 ((wrap64 ((mx t194 1) - 1)) + t200))).bind fun bt201 => (some (bt201.1, bt201.2.1, bt201.2.2.1, bt201.2.2.2))))) else (none)) else ((nat_Of.f k t195).bind fun t207 => ((word_shape_low.f t188 t189 t190).bind fun t210 => ((dyad_Make.f k t193 t207 (wrap64 ((wrap64 ((mx t194 1) - 1)) + t210))).bind fun bt211 => (some (bt211.1, bt211.2.1, bt211.2.2.1, bt211.2.2.2)))))) = some (r1, r2, r3, r4) := H
  have A5 := A0_ A50
  clear A50
  by_cases c6 : t194 > 0
  ·rw [if_pos c6] at H
   have c6b0 : decide (0 < t194) = true := decide_eq_true c6
   clear c6
   by_cases c7 : 0 ≤ t188
   ·rw [if_pos c7] at H
    have c7b0 := eq_true c7
    have c7b1 : decide (0 ≤ t188) = true := decide_eq_true c7
    clear c7
    obtain ⟨ji8, hji8⟩ : ∃ j_ : Int, (shl .u64 1 t188) = j_ := ⟨_, rfl⟩
    replace H : ((nat_Of.f k (Go.bits .or .u64 t195 (ji8))).bind fun t197 => ((word_shape_low.f t188 t189 t190).bind fun t200 => ((dyad_Make.f k t193 t197 (wrap64 ((wrap64 ((mx t194 1) - 1)) + t200))).bind fun bt201 => (some (bt201.1, bt201.2.1, bt201.2.2.1, bt201.2.2.2))))) = some (r1, r2, r3, r4) := by first | (rw [hji8] at H; exact H) | (simp only [hji8] at H ⊢; exact H)
    (try rw [hji8] at A3)
    (try rw [hji8] at A5)
    have hji8_ : (IntKind.u64.wrap (1 * 2 ^ min t188.toNat 64)) = ji8 := hji8
    have hji8z : t188 ≤ 64 → (IntKind.u64.wrap (1 * 2 ^ t188.toNat)) = ji8 := shl_small hji8
    have hji8u : (IntKind.u64.wrap (2 ^ min t188.toNat 64)) = ji8 := by have h_ := hji8_; rw [Int.one_mul] at h_; exact h_
    have hji8v : t188 ≤ 64 → (IntKind.u64.wrap (2 ^ t188.toNat)) = ji8 := fun hle_ => by have h_ := hji8z hle_; rw [Int.one_mul] at h_; exact h_
    replace H := Option.bind_eq_some_iff.mp H
    obtain ⟨t197, A90, H⟩ := H
    replace H : ((word_shape_low.f t188 t189 t190).bind fun t200 => ((dyad_Make.f k t193 t197 (wrap64 ((wrap64 ((mx t194 1) - 1)) + t200))).bind fun bt201 => (some (bt201.1, bt201.2.1, bt201.2.2.1, bt201.2.2.2)))) = some (r1, r2, r3, r4) := H
    have A9 := A0_ A90
    clear A90
    obtain ⟨ji10, hji10⟩ : ∃ j_ : Int, (mx t194 1) = j_ := ⟨_, rfl⟩
    replace H : ((word_shape_low.f t188 t189 t190).bind fun t200 => ((dyad_Make.f k t193 t197 (wrap64 ((wrap64 ((ji10) - 1)) + t200))).bind fun bt201 => (some (bt201.1, bt201.2.1, bt201.2.2.1, bt201.2.2.2)))) = some (r1, r2, r3, r4) := by first | (rw [hji10] at H; exact H) | (simp only [hji10] at H ⊢; exact H)
    (try rw [hji10] at A3)
    (try rw [hji10] at A5)
    (try rw [hji10] at A9)
    (try (have hji10l : 1 ≤ ji10 := by (rw [← hji10]; unfold mx; (repeat' split) <;> omega)))
    (try (have hji10m : 0 ≤ ji10 := by omega))
    have hji10_ : (if t194 < 1 then 1 else t194) = ji10 := hji10
    replace H := Option.bind_eq_some_iff.mp H
    obtain ⟨t200, A110, H⟩ := H
    replace H : ((dyad_Make.f k t193 t197 (wrap64 ((wrap64 ((ji10) - 1)) + t200))).bind fun bt201 => (some (bt201.1, bt201.2.1, bt201.2.2.1, bt201.2.2.2))) = some (r1, r2, r3, r4) := H
    have A11 := A0_ A110
    clear A110
    replace H := Option.bind_eq_some_iff.mp H
    obtain ⟨⟨t201, t202, t205, t206⟩, A120, H⟩ := H
    replace H : (some (t201, t202, t205, t206)) = some (r1, r2, r3, r4) := H
    have A12 := A0_ A120
    clear A120
    simp only [Option.some.injEq, Prod.mk.injEq] at H
    obtain ⟨rfl, rfl, rfl, rfl⟩ := H
    go_enter Tryd.func6, Tryd.ntmps6
    try go_wp2_with (first | ((with_reducible refine gate_dst (N := 4) rfl ?_); refine box_event ?hg (N := 4) ?hd (cs := #[.bool false, .slice none 0 0, .int .i64 0]) (t := 26) ?hr ?_; (case hd => rfl); (case hg => rfl); (case hr => first | (go_simp; done) | (go_simp; rfl)); intro gb187 hg w13 hbox hb; have n0_ := A0_ (below_step (qm_ HB.out) hb); have n1_ := A0_ (hbox); have n2_ := A0_ ((by rw [hg]; exact (below_size (qm_ HB.out)) : w.heap.size ≤ gb187)); have n3_ := A0_ ((by rw [hg]; exact (below_size (qm_ HB.out)) : w.heap.size ≤ gb187)); clear HB; have HB := n0_; have BK187 := n1_; have GW187 := n2_; have GE187 := n3_; clear n0_ n1_ n2_ n3_ hb hbox hg) | ((with_reducible refine gate_callee (f := 27) rfl ?_); refine goesL_ (some 12) rfl rfl Tryd.func27 (by kernel_rfl) rfl #[.int .u8 a0, .int .u64 a1] rfl (by (try simp only [List.map_toArray, List.map_cons, List.map_nil]); first | done | rfl | (simp only [List.length_drop, List.length_take]; rfl)) ?_; (with_reducible refine (word_finite.calls k a0 a1 t188 t189 t190 t191 _ A3.out).mono ?_); rintro e w14 ⟨rfl, hb⟩; refine ⟨_, rfl, ?_⟩; have n0_ := A0_ (blk_below (bm_ BK187.out) hb); have n1_ := A0_ (below_step (by repeat (first | (with_reducible first | exact qm_ HB.out | apply qA_ | apply qN_ | apply qD_ | refine below_set ?_ GE187.out) | exact HB.out)) hb); clear BK187 HB; have BK187 := n0_; have HB := n1_; clear n0_ n1_; (try clear hb)) | ((with_reducible refine gate_dst (N := 6) rfl ?_); refine box_event ?hg (N := 6) ?hd (cs := #[.int .i64 0, .int .i64 0, .int .u64 0]) (t := 55) ?hr ?_; (case hd => rfl); (case hg => rfl); (case hr => first | (go_simp; done) | (go_simp; rfl)); intro gb192 hg w15 hbox hb; have n0_ := A0_ (blk_below (bm_ BK187.out) hb); have n1_ := A0_ (below_step (by repeat (first | (with_reducible first | exact qm_ HB.out | apply qA_ | apply qN_ | apply qD_ | refine below_set ?_ GE187.out) | exact HB.out)) hb); have n2_ := A0_ (hbox); have n3_ := A0_ ((by rw [hg]; exact (below_size (by repeat (first | (with_reducible first | exact qm_ HB.out | apply qA_ | apply qN_ | apply qD_ | refine below_set ?_ GE187.out) | exact HB.out))) : w.heap.size ≤ gb192)); have n4_ := A0_ ((by rw [hg]; exact (below_size (by repeat (first | (with_reducible first | exact qm_ HB.out | apply qA_ | apply qN_ | apply qD_ | refine below_set ?_ GE187.out) | exact HB.out))) : w.heap.size ≤ gb192)); have n5_ := A0_ ((by rw [hg]; exact Nat.ne_of_lt (blk_lt (bm_ BK187.out)) : gb187 ≠ gb192)); have n6_ := A0_ ((by rw [hg]; exact Nat.ne_of_gt (blk_lt (bm_ BK187.out)) : gb192 ≠ gb187)); clear BK187 HB; have BK187 := n0_; have HB := n1_; have BK192 := n2_; have GW192 := n3_; have GE192 := n4_; have NB187_192 := n5_; have NB192_187 := n6_; clear n0_ n1_ n2_ n3_ n4_ n5_ n6_ hb hbox hg; have hnb16 := NB192_187.out; have hnc16 := NB187_192.out; have hcz17 := bc3_ BK192.out; have hfz17 := bf3_ BK192.out) | ((with_reducible refine gate_callee (f := 28) rfl ?_); refine goesL_ (some 21) rfl rfl Tryd.func28 (by kernel_rfl) rfl #[.agg #[.int .i64 t188, .int .i64 t189, .int .u64 t190], .int .u64 a1] rfl (by (try simp only [List.map_toArray, List.map_cons, List.map_nil]); first | done | rfl | (simp only [List.length_drop, List.length_take]; rfl)) ?_; (with_reducible refine (word_shape_split.calls t188 t189 t190 a1 t193 t194 t195 _ A5.out).mono ?_); rintro e w18 ⟨rfl, hb⟩; refine ⟨_, rfl, ?_⟩; have n0_ := A0_ (blk_below (g := gb187) (o := .cells #[.bool false, .slice none 0 0, .int .i64 0] 26 (0, 0)) (by (with_reducible repeat first | apply bN_ | apply bD_ | apply bA_); refine blk_far ?_ NB187_192.out _; (with_reducible repeat first | apply bN_ | apply bD_ | apply bA_); refine blk_far ?_ NB187_192.out _; (with_reducible repeat first | apply bN_ | apply bD_ | apply bA_); refine blk_far ?_ NB187_192.out _; (with_reducible repeat first | apply bN_ | apply bD_ | apply bA_); exact BK187.out) hb); have n1_ := A0_ (blk_below (g := gb192) (o := .cells #[.int .i64 t188, .int .i64 t189, .int .u64 t190] 55 (0, 0)) (by (with_reducible repeat first | apply bN_ | apply bD_ | apply bA_); refine blk_put (cs := #[.int .i64 t188, .int .i64 t189, .int .u64 0]) ?_ 2 _ rfl; (with_reducible repeat first | apply bN_ | apply bD_ | apply bA_); refine blk_put (cs := #[.int .i64 t188, .int .i64 0, .int .u64 0]) ?_ 1 _ rfl; (with_reducible repeat first | apply bN_ | apply bD_ | apply bA_); refine blk_put (cs := #[.int .i64 0, .int .i64 0, .int .u64 0]) ?_ 0 _ rfl; (with_reducible repeat first | apply bN_ | apply bD_ | apply bA_); exact BK192.out) hb); have n2_ := A0_ (below_step (by repeat (first | (with_reducible first | exact qm_ HB.out | apply qA_ | apply qN_ | apply qD_ | refine below_set ?_ GE187.out | refine below_set ?_ GE192.out) | exact HB.out)) hb); clear BK187 BK192 HB; have BK187 := n0_; have BK192 := n1_; have HB := n2_; clear n0_ n1_ n2_; (try clear hb)) | ((with_reducible refine gate_dst (N := 8) rfl ?_); refine box_event ?hg (N := 8) ?hd (cs := #[.bool false, .int .i64 0, .int .u64 0]) (t := 48) ?hr ?_; (case hd => rfl); (case hg => rfl); (case hr => first | (go_simp; done) | (go_simp; rfl)); intro gb196 hg w19 hbox hb; have n0_ := A0_ (blk_below (bm_ BK187.out) hb); have n1_ := A0_ (blk_below (bm_ BK192.out) hb); have n2_ := A0_ (below_step (by repeat (first | (with_reducible first | exact qm_ HB.out | apply qA_ | apply qN_ | apply qD_ | refine below_set ?_ GE187.out | refine below_set ?_ GE192.out) | exact HB.out)) hb); have n3_ := A0_ (hbox); have n4_ := A0_ ((by rw [hg]; exact (below_size (by repeat (first | (with_reducible first | exact qm_ HB.out | apply qA_ | apply qN_ | apply qD_ | refine below_set ?_ GE187.out | refine below_set ?_ GE192.out) | exact HB.out))) : w.heap.size ≤ gb196)); have n5_ := A0_ ((by rw [hg]; exact (below_size (by repeat (first | (with_reducible first | exact qm_ HB.out | apply qA_ | apply qN_ | apply qD_ | refine below_set ?_ GE187.out | refine below_set ?_ GE192.out) | exact HB.out))) : w.heap.size ≤ gb196)); have n6_ := A0_ ((by rw [hg]; exact Nat.ne_of_lt (blk_lt (bm_ BK187.out)) : gb187 ≠ gb196)); have n7_ := A0_ ((by rw [hg]; exact Nat.ne_of_gt (blk_lt (bm_ BK187.out)) : gb196 ≠ gb187)); have n8_ := A0_ ((by rw [hg]; exact Nat.ne_of_lt (blk_lt (bm_ BK192.out)) : gb192 ≠ gb196)); have n9_ := A0_ ((by rw [hg]; exact Nat.ne_of_gt (blk_lt (bm_ BK192.out)) : gb196 ≠ gb192)); clear BK187 BK192 HB; have BK187 := n0_; have BK192 := n1_; have HB := n2_; have BK196 := n3_; have GW196 := n4_; have GE196 := n5_; have NB187_196 := n6_; have NB196_187 := n7_; have NB192_196 := n8_; have NB196_192 := n9_; clear n0_ n1_ n2_ n3_ n4_ n5_ n6_ n7_ n8_ n9_ hb hbox hg; have hnb20 := NB196_187.out; have hnc20 := NB187_196.out; have hnb21 := NB196_192.out; have hnc21 := NB192_196.out; have hcz22 := bc3_ BK196.out; have hfz22 := bf3_ BK196.out))
    have n0_ : Aside0 ((((w19.setCell ⟨gb196, 0, none⟩ (.bool t193)).setCell ⟨gb196, 1, none⟩ (.int .i64 t194)).setCell ⟨gb196, 2, none⟩ (.int .u64 t195)).heap[gb187]? = some (.cells #[.bool false, .slice none 0 0, .int .i64 0] 26 (0, 0))) := ⟨by (with_reducible repeat first | apply bN_ | apply bD_ | apply bA_); refine blk_far ?_ NB187_196.out _; (with_reducible repeat first | apply bN_ | apply bD_ | apply bA_); refine blk_far ?_ NB187_196.out _; (with_reducible repeat first | apply bN_ | apply bD_ | apply bA_); refine blk_far ?_ NB187_196.out _; (with_reducible repeat first | apply bN_ | apply bD_ | apply bA_); exact BK187.out⟩
    have n1_ : Aside0 ((((w19.setCell ⟨gb196, 0, none⟩ (.bool t193)).setCell ⟨gb196, 1, none⟩ (.int .i64 t194)).setCell ⟨gb196, 2, none⟩ (.int .u64 t195)).heap[gb192]? = some (.cells #[.int .i64 t188, .int .i64 t189, .int .u64 t190] 55 (0, 0))) := ⟨by (with_reducible repeat first | apply bN_ | apply bD_ | apply bA_); refine blk_far ?_ NB192_196.out _; (with_reducible repeat first | apply bN_ | apply bD_ | apply bA_); refine blk_far ?_ NB192_196.out _; (with_reducible repeat first | apply bN_ | apply bD_ | apply bA_); refine blk_far ?_ NB192_196.out _; (with_reducible repeat first | apply bN_ | apply bD_ | apply bA_); exact BK192.out⟩
    have n2_ : Aside0 ((((w19.setCell ⟨gb196, 0, none⟩ (.bool t193)).setCell ⟨gb196, 1, none⟩ (.int .i64 t194)).setCell ⟨gb196, 2, none⟩ (.int .u64 t195)).heap[gb196]? = some (.cells #[.bool t193, .int .i64 t194, .int .u64 t195] 48 (0, 0))) := ⟨by (with_reducible repeat first | apply bN_ | apply bD_ | apply bA_); refine blk_put (cs := #[.bool t193, .int .i64 t194, .int .u64 0]) ?_ 2 _ rfl; (with_reducible repeat first | apply bN_ | apply bD_ | apply bA_); refine blk_put (cs := #[.bool t193, .int .i64 0, .int .u64 0]) ?_ 1 _ rfl; (with_reducible repeat first | apply bN_ | apply bD_ | apply bA_); refine blk_put (cs := #[.bool false, .int .i64 0, .int .u64 0]) ?_ 0 _ rfl; (with_reducible repeat first | apply bN_ | apply bD_ | apply bA_); exact BK196.out⟩
    have n3_ : Aside0 (Below w.heap.size w (((w19.setCell ⟨gb196, 0, none⟩ (.bool t193)).setCell ⟨gb196, 1, none⟩ (.int .i64 t194)).setCell ⟨gb196, 2, none⟩ (.int .u64 t195))) := ⟨by repeat (first | (with_reducible first | exact qm_ HB.out | apply qA_ | apply qN_ | apply qD_ | refine below_set ?_ GE187.out | refine below_set ?_ GE192.out | refine below_set ?_ GE196.out) | exact HB.out)⟩
    (try clear BK187)
    (try clear BK192)
    (try clear BK196)
    (try clear HB)
    generalize (((w19.setCell ⟨gb196, 0, none⟩ (.bool t193)).setCell ⟨gb196, 1, none⟩ (.int .i64 t194)).setCell ⟨gb196, 2, none⟩ (.int .u64 t195)) = w23 at n0_ n1_ n2_ n3_ ⊢
    have BK187 := n0_
    have BK192 := n1_
    have BK196 := n2_
    have HB := n3_
    clear n0_ n1_ n2_ n3_
    have n0_ := A0_ (blk_drew BK187.out)
    have n1_ := A0_ (blk_drew BK192.out)
    have n2_ := A0_ (blk_drew BK196.out)
    have n3_ := A0_ (below_drew1 HB.out)
    clear BK187 BK192 BK196 HB
    have BK187 := n0_
    have BK192 := n1_
    have BK196 := n2_
    have HB := n3_
    clear n0_ n1_ n2_ n3_
    refine start_ (n := 8) (S := fun w' => w'.cell? ⟨gb196, 0, none⟩ = some (.bool t193) ∧ w'.cell? ⟨gb196, 1, none⟩ = some (.int .i64 t194) ∧ w'.cell? ⟨gb196, 2, none⟩ = some (.int .u64 t195) ∧ w'.cell? ⟨gb192, 0, none⟩ = some (.int .i64 t188) ∧ w'.cell? ⟨gb192, 1, none⟩ = some (.int .i64 t189) ∧ w'.cell? ⟨gb192, 2, none⟩ = some (.int .u64 t190)) (ds := [7]) #[false, false, false, false, false, false, false, false] (by kernel_rfl) rfl rfl ⟨bC_ BK196.out 0, bC_ BK196.out 1, bC_ BK196.out 2, bC_ BK192.out 0, bC_ BK192.out 1, bC_ BK192.out 2⟩ (fun hHeld => ?_); refine with_tabW word_Value.tab6 word_Value.bits6 (fun HT_ HW_ => ?_)
    generalize w23.drew = w24 at BK187 BK192 BK196 HB hHeld ⊢
    refine pure_ (i := 0) (N := some 25) (v := ?_) (a' := ?_) #[true, false, false, false, false, false, false, false] rfl rfl (any_of HT_.out (by kernel_rfl)) (fun _ _ _ h => h) (Or.inl ⟨by rfl, ?_⟩) ?_ ?_
    rotate_left
    ·intro w'
     go_simp
     with_reducible rfl
    rotate_left
    ·simp only [Act.put, sp_, i64_w, i32_w]
     rfl
    refine pure_ (i := 2) (N := some 27) (v := ?_) (a' := ?_) #[true, false, true, false, false, false, false, false] rfl rfl (any_of HT_.out (by kernel_rfl)) (fun _ _ _ h => h) (Or.inl ⟨by rfl, ?_⟩) ?_ ?_
    rotate_left
    ·intro w'
     go_simp
     with_reducible rfl
    rotate_left
    ·simp only [Act.put, sp_, i64_w, i32_w]
     rfl
    refine take_ (i := 1) (N := some 26) (v := ?_) (a' := ?_) #[true, true, true, false, false, false, false, false] rfl rfl (take_ofW HT_.out HW_.out (by kernel_rfl)) (fun _ _ _ h => h) (Or.inl ⟨by rfl, ?_⟩) hHeld ?_ ?_
    rotate_left
    ·rintro w' ⟨s0, s1, s2, s3, s4, s5⟩
     go_simp
     with_reducible rfl
    rotate_left
    ·simp only [Act.put, sp_, i64_w, i32_w]
     rfl
    refine take_ (i := 3) (N := some 28) (v := ?_) (a' := ?_) #[true, true, true, true, false, false, false, false] rfl rfl (take_ofW HT_.out HW_.out (by kernel_rfl)) (fun _ _ _ h => h) (Or.inl ⟨by rfl, ?_⟩) hHeld ?_ ?_
    rotate_left
    ·rintro w' ⟨s0, s1, s2, s3, s4, s5⟩
     go_simp
     with_reducible rfl
    rotate_left
    ·simp only [Act.put, sp_, i64_w, i32_w]
     rfl
    refine pure_ (i := 4) (N := some 29) (v := ?_) (a' := ?_) #[true, true, true, true, true, false, false, false] rfl rfl (any_of HT_.out (by kernel_rfl)) (fun _ _ _ h => h) (Or.inl ⟨by rfl, ?_⟩) ?_ ?_
    rotate_left
    ·intro w'
     go_simp
     with_reducible rfl
    rotate_left
    ·simp only [Act.put, sp_, i64_w, i32_w]
     rfl
    refine pure_ (i := 5) (N := some 30) (v := ?_) (a' := ?_) #[true, true, true, true, true, true, false, false] rfl rfl (any_of HT_.out (by kernel_rfl)) (fun _ _ _ h => h) (Or.inl ⟨by rfl, ?_⟩) ?_ ?_
    rotate_left
    ·intro w'
     go_simp
     with_reducible rfl
    rotate_left
    ·simp only [Act.put, sp_, i64_w, i32_w]
     rfl
    refine pure_ (i := 6) (N := some 31) (v := ?_) (a' := ?_) #[true, true, true, true, true, true, true, false] rfl rfl (any_of HT_.out (by kernel_rfl)) (fun _ _ _ h => h) (Or.inl ⟨by rfl, ?_⟩) ?_ ?_
    rotate_left
    ·intro w'
     go_simp
     with_reducible rfl
    rotate_left
    ·simp only [Act.put, sp_, i64_w, i32_w]
     rfl
    refine last_ (i := 7) (N := none) #[true, true, true, true, true, true, true, true] rfl rfl (one_of HT_.out (by kernel_rfl)) (by decide) (fun K hK => ?_)
    have hs25 : w24.cell? ⟨gb196, 2, none⟩ = some (.int .u64 t195) := (blk_cell BK196.out 2).trans rfl
    have hfs25 := blk_frozen BK196.out 2
    have hns25_0 := NB187_196.out
    have hns25_1 := NB192_196.out
    have hms25_0 := NB196_187.out
    have hms25_1 := NB196_192.out
    refine skip_ (w1 := ?_) (by rfl) rfl ?_ ?_
    rotate_left
    ·go_simp
     rfl
    refine hK.out _ _ ?_
    clear hK K
    refine done_ (done_of HT_.out (by kernel_rfl)) ?_
    try go_wp2
    have n0_ : Aside0 ((w24.setCell ⟨gb196, 2, none⟩ (.int .u64 (Go.bits .or .u64 t195 (ji8)))).heap[gb187]? = some (.cells #[.bool false, .slice none 0 0, .int .i64 0] 26 (0, 0))) := ⟨by (with_reducible repeat first | apply bN_ | apply bD_ | apply bA_); refine blk_far ?_ NB187_196.out _; (with_reducible repeat first | apply bN_ | apply bD_ | apply bA_); exact BK187.out⟩
    have n1_ : Aside0 ((w24.setCell ⟨gb196, 2, none⟩ (.int .u64 (Go.bits .or .u64 t195 (ji8)))).heap[gb192]? = some (.cells #[.int .i64 t188, .int .i64 t189, .int .u64 t190] 55 (0, 0))) := ⟨by (with_reducible repeat first | apply bN_ | apply bD_ | apply bA_); refine blk_far ?_ NB192_196.out _; (with_reducible repeat first | apply bN_ | apply bD_ | apply bA_); exact BK192.out⟩
    have n2_ : Aside0 ((w24.setCell ⟨gb196, 2, none⟩ (.int .u64 (Go.bits .or .u64 t195 (ji8)))).heap[gb196]? = some (.cells #[.bool t193, .int .i64 t194, .int .u64 (Go.bits .or .u64 t195 (ji8))] 48 (0, 0))) := ⟨by (with_reducible repeat first | apply bN_ | apply bD_ | apply bA_); refine blk_put (cs := #[.bool t193, .int .i64 t194, .int .u64 t195]) ?_ 2 _ rfl; (with_reducible repeat first | apply bN_ | apply bD_ | apply bA_); exact BK196.out⟩
    have n3_ : Aside0 (Below w.heap.size w (w24.setCell ⟨gb196, 2, none⟩ (.int .u64 (Go.bits .or .u64 t195 (ji8))))) := ⟨by repeat (first | (with_reducible first | exact qm_ HB.out | apply qA_ | apply qN_ | apply qD_ | refine below_set ?_ GE187.out | refine below_set ?_ GE192.out | refine below_set ?_ GE196.out) | exact HB.out)⟩
    (try clear BK187)
    (try clear BK192)
    (try clear BK196)
    (try clear HB)
    generalize (w24.setCell ⟨gb196, 2, none⟩ (.int .u64 (Go.bits .or .u64 t195 (ji8)))) = w26 at n0_ n1_ n2_ n3_ ⊢
    have BK187 := n0_
    have BK192 := n1_
    have BK196 := n2_
    have HB := n3_
    clear n0_ n1_ n2_ n3_
    have n0_ := A0_ (blk_drew BK187.out)
    have n1_ := A0_ (blk_drew BK192.out)
    have n2_ := A0_ (blk_drew BK196.out)
    have n3_ := A0_ (below_drew1 HB.out)
    clear BK187 BK192 BK196 HB
    have BK187 := n0_
    have BK192 := n1_
    have BK196 := n2_
    have HB := n3_
    clear n0_ n1_ n2_ n3_
    refine start_ (n := 17) (S := fun w' => w'.cell? ⟨gb196, 0, none⟩ = some (.bool t193) ∧ w'.cell? ⟨gb196, 1, none⟩ = some (.int .i64 t194) ∧ w'.cell? ⟨gb196, 2, none⟩ = some (.int .u64 (Go.bits .or .u64 t195 (ji8))) ∧ w'.cell? ⟨gb192, 0, none⟩ = some (.int .i64 t188) ∧ w'.cell? ⟨gb192, 1, none⟩ = some (.int .i64 t189) ∧ w'.cell? ⟨gb192, 2, none⟩ = some (.int .u64 t190)) (ds := []) #[false, false, false, false, false, false, false, false, false, false, false, false, false, false, false, false, false] (by kernel_rfl) rfl rfl ⟨bC_ BK196.out 0, bC_ BK196.out 1, bC_ BK196.out 2, bC_ BK192.out 0, bC_ BK192.out 1, bC_ BK192.out 2⟩ (fun hHeld => ?_); refine with_tabW word_Value.tab7 word_Value.bits7 (fun HT_ HW_ => ?_)
    generalize w26.drew = w27 at BK187 BK192 BK196 HB hHeld ⊢
    refine pure_ (i := 0) (N := some 32) (v := ?_) (a' := ?_) #[true, false, false, false, false, false, false, false, false, false, false, false, false, false, false, false, false] rfl rfl (any_of HT_.out (by kernel_rfl)) (fun _ _ _ h => h) (Or.inl ⟨by rfl, ?_⟩) ?_ ?_
    rotate_left
    ·intro w'
     go_simp
     with_reducible rfl
    rotate_left
    ·simp only [Act.put, sp_, i64_w, i32_w]
     rfl
    refine pure_ (i := 2) (N := some 34) (v := ?_) (a' := ?_) #[true, false, true, false, false, false, false, false, false, false, false, false, false, false, false, false, false] rfl rfl (any_of HT_.out (by kernel_rfl)) (fun _ _ _ h => h) (Or.inl ⟨by rfl, ?_⟩) ?_ ?_
    rotate_left
    ·intro w'
     go_simp
     with_reducible rfl
    rotate_left
    ·simp only [Act.put, sp_, i64_w, i32_w]
     rfl
    refine pure_ (i := 5) (N := some 37) (v := ?_) (a' := ?_) #[true, false, true, false, false, true, false, false, false, false, false, false, false, false, false, false, false] rfl rfl (any_of HT_.out (by kernel_rfl)) (fun _ _ _ h => h) (Or.inl ⟨by rfl, ?_⟩) ?_ ?_
    rotate_left
    ·intro w'
     go_simp
     with_reducible rfl
    rotate_left
    ·simp only [Act.put, sp_, i64_w, i32_w]
     rfl
    refine take_ (i := 1) (N := some 33) (v := ?_) (a' := ?_) #[true, true, true, false, false, true, false, false, false, false, false, false, false, false, false, false, false] rfl rfl (take_ofW HT_.out HW_.out (by kernel_rfl)) (fun _ _ _ h => h) (Or.inl ⟨by rfl, ?_⟩) hHeld ?_ ?_
    rotate_left
    ·rintro w' ⟨s0, s1, s2, s3, s4, s5⟩
     go_simp
     with_reducible rfl
    rotate_left
    ·simp only [Act.put, sp_, i64_w, i32_w]
     rfl
    refine take_ (i := 3) (N := some 35) (v := ?_) (a' := ?_) #[true, true, true, true, false, true, false, false, false, false, false, false, false, false, false, false, false] rfl rfl (take_ofW HT_.out HW_.out (by kernel_rfl)) (fun _ _ _ h => h) (Or.inl ⟨by rfl, ?_⟩) hHeld ?_ ?_
    rotate_left
    ·rintro w' ⟨s0, s1, s2, s3, s4, s5⟩
     go_simp
     with_reducible rfl
    rotate_left
    ·simp only [Act.put, sp_, i64_w, i32_w]
     rfl
    refine take_ (i := 6) (N := some 38) (v := ?_) (a' := ?_) #[true, true, true, true, false, true, true, false, false, false, false, false, false, false, false, false, false] rfl rfl (take_ofW HT_.out HW_.out (by kernel_rfl)) (fun _ _ _ h => h) (Or.inl ⟨by rfl, ?_⟩) hHeld ?_ ?_
    rotate_left
    ·rintro w' ⟨s0, s1, s2, s3, s4, s5⟩
     go_simp
     with_reducible rfl
    rotate_left
    ·simp only [Act.put, sp_, i64_w, i32_w]
     rfl
    refine pure_ (i := 7) (N := some 39) (v := ?_) (a' := ?_) #[true, true, true, true, false, true, true, true, false, false, false, false, false, false, false, false, false] rfl rfl (any_of HT_.out (by kernel_rfl)) (fun _ _ _ h => h) (Or.inl ⟨by rfl, ?_⟩) ?_ ?_
    rotate_left
    ·intro w'
     go_simp
     with_reducible rfl
    rotate_left
    ·simp only [Act.put, sp_, i64_w, i32_w]
     rfl
    refine pure_ (i := 8) (N := some 40) (v := ?_) (a' := ?_) #[true, true, true, true, false, true, true, true, true, false, false, false, false, false, false, false, false] rfl rfl (any_of HT_.out (by kernel_rfl)) (fun _ _ _ h => h) (Or.inl ⟨by rfl, ?_⟩) ?_ ?_
    rotate_left
    ·intro w'
     go_simp
     with_reducible rfl
    rotate_left
    ·simp only [Act.put, sp_, i64_w, i32_w]
     rfl
    refine take_ (i := 9) (N := some 41) (v := ?_) (a' := ?_) #[true, true, true, true, false, true, true, true, true, true, false, false, false, false, false, false, false] rfl rfl (take_ofW HT_.out HW_.out (by kernel_rfl)) (fun _ _ _ h => h) (Or.inl ⟨by rfl, ?_⟩) hHeld ?_ ?_
    rotate_left
    ·rintro w' ⟨s0, s1, s2, s3, s4, s5⟩
     go_simp
     with_reducible rfl
    rotate_left
    ·simp only [Act.put, sp_, i64_w, i32_w]
     rfl
    refine one_ (i := 4) (N := some 36) #[true, true, true, true, true, true, true, true, true, true, false, false, false, false, false, false, false] rfl rfl (one_of HT_.out (by kernel_rfl)) (by decide) (fun K hK => ?_)
    refine goes_ Tryd.func30 (by kernel_rfl) rfl #[.int .u64 (Go.bits .or .u64 t195 (ji8))] (by rfl) rfl rfl (by (try simp only [List.map_toArray, List.map_cons, List.map_nil]); first | done | (simp only [hji8]; rfl) | rfl | (simp only [List.length_drop, List.length_take]; rfl)) ?_
    with_reducible refine (nat_Of.calls k (Go.bits .or .u64 t195 (ji8)) t197 _ A9.out).mono ?_
    rintro e w28 ⟨v198, rfl, ho0, hb⟩
    refine ⟨_, rfl, ?_⟩
    have n0_ := A0_ (Kd.V_lower (Kd.V_mono (ok' := fun k_ => (w.heap.size ≤ k_) ∧ k_ ≠ gb187 ∧ k_ ≠ gb192 ∧ k_ ≠ gb196) ho0 (fun k_ hk_ => ⟨(Nat.le_trans (below_size (by repeat (first | (with_reducible first | exact qm_ HB.out | apply qA_ | apply qN_ | apply qD_ | refine below_set ?_ GE187.out | refine below_set ?_ GE192.out | refine below_set ?_ GE196.out) | exact HB.out))) hk_), (Kd.freshB (bm_ BK187.out) k_ hk_), (Kd.freshB (bm_ BK192.out) k_ hk_), (Kd.freshB (bm_ BK196.out) k_ hk_)⟩)) (below_size (by repeat (first | (with_reducible first | exact qm_ HB.out | apply qA_ | apply qN_ | apply qD_ | refine below_set ?_ GE187.out | refine below_set ?_ GE192.out | refine below_set ?_ GE196.out) | exact HB.out))))
    have n1_ := A0_ (blk_below (bm_ BK187.out) hb)
    have n2_ := A0_ (blk_below (bm_ BK192.out) hb)
    have n3_ := A0_ (blk_below (bm_ BK196.out) hb)
    have n4_ := A0_ (below_step (by repeat (first | (with_reducible first | exact qm_ HB.out | apply qA_ | apply qN_ | apply qD_ | refine below_set ?_ GE187.out | refine below_set ?_ GE192.out | refine below_set ?_ GE196.out) | exact HB.out)) hb)
    clear BK187 BK192 BK196 HB
    have HO199 := n0_
    have BK187 := n1_
    have BK192 := n2_
    have BK196 := n3_
    have HB := n4_
    clear n0_ n1_ n2_ n3_ n4_
    (try clear hb)
    (try clear ho0)
    refine hK.out _ _ ⟨bC_ BK196.out 0, bC_ BK196.out 1, bC_ BK196.out 2, bC_ BK192.out 0, bC_ BK192.out 1, bC_ BK192.out 2⟩ (fun hHeld => ?_)
    clear hK K
    refine norm_ (a' := ?_) ?_ ?_
    rotate_left
    ·show Act.put _ (some 36) _ = _
     simp only [Act.put, sp_, i64_w, i32_w]
     rfl
    refine one_ (i := 10) (N := some 42) #[true, true, true, true, true, true, true, true, true, true, true, false, false, false, false, false, false] rfl rfl (one_of HT_.out (by kernel_rfl)) (by decide) (fun K hK => ?_)
    refine goes_ Tryd.func31 (by kernel_rfl) rfl #[.agg #[.int .i64 t188, .int .i64 t189, .int .u64 t190]] (by rfl) rfl rfl (by (try simp only [List.map_toArray, List.map_cons, List.map_nil]); first | done | rfl | (simp only [List.length_drop, List.length_take]; rfl)) ?_
    with_reducible refine (word_shape_low.calls t188 t189 t190 t200 _ A11.out).mono ?_
    rintro e w29 ⟨rfl, hb⟩
    refine ⟨_, rfl, ?_⟩
    have n0_ := A0_ (Kd.V_below (by exact vm_ HO199.out) hb)
    have n1_ := A0_ (blk_below (bm_ BK187.out) hb)
    have n2_ := A0_ (blk_below (bm_ BK192.out) hb)
    have n3_ := A0_ (blk_below (bm_ BK196.out) hb)
    have n4_ := A0_ (below_step (by repeat (first | (with_reducible first | exact qm_ HB.out | apply qA_ | apply qN_ | apply qD_ | refine below_set ?_ GE187.out | refine below_set ?_ GE192.out | refine below_set ?_ GE196.out) | exact HB.out)) hb)
    clear HO199 BK187 BK192 BK196 HB
    have HO199 := n0_
    have BK187 := n1_
    have BK192 := n2_
    have BK196 := n3_
    have HB := n4_
    clear n0_ n1_ n2_ n3_ n4_
    (try clear hb)
    obtain ⟨Ao30, co30, eo30⟩ := Kd.V_slice HO199.out
    (first | subst eo30 | (injection eo30 with f1_ f2_ f3_; have f4_ := f1_.symm; have f5_ := f3_.symm; clear f1_ f2_ f3_; subst f4_; subst f5_))
    refine hK.out _ _ ⟨bC_ BK196.out 0, bC_ BK196.out 1, bC_ BK196.out 2, bC_ BK192.out 0, bC_ BK192.out 1, bC_ BK192.out 2⟩ (fun hHeld => ?_)
    clear hK K
    refine norm_ (a' := ?_) ?_ ?_
    rotate_left
    ·show Act.put _ (some 42) _ = _
     simp only [Act.put, sp_, i64_w, i32_w]
     rfl
    refine pure_ (i := 11) (N := some 43) (v := ?_) (a' := ?_) #[true, true, true, true, true, true, true, true, true, true, true, true, false, false, false, false, false] rfl rfl (any_of HT_.out (by kernel_rfl)) (fun _ _ _ h => h) (Or.inl ⟨by rfl, ?_⟩) ?_ ?_
    rotate_left
    ·intro w'
     go_simp
     with_reducible rfl
    rotate_left
    ·simp only [Act.put, sp_, i64_w, i32_w]
     rfl
    refine one_ (i := 12) (N := some 44) #[true, true, true, true, true, true, true, true, true, true, true, true, true, false, false, false, false] rfl rfl (one_of HT_.out (by kernel_rfl)) (by decide) (fun K hK => ?_)
    refine goes_ Tryd.func29 (by kernel_rfl) rfl #[.bool t193, .slice Ao30 t197.length co30, .int .i64 (wrap64 ((wrap64 ((ji10) - 1)) + t200))] (by rfl) rfl rfl (by (try simp only [List.map_toArray, List.map_cons, List.map_nil]); first | done | (simp only [hji10]; rfl) | rfl | (simp only [List.length_drop, List.length_take]; rfl)) ?_
    refine (dyad_Make.calls k t193 _ _ t197 (wrap64 ((wrap64 ((ji10) - 1)) + t200)) t201 t202 t205 t206 _ ?side1 ?side2 A12.out (A0_ (tabt_below HT.out (by repeat (first | (with_reducible first | exact qm_ HB.out | apply qA_ | apply qN_ | apply qD_ | refine below_set ?_ GE187.out | refine below_set ?_ GE192.out | refine below_set ?_ GE196.out) | exact HB.out))))).mono ?_
    (case side1 => repeat (first | exact (Kd.V_reads' HO199.out).2.2 | (with_reducible refine Kd.C_alloc ?_ _) | (with_reducible refine Kd.C_drewN ?_ _) | (with_reducible refine Kd.C_drew ?_)))
    (case side2 => exact (Kd.V_reads' HO199.out).2.1)
    rintro e w31 ⟨v203, rfl, ho0, hb⟩
    refine ⟨_, rfl, ?_⟩
    have n0_ := A0_ (Kd.V_below (by exact vm_ HO199.out) hb)
    have n1_ := A0_ (Kd.V_lower (Kd.V_mono (ok' := fun k_ => (w.heap.size ≤ k_) ∧ k_ ≠ gb187 ∧ k_ ≠ gb192 ∧ k_ ≠ gb196) ho0 (fun k_ hk_ => ⟨(Nat.le_trans (below_size (by repeat (first | (with_reducible first | exact qm_ HB.out | apply qA_ | apply qN_ | apply qD_ | refine below_set ?_ GE187.out | refine below_set ?_ GE192.out | refine below_set ?_ GE196.out) | exact HB.out))) hk_), (Kd.freshB (bm_ BK187.out) k_ hk_), (Kd.freshB (bm_ BK192.out) k_ hk_), (Kd.freshB (bm_ BK196.out) k_ hk_)⟩)) (below_size (by repeat (first | (with_reducible first | exact qm_ HB.out | apply qA_ | apply qN_ | apply qD_ | refine below_set ?_ GE187.out | refine below_set ?_ GE192.out | refine below_set ?_ GE196.out) | exact HB.out))))
    have n2_ := A0_ (blk_below (bm_ BK187.out) hb)
    have n3_ := A0_ (blk_below (bm_ BK192.out) hb)
    have n4_ := A0_ (blk_below (bm_ BK196.out) hb)
    have n5_ := A0_ (below_step (by repeat (first | (with_reducible first | exact qm_ HB.out | apply qA_ | apply qN_ | apply qD_ | refine below_set ?_ GE187.out | refine below_set ?_ GE192.out | refine below_set ?_ GE196.out) | exact HB.out)) hb)
    clear HO199 BK187 BK192 BK196 HB
    have HO199 := n0_
    have HO204 := n1_
    have BK187 := n2_
    have BK192 := n3_
    have BK196 := n4_
    have HB := n5_
    clear n0_ n1_ n2_ n3_ n4_ n5_
    (try clear hb)
    (try clear ho0)
    obtain ⟨Ao33, co33, eo33⟩ := Kd.V_slice HO204.out
    (first | subst eo33 | (injection eo33 with f1_ f2_ f3_; have f4_ := f1_.symm; have f5_ := f3_.symm; clear f1_ f2_ f3_; subst f4_; subst f5_))
    refine hK.out _ _ ⟨bC_ BK196.out 0, bC_ BK196.out 1, bC_ BK196.out 2, bC_ BK192.out 0, bC_ BK192.out 1, bC_ BK192.out 2⟩ (fun hHeld => ?_)
    clear hK K
    refine norm_ (a' := ?_) ?_ ?_
    rotate_left
    ·show Act.put _ (some 44) _ = _
     simp only [Act.put, sp_, i64_w, i32_w]
     rfl
    refine pure_ (i := 13) (N := some 45) (v := ?_) (a' := ?_) #[true, true, true, true, true, true, true, true, true, true, true, true, true, true, false, false, false] rfl rfl (any_of HT_.out (by kernel_rfl)) (fun _ _ _ h => h) (Or.inl ⟨by rfl, ?_⟩) ?_ ?_
    rotate_left
    ·intro w'
     go_simp
     with_reducible rfl
    rotate_left
    ·simp only [Act.put, sp_, i64_w, i32_w]
     rfl
    refine pure_ (i := 14) (N := some 46) (v := ?_) (a' := ?_) #[true, true, true, true, true, true, true, true, true, true, true, true, true, true, true, false, false] rfl rfl (any_of HT_.out (by kernel_rfl)) (fun _ _ _ h => h) (Or.inl ⟨by rfl, ?_⟩) ?_ ?_
    rotate_left
    ·intro w'
     go_simp
     with_reducible rfl
    rotate_left
    ·simp only [Act.put, sp_, i64_w, i32_w]
     rfl
    refine one_ (i := 15) (N := none) #[true, true, true, true, true, true, true, true, true, true, true, true, true, true, true, true, false] rfl rfl (one_of HT_.out (by kernel_rfl)) (by decide) (fun K hK => ?_)
    have hs32 : w31.cell? ⟨gb187, 0, none⟩ = some (.bool false) := (blk_cell BK187.out 0).trans rfl
    have hfs32 := blk_frozen BK187.out 0
    have hns32_1 := NB192_187.out
    have hns32_2 := NB196_187.out
    have hms32_1 := NB187_192.out
    have hms32_2 := NB187_196.out
    have hs34 : w31.cell? ⟨gb187, 1, none⟩ = some (.slice none 0 0) := (blk_cell BK187.out 1).trans rfl
    have hfs34 := blk_frozen BK187.out 1
    have hns34_1 := NB192_187.out
    have hns34_2 := NB196_187.out
    have hms34_1 := NB187_192.out
    have hms34_2 := NB187_196.out
    have hs35 : w31.cell? ⟨gb187, 2, none⟩ = some (.int .i64 0) := (blk_cell BK187.out 2).trans rfl
    have hfs35 := blk_frozen BK187.out 2
    have hns35_1 := NB192_187.out
    have hns35_2 := NB196_187.out
    have hms35_1 := NB187_192.out
    have hms35_2 := NB187_196.out
    refine skip_ (w1 := ?_) (by rfl) rfl ?_ ?_
    rotate_left
    ·go_simp
     rfl
    refine hK.out _ _ ⟨((cell_far (p := ⟨gb187, _, none⟩) NB196_187.out _).trans (((cell_far (p := ⟨gb187, _, none⟩) NB196_187.out _).trans (((cell_far (p := ⟨gb187, _, none⟩) NB196_187.out _).trans (hHeld.1)))))), ((cell_far (p := ⟨gb187, _, none⟩) NB196_187.out _).trans (((cell_far (p := ⟨gb187, _, none⟩) NB196_187.out _).trans (((cell_far (p := ⟨gb187, _, none⟩) NB196_187.out _).trans (hHeld.2.1)))))), ((cell_far (p := ⟨gb187, _, none⟩) NB196_187.out _).trans (((cell_far (p := ⟨gb187, _, none⟩) NB196_187.out _).trans (((cell_far (p := ⟨gb187, _, none⟩) NB196_187.out _).trans (hHeld.2.2.1)))))), ((cell_far (p := ⟨gb187, _, none⟩) NB192_187.out _).trans (((cell_far (p := ⟨gb187, _, none⟩) NB192_187.out _).trans (((cell_far (p := ⟨gb187, _, none⟩) NB192_187.out _).trans (hHeld.2.2.2.1)))))), ((cell_far (p := ⟨gb187, _, none⟩) NB192_187.out _).trans (((cell_far (p := ⟨gb187, _, none⟩) NB192_187.out _).trans (((cell_far (p := ⟨gb187, _, none⟩) NB192_187.out _).trans (hHeld.2.2.2.2.1)))))), ((cell_far (p := ⟨gb187, _, none⟩) NB192_187.out _).trans (((cell_far (p := ⟨gb187, _, none⟩) NB192_187.out _).trans (((cell_far (p := ⟨gb187, _, none⟩) NB192_187.out _).trans (hHeld.2.2.2.2.2))))))⟩ (fun hHeld => ?_)
    clear hK K
    refine pure_ (i := 16) (N := some 5) (v := ?_) (a' := ?_) #[true, true, true, true, true, true, true, true, true, true, true, true, true, true, true, true, true] rfl rfl (any_of HT_.out (by kernel_rfl)) (fun _ _ _ h => h) (Or.inl ⟨by rfl, ?_⟩) ?_ ?_
    rotate_left
    ·intro w'
     go_simp
     with_reducible rfl
    rotate_left
    ·simp only [Act.put, sp_, i64_w, i32_w]
     rfl
    refine done_ (done_of HT_.out (by kernel_rfl)) ?_
    try go_wp2
    refine bodyPost_ret (results_ct rfl _ _ gb187 26 #[.bool t201, .slice Ao33 t202.length co33, .int .i64 t205] (0, 0) _ rfl (by (with_reducible repeat first | apply bN_ | apply bD_ | apply bA_); refine blk_put (cs := #[.bool t201, .slice Ao33 t202.length co33, .int .i64 0]) ?_ 2 _ rfl; (with_reducible repeat first | apply bN_ | apply bD_ | apply bA_); refine blk_put (cs := #[.bool t201, .slice none 0 0, .int .i64 0]) ?_ 1 _ rfl; (with_reducible repeat first | apply bN_ | apply bD_ | apply bA_); refine blk_put (cs := #[.bool false, .slice none 0 0, .int .i64 0]) ?_ 0 _ rfl; (with_reducible repeat first | apply bN_ | apply bD_ | apply bA_); exact BK187.out) Tryd.underlying26 rfl (by kernel_rfl)) rfl ?_
    exact ⟨_, by first | rfl | (simp [errW_none, errW_some] <;> rfl) | (simp only [← hji8, ← hji10]; first | rfl | (simp [errW_none, errW_some] <;> rfl)) | (simp [*, errW_none, errW_some] <;> rfl), by (with_reducible repeat (first | apply Kd.V_alloc | apply Kd.V_drewN | apply Kd.V_drew)); exact Kd.V_mono (Kd.V_far (p := ⟨gb187, 2, none⟩) (Kd.V_far (p := ⟨gb187, 1, none⟩) (Kd.V_far (p := ⟨gb187, 0, none⟩) (Kd.V_mono HO204.out (fun k_ hk => (⟨hk, hk.2.1⟩ : _ ∧ k_ ≠ gb187))) (fun _ hk => hk.2) (.bool t201)) (fun _ hk => hk.2) (.slice Ao33 t202.length co33)) (fun _ hk => hk.2) (.int .i64 t205)) (fun _ hk => hk.1.1), by repeat (first | (with_reducible first | exact qm_ HB.out | apply qA_ | apply qN_ | apply qD_ | refine below_set ?_ GE187.out | refine below_set ?_ GE192.out | refine below_set ?_ GE196.out) | exact HB.out)⟩
   ·rw [if_neg c7] at H
    exact absurd H (by simp)
  ·rw [if_neg c6] at H
   have c6b0 : decide (0 < t194) = false := decide_eq_false c6
   clear c6
   replace H := Option.bind_eq_some_iff.mp H
   obtain ⟨t207, A360, H⟩ := H
   replace H : ((word_shape_low.f t188 t189 t190).bind fun t210 => ((dyad_Make.f k t193 t207 (wrap64 ((wrap64 ((mx t194 1) - 1)) + t210))).bind fun bt211 => (some (bt211.1, bt211.2.1, bt211.2.2.1, bt211.2.2.2)))) = some (r1, r2, r3, r4) := H
   have A36 := A0_ A360
   clear A360
   obtain ⟨ji37, hji37⟩ : ∃ j_ : Int, (mx t194 1) = j_ := ⟨_, rfl⟩
   replace H : ((word_shape_low.f t188 t189 t190).bind fun t210 => ((dyad_Make.f k t193 t207 (wrap64 ((wrap64 ((ji37) - 1)) + t210))).bind fun bt211 => (some (bt211.1, bt211.2.1, bt211.2.2.1, bt211.2.2.2)))) = some (r1, r2, r3, r4) := by first | (rw [hji37] at H; exact H) | (simp only [hji37] at H ⊢; exact H)
   (try rw [hji37] at A3)
   (try rw [hji37] at A5)
   (try rw [hji37] at A36)
   (try (have hji37l : 1 ≤ ji37 := by (rw [← hji37]; unfold mx; (repeat' split) <;> omega)))
   (try (have hji37m : 0 ≤ ji37 := by omega))
   have hji37_ : (if t194 < 1 then 1 else t194) = ji37 := hji37
   replace H := Option.bind_eq_some_iff.mp H
   obtain ⟨t210, A380, H⟩ := H
   replace H : ((dyad_Make.f k t193 t207 (wrap64 ((wrap64 ((ji37) - 1)) + t210))).bind fun bt211 => (some (bt211.1, bt211.2.1, bt211.2.2.1, bt211.2.2.2))) = some (r1, r2, r3, r4) := H
   have A38 := A0_ A380
   clear A380
   replace H := Option.bind_eq_some_iff.mp H
   obtain ⟨⟨t211, t212, t215, t216⟩, A390, H⟩ := H
   replace H : (some (t211, t212, t215, t216)) = some (r1, r2, r3, r4) := H
   have A39 := A0_ A390
   clear A390
   simp only [Option.some.injEq, Prod.mk.injEq] at H
   obtain ⟨rfl, rfl, rfl, rfl⟩ := H
   go_enter Tryd.func6, Tryd.ntmps6
   try go_wp2_with (first | ((with_reducible refine gate_dst (N := 4) rfl ?_); refine box_event ?hg (N := 4) ?hd (cs := #[.bool false, .slice none 0 0, .int .i64 0]) (t := 26) ?hr ?_; (case hd => rfl); (case hg => rfl); (case hr => first | (go_simp; done) | (go_simp; rfl)); intro gb187 hg w40 hbox hb; have n0_ := A0_ (below_step (qm_ HB.out) hb); have n1_ := A0_ (hbox); have n2_ := A0_ ((by rw [hg]; exact (below_size (qm_ HB.out)) : w.heap.size ≤ gb187)); have n3_ := A0_ ((by rw [hg]; exact (below_size (qm_ HB.out)) : w.heap.size ≤ gb187)); clear HB; have HB := n0_; have BK187 := n1_; have GW187 := n2_; have GE187 := n3_; clear n0_ n1_ n2_ n3_ hb hbox hg) | ((with_reducible refine gate_callee (f := 27) rfl ?_); refine goesL_ (some 12) rfl rfl Tryd.func27 (by kernel_rfl) rfl #[.int .u8 a0, .int .u64 a1] rfl (by (try simp only [List.map_toArray, List.map_cons, List.map_nil]); first | done | rfl | (simp only [List.length_drop, List.length_take]; rfl)) ?_; (with_reducible refine (word_finite.calls k a0 a1 t188 t189 t190 t191 _ A3.out).mono ?_); rintro e w41 ⟨rfl, hb⟩; refine ⟨_, rfl, ?_⟩; have n0_ := A0_ (blk_below (bm_ BK187.out) hb); have n1_ := A0_ (below_step (by repeat (first | (with_reducible first | exact qm_ HB.out | apply qA_ | apply qN_ | apply qD_ | refine below_set ?_ GE187.out) | exact HB.out)) hb); clear BK187 HB; have BK187 := n0_; have HB := n1_; clear n0_ n1_; (try clear hb)) | ((with_reducible refine gate_dst (N := 6) rfl ?_); refine box_event ?hg (N := 6) ?hd (cs := #[.int .i64 0, .int .i64 0, .int .u64 0]) (t := 55) ?hr ?_; (case hd => rfl); (case hg => rfl); (case hr => first | (go_simp; done) | (go_simp; rfl)); intro gb192 hg w42 hbox hb; have n0_ := A0_ (blk_below (bm_ BK187.out) hb); have n1_ := A0_ (below_step (by repeat (first | (with_reducible first | exact qm_ HB.out | apply qA_ | apply qN_ | apply qD_ | refine below_set ?_ GE187.out) | exact HB.out)) hb); have n2_ := A0_ (hbox); have n3_ := A0_ ((by rw [hg]; exact (below_size (by repeat (first | (with_reducible first | exact qm_ HB.out | apply qA_ | apply qN_ | apply qD_ | refine below_set ?_ GE187.out) | exact HB.out))) : w.heap.size ≤ gb192)); have n4_ := A0_ ((by rw [hg]; exact (below_size (by repeat (first | (with_reducible first | exact qm_ HB.out | apply qA_ | apply qN_ | apply qD_ | refine below_set ?_ GE187.out) | exact HB.out))) : w.heap.size ≤ gb192)); have n5_ := A0_ ((by rw [hg]; exact Nat.ne_of_lt (blk_lt (bm_ BK187.out)) : gb187 ≠ gb192)); have n6_ := A0_ ((by rw [hg]; exact Nat.ne_of_gt (blk_lt (bm_ BK187.out)) : gb192 ≠ gb187)); clear BK187 HB; have BK187 := n0_; have HB := n1_; have BK192 := n2_; have GW192 := n3_; have GE192 := n4_; have NB187_192 := n5_; have NB192_187 := n6_; clear n0_ n1_ n2_ n3_ n4_ n5_ n6_ hb hbox hg; have hnb43 := NB192_187.out; have hnc43 := NB187_192.out; have hcz44 := bc3_ BK192.out; have hfz44 := bf3_ BK192.out) | ((with_reducible refine gate_callee (f := 28) rfl ?_); refine goesL_ (some 21) rfl rfl Tryd.func28 (by kernel_rfl) rfl #[.agg #[.int .i64 t188, .int .i64 t189, .int .u64 t190], .int .u64 a1] rfl (by (try simp only [List.map_toArray, List.map_cons, List.map_nil]); first | done | rfl | (simp only [List.length_drop, List.length_take]; rfl)) ?_; (with_reducible refine (word_shape_split.calls t188 t189 t190 a1 t193 t194 t195 _ A5.out).mono ?_); rintro e w45 ⟨rfl, hb⟩; refine ⟨_, rfl, ?_⟩; have n0_ := A0_ (blk_below (g := gb187) (o := .cells #[.bool false, .slice none 0 0, .int .i64 0] 26 (0, 0)) (by (with_reducible repeat first | apply bN_ | apply bD_ | apply bA_); refine blk_far ?_ NB187_192.out _; (with_reducible repeat first | apply bN_ | apply bD_ | apply bA_); refine blk_far ?_ NB187_192.out _; (with_reducible repeat first | apply bN_ | apply bD_ | apply bA_); refine blk_far ?_ NB187_192.out _; (with_reducible repeat first | apply bN_ | apply bD_ | apply bA_); exact BK187.out) hb); have n1_ := A0_ (blk_below (g := gb192) (o := .cells #[.int .i64 t188, .int .i64 t189, .int .u64 t190] 55 (0, 0)) (by (with_reducible repeat first | apply bN_ | apply bD_ | apply bA_); refine blk_put (cs := #[.int .i64 t188, .int .i64 t189, .int .u64 0]) ?_ 2 _ rfl; (with_reducible repeat first | apply bN_ | apply bD_ | apply bA_); refine blk_put (cs := #[.int .i64 t188, .int .i64 0, .int .u64 0]) ?_ 1 _ rfl; (with_reducible repeat first | apply bN_ | apply bD_ | apply bA_); refine blk_put (cs := #[.int .i64 0, .int .i64 0, .int .u64 0]) ?_ 0 _ rfl; (with_reducible repeat first | apply bN_ | apply bD_ | apply bA_); exact BK192.out) hb); have n2_ := A0_ (below_step (by repeat (first | (with_reducible first | exact qm_ HB.out | apply qA_ | apply qN_ | apply qD_ | refine below_set ?_ GE187.out | refine below_set ?_ GE192.out) | exact HB.out)) hb); clear BK187 BK192 HB; have BK187 := n0_; have BK192 := n1_; have HB := n2_; clear n0_ n1_ n2_; (try clear hb)) | ((with_reducible refine gate_dst (N := 8) rfl ?_); refine box_event ?hg (N := 8) ?hd (cs := #[.bool false, .int .i64 0, .int .u64 0]) (t := 48) ?hr ?_; (case hd => rfl); (case hg => rfl); (case hr => first | (go_simp; done) | (go_simp; rfl)); intro gb196 hg w46 hbox hb; have n0_ := A0_ (blk_below (bm_ BK187.out) hb); have n1_ := A0_ (blk_below (bm_ BK192.out) hb); have n2_ := A0_ (below_step (by repeat (first | (with_reducible first | exact qm_ HB.out | apply qA_ | apply qN_ | apply qD_ | refine below_set ?_ GE187.out | refine below_set ?_ GE192.out) | exact HB.out)) hb); have n3_ := A0_ (hbox); have n4_ := A0_ ((by rw [hg]; exact (below_size (by repeat (first | (with_reducible first | exact qm_ HB.out | apply qA_ | apply qN_ | apply qD_ | refine below_set ?_ GE187.out | refine below_set ?_ GE192.out) | exact HB.out))) : w.heap.size ≤ gb196)); have n5_ := A0_ ((by rw [hg]; exact (below_size (by repeat (first | (with_reducible first | exact qm_ HB.out | apply qA_ | apply qN_ | apply qD_ | refine below_set ?_ GE187.out | refine below_set ?_ GE192.out) | exact HB.out))) : w.heap.size ≤ gb196)); have n6_ := A0_ ((by rw [hg]; exact Nat.ne_of_lt (blk_lt (bm_ BK187.out)) : gb187 ≠ gb196)); have n7_ := A0_ ((by rw [hg]; exact Nat.ne_of_gt (blk_lt (bm_ BK187.out)) : gb196 ≠ gb187)); have n8_ := A0_ ((by rw [hg]; exact Nat.ne_of_lt (blk_lt (bm_ BK192.out)) : gb192 ≠ gb196)); have n9_ := A0_ ((by rw [hg]; exact Nat.ne_of_gt (blk_lt (bm_ BK192.out)) : gb196 ≠ gb192)); clear BK187 BK192 HB; have BK187 := n0_; have BK192 := n1_; have HB := n2_; have BK196 := n3_; have GW196 := n4_; have GE196 := n5_; have NB187_196 := n6_; have NB196_187 := n7_; have NB192_196 := n8_; have NB196_192 := n9_; clear n0_ n1_ n2_ n3_ n4_ n5_ n6_ n7_ n8_ n9_ hb hbox hg; have hnb47 := NB196_187.out; have hnc47 := NB187_196.out; have hnb48 := NB196_192.out; have hnc48 := NB192_196.out; have hcz49 := bc3_ BK196.out; have hfz49 := bf3_ BK196.out))
   have n0_ : Aside0 ((((w46.setCell ⟨gb196, 0, none⟩ (.bool t193)).setCell ⟨gb196, 1, none⟩ (.int .i64 t194)).setCell ⟨gb196, 2, none⟩ (.int .u64 t195)).heap[gb187]? = some (.cells #[.bool false, .slice none 0 0, .int .i64 0] 26 (0, 0))) := ⟨by (with_reducible repeat first | apply bN_ | apply bD_ | apply bA_); refine blk_far ?_ NB187_196.out _; (with_reducible repeat first | apply bN_ | apply bD_ | apply bA_); refine blk_far ?_ NB187_196.out _; (with_reducible repeat first | apply bN_ | apply bD_ | apply bA_); refine blk_far ?_ NB187_196.out _; (with_reducible repeat first | apply bN_ | apply bD_ | apply bA_); exact BK187.out⟩
   have n1_ : Aside0 ((((w46.setCell ⟨gb196, 0, none⟩ (.bool t193)).setCell ⟨gb196, 1, none⟩ (.int .i64 t194)).setCell ⟨gb196, 2, none⟩ (.int .u64 t195)).heap[gb192]? = some (.cells #[.int .i64 t188, .int .i64 t189, .int .u64 t190] 55 (0, 0))) := ⟨by (with_reducible repeat first | apply bN_ | apply bD_ | apply bA_); refine blk_far ?_ NB192_196.out _; (with_reducible repeat first | apply bN_ | apply bD_ | apply bA_); refine blk_far ?_ NB192_196.out _; (with_reducible repeat first | apply bN_ | apply bD_ | apply bA_); refine blk_far ?_ NB192_196.out _; (with_reducible repeat first | apply bN_ | apply bD_ | apply bA_); exact BK192.out⟩
   have n2_ : Aside0 ((((w46.setCell ⟨gb196, 0, none⟩ (.bool t193)).setCell ⟨gb196, 1, none⟩ (.int .i64 t194)).setCell ⟨gb196, 2, none⟩ (.int .u64 t195)).heap[gb196]? = some (.cells #[.bool t193, .int .i64 t194, .int .u64 t195] 48 (0, 0))) := ⟨by (with_reducible repeat first | apply bN_ | apply bD_ | apply bA_); refine blk_put (cs := #[.bool t193, .int .i64 t194, .int .u64 0]) ?_ 2 _ rfl; (with_reducible repeat first | apply bN_ | apply bD_ | apply bA_); refine blk_put (cs := #[.bool t193, .int .i64 0, .int .u64 0]) ?_ 1 _ rfl; (with_reducible repeat first | apply bN_ | apply bD_ | apply bA_); refine blk_put (cs := #[.bool false, .int .i64 0, .int .u64 0]) ?_ 0 _ rfl; (with_reducible repeat first | apply bN_ | apply bD_ | apply bA_); exact BK196.out⟩
   have n3_ : Aside0 (Below w.heap.size w (((w46.setCell ⟨gb196, 0, none⟩ (.bool t193)).setCell ⟨gb196, 1, none⟩ (.int .i64 t194)).setCell ⟨gb196, 2, none⟩ (.int .u64 t195))) := ⟨by repeat (first | (with_reducible first | exact qm_ HB.out | apply qA_ | apply qN_ | apply qD_ | refine below_set ?_ GE187.out | refine below_set ?_ GE192.out | refine below_set ?_ GE196.out) | exact HB.out)⟩
   (try clear BK187)
   (try clear BK192)
   (try clear BK196)
   (try clear HB)
   generalize (((w46.setCell ⟨gb196, 0, none⟩ (.bool t193)).setCell ⟨gb196, 1, none⟩ (.int .i64 t194)).setCell ⟨gb196, 2, none⟩ (.int .u64 t195)) = w50 at n0_ n1_ n2_ n3_ ⊢
   have BK187 := n0_
   have BK192 := n1_
   have BK196 := n2_
   have HB := n3_
   clear n0_ n1_ n2_ n3_
   have n0_ := A0_ (blk_drew BK187.out)
   have n1_ := A0_ (blk_drew BK192.out)
   have n2_ := A0_ (blk_drew BK196.out)
   have n3_ := A0_ (below_drew1 HB.out)
   clear BK187 BK192 BK196 HB
   have BK187 := n0_
   have BK192 := n1_
   have BK196 := n2_
   have HB := n3_
   clear n0_ n1_ n2_ n3_
   refine start_ (n := 17) (S := fun w' => w'.cell? ⟨gb196, 0, none⟩ = some (.bool t193) ∧ w'.cell? ⟨gb196, 1, none⟩ = some (.int .i64 t194) ∧ w'.cell? ⟨gb196, 2, none⟩ = some (.int .u64 t195) ∧ w'.cell? ⟨gb192, 0, none⟩ = some (.int .i64 t188) ∧ w'.cell? ⟨gb192, 1, none⟩ = some (.int .i64 t189) ∧ w'.cell? ⟨gb192, 2, none⟩ = some (.int .u64 t190)) (ds := []) #[false, false, false, false, false, false, false, false, false, false, false, false, false, false, false, false, false] (by kernel_rfl) rfl rfl ⟨bC_ BK196.out 0, bC_ BK196.out 1, bC_ BK196.out 2, bC_ BK192.out 0, bC_ BK192.out 1, bC_ BK192.out 2⟩ (fun hHeld => ?_); refine with_tabW word_Value.tab7 word_Value.bits7 (fun HT_ HW_ => ?_)
   generalize w50.drew = w51 at BK187 BK192 BK196 HB hHeld ⊢
   refine pure_ (i := 0) (N := some 32) (v := ?_) (a' := ?_) #[true, false, false, false, false, false, false, false, false, false, false, false, false, false, false, false, false] rfl rfl (any_of HT_.out (by kernel_rfl)) (fun _ _ _ h => h) (Or.inl ⟨by rfl, ?_⟩) ?_ ?_
   rotate_left
   ·intro w'
    go_simp
    with_reducible rfl
   rotate_left
   ·simp only [Act.put, sp_, i64_w, i32_w]
    rfl
   refine pure_ (i := 2) (N := some 34) (v := ?_) (a' := ?_) #[true, false, true, false, false, false, false, false, false, false, false, false, false, false, false, false, false] rfl rfl (any_of HT_.out (by kernel_rfl)) (fun _ _ _ h => h) (Or.inl ⟨by rfl, ?_⟩) ?_ ?_
   rotate_left
   ·intro w'
    go_simp
    with_reducible rfl
   rotate_left
   ·simp only [Act.put, sp_, i64_w, i32_w]
    rfl
   refine pure_ (i := 5) (N := some 37) (v := ?_) (a' := ?_) #[true, false, true, false, false, true, false, false, false, false, false, false, false, false, false, false, false] rfl rfl (any_of HT_.out (by kernel_rfl)) (fun _ _ _ h => h) (Or.inl ⟨by rfl, ?_⟩) ?_ ?_
   rotate_left
   ·intro w'
    go_simp
    with_reducible rfl
   rotate_left
   ·simp only [Act.put, sp_, i64_w, i32_w]
    rfl
   refine take_ (i := 1) (N := some 33) (v := ?_) (a' := ?_) #[true, true, true, false, false, true, false, false, false, false, false, false, false, false, false, false, false] rfl rfl (take_ofW HT_.out HW_.out (by kernel_rfl)) (fun _ _ _ h => h) (Or.inl ⟨by rfl, ?_⟩) hHeld ?_ ?_
   rotate_left
   ·rintro w' ⟨s0, s1, s2, s3, s4, s5⟩
    go_simp
    with_reducible rfl
   rotate_left
   ·simp only [Act.put, sp_, i64_w, i32_w]
    rfl
   refine take_ (i := 3) (N := some 35) (v := ?_) (a' := ?_) #[true, true, true, true, false, true, false, false, false, false, false, false, false, false, false, false, false] rfl rfl (take_ofW HT_.out HW_.out (by kernel_rfl)) (fun _ _ _ h => h) (Or.inl ⟨by rfl, ?_⟩) hHeld ?_ ?_
   rotate_left
   ·rintro w' ⟨s0, s1, s2, s3, s4, s5⟩
    go_simp
    with_reducible rfl
   rotate_left
   ·simp only [Act.put, sp_, i64_w, i32_w]
    rfl
   refine take_ (i := 6) (N := some 38) (v := ?_) (a' := ?_) #[true, true, true, true, false, true, true, false, false, false, false, false, false, false, false, false, false] rfl rfl (take_ofW HT_.out HW_.out (by kernel_rfl)) (fun _ _ _ h => h) (Or.inl ⟨by rfl, ?_⟩) hHeld ?_ ?_
   rotate_left
   ·rintro w' ⟨s0, s1, s2, s3, s4, s5⟩
    go_simp
    with_reducible rfl
   rotate_left
   ·simp only [Act.put, sp_, i64_w, i32_w]
    rfl
   refine pure_ (i := 7) (N := some 39) (v := ?_) (a' := ?_) #[true, true, true, true, false, true, true, true, false, false, false, false, false, false, false, false, false] rfl rfl (any_of HT_.out (by kernel_rfl)) (fun _ _ _ h => h) (Or.inl ⟨by rfl, ?_⟩) ?_ ?_
   rotate_left
   ·intro w'
    go_simp
    with_reducible rfl
   rotate_left
   ·simp only [Act.put, sp_, i64_w, i32_w]
    rfl
   refine pure_ (i := 8) (N := some 40) (v := ?_) (a' := ?_) #[true, true, true, true, false, true, true, true, true, false, false, false, false, false, false, false, false] rfl rfl (any_of HT_.out (by kernel_rfl)) (fun _ _ _ h => h) (Or.inl ⟨by rfl, ?_⟩) ?_ ?_
   rotate_left
   ·intro w'
    go_simp
    with_reducible rfl
   rotate_left
   ·simp only [Act.put, sp_, i64_w, i32_w]
    rfl
   refine take_ (i := 9) (N := some 41) (v := ?_) (a' := ?_) #[true, true, true, true, false, true, true, true, true, true, false, false, false, false, false, false, false] rfl rfl (take_ofW HT_.out HW_.out (by kernel_rfl)) (fun _ _ _ h => h) (Or.inl ⟨by rfl, ?_⟩) hHeld ?_ ?_
   rotate_left
   ·rintro w' ⟨s0, s1, s2, s3, s4, s5⟩
    go_simp
    with_reducible rfl
   rotate_left
   ·simp only [Act.put, sp_, i64_w, i32_w]
    rfl
   refine one_ (i := 4) (N := some 36) #[true, true, true, true, true, true, true, true, true, true, false, false, false, false, false, false, false] rfl rfl (one_of HT_.out (by kernel_rfl)) (by decide) (fun K hK => ?_)
   refine goes_ Tryd.func30 (by kernel_rfl) rfl #[.int .u64 t195] (by rfl) rfl rfl (by (try simp only [List.map_toArray, List.map_cons, List.map_nil]); first | done | rfl | (simp only [List.length_drop, List.length_take]; rfl)) ?_
   with_reducible refine (nat_Of.calls k t195 t207 _ A36.out).mono ?_
   rintro e w52 ⟨v208, rfl, ho0, hb⟩
   refine ⟨_, rfl, ?_⟩
   have n0_ := A0_ (Kd.V_lower (Kd.V_mono (ok' := fun k_ => (w.heap.size ≤ k_) ∧ k_ ≠ gb187 ∧ k_ ≠ gb192 ∧ k_ ≠ gb196) ho0 (fun k_ hk_ => ⟨(Nat.le_trans (below_size (by repeat (first | (with_reducible first | exact qm_ HB.out | apply qA_ | apply qN_ | apply qD_ | refine below_set ?_ GE187.out | refine below_set ?_ GE192.out | refine below_set ?_ GE196.out) | exact HB.out))) hk_), (Kd.freshB (bm_ BK187.out) k_ hk_), (Kd.freshB (bm_ BK192.out) k_ hk_), (Kd.freshB (bm_ BK196.out) k_ hk_)⟩)) (below_size (by repeat (first | (with_reducible first | exact qm_ HB.out | apply qA_ | apply qN_ | apply qD_ | refine below_set ?_ GE187.out | refine below_set ?_ GE192.out | refine below_set ?_ GE196.out) | exact HB.out))))
   have n1_ := A0_ (blk_below (bm_ BK187.out) hb)
   have n2_ := A0_ (blk_below (bm_ BK192.out) hb)
   have n3_ := A0_ (blk_below (bm_ BK196.out) hb)
   have n4_ := A0_ (below_step (by repeat (first | (with_reducible first | exact qm_ HB.out | apply qA_ | apply qN_ | apply qD_ | refine below_set ?_ GE187.out | refine below_set ?_ GE192.out | refine below_set ?_ GE196.out) | exact HB.out)) hb)
   clear BK187 BK192 BK196 HB
   have HO209 := n0_
   have BK187 := n1_
   have BK192 := n2_
   have BK196 := n3_
   have HB := n4_
   clear n0_ n1_ n2_ n3_ n4_
   (try clear hb)
   (try clear ho0)
   refine hK.out _ _ ⟨bC_ BK196.out 0, bC_ BK196.out 1, bC_ BK196.out 2, bC_ BK192.out 0, bC_ BK192.out 1, bC_ BK192.out 2⟩ (fun hHeld => ?_)
   clear hK K
   refine norm_ (a' := ?_) ?_ ?_
   rotate_left
   ·show Act.put _ (some 36) _ = _
    simp only [Act.put, sp_, i64_w, i32_w]
    rfl
   refine one_ (i := 10) (N := some 42) #[true, true, true, true, true, true, true, true, true, true, true, false, false, false, false, false, false] rfl rfl (one_of HT_.out (by kernel_rfl)) (by decide) (fun K hK => ?_)
   refine goes_ Tryd.func31 (by kernel_rfl) rfl #[.agg #[.int .i64 t188, .int .i64 t189, .int .u64 t190]] (by rfl) rfl rfl (by (try simp only [List.map_toArray, List.map_cons, List.map_nil]); first | done | rfl | (simp only [List.length_drop, List.length_take]; rfl)) ?_
   with_reducible refine (word_shape_low.calls t188 t189 t190 t210 _ A38.out).mono ?_
   rintro e w53 ⟨rfl, hb⟩
   refine ⟨_, rfl, ?_⟩
   have n0_ := A0_ (Kd.V_below (by exact vm_ HO209.out) hb)
   have n1_ := A0_ (blk_below (bm_ BK187.out) hb)
   have n2_ := A0_ (blk_below (bm_ BK192.out) hb)
   have n3_ := A0_ (blk_below (bm_ BK196.out) hb)
   have n4_ := A0_ (below_step (by repeat (first | (with_reducible first | exact qm_ HB.out | apply qA_ | apply qN_ | apply qD_ | refine below_set ?_ GE187.out | refine below_set ?_ GE192.out | refine below_set ?_ GE196.out) | exact HB.out)) hb)
   clear HO209 BK187 BK192 BK196 HB
   have HO209 := n0_
   have BK187 := n1_
   have BK192 := n2_
   have BK196 := n3_
   have HB := n4_
   clear n0_ n1_ n2_ n3_ n4_
   (try clear hb)
   obtain ⟨Ao54, co54, eo54⟩ := Kd.V_slice HO209.out
   (first | subst eo54 | (injection eo54 with f1_ f2_ f3_; have f4_ := f1_.symm; have f5_ := f3_.symm; clear f1_ f2_ f3_; subst f4_; subst f5_))
   refine hK.out _ _ ⟨bC_ BK196.out 0, bC_ BK196.out 1, bC_ BK196.out 2, bC_ BK192.out 0, bC_ BK192.out 1, bC_ BK192.out 2⟩ (fun hHeld => ?_)
   clear hK K
   refine norm_ (a' := ?_) ?_ ?_
   rotate_left
   ·show Act.put _ (some 42) _ = _
    simp only [Act.put, sp_, i64_w, i32_w]
    rfl
   refine pure_ (i := 11) (N := some 43) (v := ?_) (a' := ?_) #[true, true, true, true, true, true, true, true, true, true, true, true, false, false, false, false, false] rfl rfl (any_of HT_.out (by kernel_rfl)) (fun _ _ _ h => h) (Or.inl ⟨by rfl, ?_⟩) ?_ ?_
   rotate_left
   ·intro w'
    go_simp
    with_reducible rfl
   rotate_left
   ·simp only [Act.put, sp_, i64_w, i32_w]
    rfl
   refine one_ (i := 12) (N := some 44) #[true, true, true, true, true, true, true, true, true, true, true, true, true, false, false, false, false] rfl rfl (one_of HT_.out (by kernel_rfl)) (by decide) (fun K hK => ?_)
   refine goes_ Tryd.func29 (by kernel_rfl) rfl #[.bool t193, .slice Ao54 t207.length co54, .int .i64 (wrap64 ((wrap64 ((ji37) - 1)) + t210))] (by rfl) rfl rfl (by (try simp only [List.map_toArray, List.map_cons, List.map_nil]); first | done | (simp only [hji37]; rfl) | rfl | (simp only [List.length_drop, List.length_take]; rfl)) ?_
   refine (dyad_Make.calls k t193 _ _ t207 (wrap64 ((wrap64 ((ji37) - 1)) + t210)) t211 t212 t215 t216 _ ?side1 ?side2 A39.out (A0_ (tabt_below HT.out (by repeat (first | (with_reducible first | exact qm_ HB.out | apply qA_ | apply qN_ | apply qD_ | refine below_set ?_ GE187.out | refine below_set ?_ GE192.out | refine below_set ?_ GE196.out) | exact HB.out))))).mono ?_
   (case side1 => repeat (first | exact (Kd.V_reads' HO209.out).2.2 | (with_reducible refine Kd.C_alloc ?_ _) | (with_reducible refine Kd.C_drewN ?_ _) | (with_reducible refine Kd.C_drew ?_)))
   (case side2 => exact (Kd.V_reads' HO209.out).2.1)
   rintro e w55 ⟨v213, rfl, ho0, hb⟩
   refine ⟨_, rfl, ?_⟩
   have n0_ := A0_ (Kd.V_below (by exact vm_ HO209.out) hb)
   have n1_ := A0_ (Kd.V_lower (Kd.V_mono (ok' := fun k_ => (w.heap.size ≤ k_) ∧ k_ ≠ gb187 ∧ k_ ≠ gb192 ∧ k_ ≠ gb196) ho0 (fun k_ hk_ => ⟨(Nat.le_trans (below_size (by repeat (first | (with_reducible first | exact qm_ HB.out | apply qA_ | apply qN_ | apply qD_ | refine below_set ?_ GE187.out | refine below_set ?_ GE192.out | refine below_set ?_ GE196.out) | exact HB.out))) hk_), (Kd.freshB (bm_ BK187.out) k_ hk_), (Kd.freshB (bm_ BK192.out) k_ hk_), (Kd.freshB (bm_ BK196.out) k_ hk_)⟩)) (below_size (by repeat (first | (with_reducible first | exact qm_ HB.out | apply qA_ | apply qN_ | apply qD_ | refine below_set ?_ GE187.out | refine below_set ?_ GE192.out | refine below_set ?_ GE196.out) | exact HB.out))))
   have n2_ := A0_ (blk_below (bm_ BK187.out) hb)
   have n3_ := A0_ (blk_below (bm_ BK192.out) hb)
   have n4_ := A0_ (blk_below (bm_ BK196.out) hb)
   have n5_ := A0_ (below_step (by repeat (first | (with_reducible first | exact qm_ HB.out | apply qA_ | apply qN_ | apply qD_ | refine below_set ?_ GE187.out | refine below_set ?_ GE192.out | refine below_set ?_ GE196.out) | exact HB.out)) hb)
   clear HO209 BK187 BK192 BK196 HB
   have HO209 := n0_
   have HO214 := n1_
   have BK187 := n2_
   have BK192 := n3_
   have BK196 := n4_
   have HB := n5_
   clear n0_ n1_ n2_ n3_ n4_ n5_
   (try clear hb)
   (try clear ho0)
   obtain ⟨Ao57, co57, eo57⟩ := Kd.V_slice HO214.out
   (first | subst eo57 | (injection eo57 with f1_ f2_ f3_; have f4_ := f1_.symm; have f5_ := f3_.symm; clear f1_ f2_ f3_; subst f4_; subst f5_))
   refine hK.out _ _ ⟨bC_ BK196.out 0, bC_ BK196.out 1, bC_ BK196.out 2, bC_ BK192.out 0, bC_ BK192.out 1, bC_ BK192.out 2⟩ (fun hHeld => ?_)
   clear hK K
   refine norm_ (a' := ?_) ?_ ?_
   rotate_left
   ·show Act.put _ (some 44) _ = _
    simp only [Act.put, sp_, i64_w, i32_w]
    rfl
   refine pure_ (i := 13) (N := some 45) (v := ?_) (a' := ?_) #[true, true, true, true, true, true, true, true, true, true, true, true, true, true, false, false, false] rfl rfl (any_of HT_.out (by kernel_rfl)) (fun _ _ _ h => h) (Or.inl ⟨by rfl, ?_⟩) ?_ ?_
   rotate_left
   ·intro w'
    go_simp
    with_reducible rfl
   rotate_left
   ·simp only [Act.put, sp_, i64_w, i32_w]
    rfl
   refine pure_ (i := 14) (N := some 46) (v := ?_) (a' := ?_) #[true, true, true, true, true, true, true, true, true, true, true, true, true, true, true, false, false] rfl rfl (any_of HT_.out (by kernel_rfl)) (fun _ _ _ h => h) (Or.inl ⟨by rfl, ?_⟩) ?_ ?_
   rotate_left
   ·intro w'
    go_simp
    with_reducible rfl
   rotate_left
   ·simp only [Act.put, sp_, i64_w, i32_w]
    rfl
   refine one_ (i := 15) (N := none) #[true, true, true, true, true, true, true, true, true, true, true, true, true, true, true, true, false] rfl rfl (one_of HT_.out (by kernel_rfl)) (by decide) (fun K hK => ?_)
   have hs56 : w55.cell? ⟨gb187, 0, none⟩ = some (.bool false) := (blk_cell BK187.out 0).trans rfl
   have hfs56 := blk_frozen BK187.out 0
   have hns56_1 := NB192_187.out
   have hns56_2 := NB196_187.out
   have hms56_1 := NB187_192.out
   have hms56_2 := NB187_196.out
   have hs58 : w55.cell? ⟨gb187, 1, none⟩ = some (.slice none 0 0) := (blk_cell BK187.out 1).trans rfl
   have hfs58 := blk_frozen BK187.out 1
   have hns58_1 := NB192_187.out
   have hns58_2 := NB196_187.out
   have hms58_1 := NB187_192.out
   have hms58_2 := NB187_196.out
   have hs59 : w55.cell? ⟨gb187, 2, none⟩ = some (.int .i64 0) := (blk_cell BK187.out 2).trans rfl
   have hfs59 := blk_frozen BK187.out 2
   have hns59_1 := NB192_187.out
   have hns59_2 := NB196_187.out
   have hms59_1 := NB187_192.out
   have hms59_2 := NB187_196.out
   refine skip_ (w1 := ?_) (by rfl) rfl ?_ ?_
   rotate_left
   ·go_simp
    rfl
   refine hK.out _ _ ⟨((cell_far (p := ⟨gb187, _, none⟩) NB196_187.out _).trans (((cell_far (p := ⟨gb187, _, none⟩) NB196_187.out _).trans (((cell_far (p := ⟨gb187, _, none⟩) NB196_187.out _).trans (hHeld.1)))))), ((cell_far (p := ⟨gb187, _, none⟩) NB196_187.out _).trans (((cell_far (p := ⟨gb187, _, none⟩) NB196_187.out _).trans (((cell_far (p := ⟨gb187, _, none⟩) NB196_187.out _).trans (hHeld.2.1)))))), ((cell_far (p := ⟨gb187, _, none⟩) NB196_187.out _).trans (((cell_far (p := ⟨gb187, _, none⟩) NB196_187.out _).trans (((cell_far (p := ⟨gb187, _, none⟩) NB196_187.out _).trans (hHeld.2.2.1)))))), ((cell_far (p := ⟨gb187, _, none⟩) NB192_187.out _).trans (((cell_far (p := ⟨gb187, _, none⟩) NB192_187.out _).trans (((cell_far (p := ⟨gb187, _, none⟩) NB192_187.out _).trans (hHeld.2.2.2.1)))))), ((cell_far (p := ⟨gb187, _, none⟩) NB192_187.out _).trans (((cell_far (p := ⟨gb187, _, none⟩) NB192_187.out _).trans (((cell_far (p := ⟨gb187, _, none⟩) NB192_187.out _).trans (hHeld.2.2.2.2.1)))))), ((cell_far (p := ⟨gb187, _, none⟩) NB192_187.out _).trans (((cell_far (p := ⟨gb187, _, none⟩) NB192_187.out _).trans (((cell_far (p := ⟨gb187, _, none⟩) NB192_187.out _).trans (hHeld.2.2.2.2.2))))))⟩ (fun hHeld => ?_)
   clear hK K
   refine pure_ (i := 16) (N := some 5) (v := ?_) (a' := ?_) #[true, true, true, true, true, true, true, true, true, true, true, true, true, true, true, true, true] rfl rfl (any_of HT_.out (by kernel_rfl)) (fun _ _ _ h => h) (Or.inl ⟨by rfl, ?_⟩) ?_ ?_
   rotate_left
   ·intro w'
    go_simp
    with_reducible rfl
   rotate_left
   ·simp only [Act.put, sp_, i64_w, i32_w]
    rfl
   refine done_ (done_of HT_.out (by kernel_rfl)) ?_
   try go_wp2
   refine bodyPost_ret (results_ct rfl _ _ gb187 26 #[.bool t211, .slice Ao57 t212.length co57, .int .i64 t215] (0, 0) _ rfl (by (with_reducible repeat first | apply bN_ | apply bD_ | apply bA_); refine blk_put (cs := #[.bool t211, .slice Ao57 t212.length co57, .int .i64 0]) ?_ 2 _ rfl; (with_reducible repeat first | apply bN_ | apply bD_ | apply bA_); refine blk_put (cs := #[.bool t211, .slice none 0 0, .int .i64 0]) ?_ 1 _ rfl; (with_reducible repeat first | apply bN_ | apply bD_ | apply bA_); refine blk_put (cs := #[.bool false, .slice none 0 0, .int .i64 0]) ?_ 0 _ rfl; (with_reducible repeat first | apply bN_ | apply bD_ | apply bA_); exact BK187.out) Tryd.underlying26 rfl (by kernel_rfl)) rfl ?_
   exact ⟨_, by first | rfl | (simp [errW_none, errW_some] <;> rfl) | (simp only [← hji37]; first | rfl | (simp [errW_none, errW_some] <;> rfl)) | (simp [*, errW_none, errW_some] <;> rfl), by (with_reducible repeat (first | apply Kd.V_alloc | apply Kd.V_drewN | apply Kd.V_drew)); exact Kd.V_mono (Kd.V_far (p := ⟨gb187, 2, none⟩) (Kd.V_far (p := ⟨gb187, 1, none⟩) (Kd.V_far (p := ⟨gb187, 0, none⟩) (Kd.V_mono HO214.out (fun k_ hk => (⟨hk, hk.2.1⟩ : _ ∧ k_ ≠ gb187))) (fun _ hk => hk.2) (.bool t211)) (fun _ hk => hk.2) (.slice Ao57 t212.length co57)) (fun _ hk => hk.2) (.int .i64 t215)) (fun _ hk => hk.1.1), by repeat (first | (with_reducible first | exact qm_ HB.out | apply qA_ | apply qN_ | apply qD_ | refine below_set ?_ GE187.out | refine below_set ?_ GE192.out | refine below_set ?_ GE196.out) | exact HB.out)⟩
 ·rw [if_neg c4] at H
  have c4b0 : (t191 == 0) = false := beq_eq_false_iff_ne.mpr c4
  have c4b1 : (t191 != 0) = true := bne_iff_ne.mpr c4
  simp only [Option.some.injEq, Prod.mk.injEq] at H
  obtain ⟨rfl, rfl, rfl, rfl⟩ := H
  go_enter Tryd.func6, Tryd.ntmps6
  go_wp2_with (first | ((with_reducible refine gate_dst (N := 4) rfl ?_); refine box_event ?hg (N := 4) ?hd (cs := #[.bool false, .slice none 0 0, .int .i64 0]) (t := 26) ?hr ?_; (case hd => rfl); (case hg => rfl); (case hr => first | (go_simp; done) | (go_simp; rfl)); intro gb187 hg w60 hbox hb; have n0_ := A0_ (below_step (qm_ HB.out) hb); have n1_ := A0_ (hbox); have n2_ := A0_ ((by rw [hg]; exact (below_size (qm_ HB.out)) : w.heap.size ≤ gb187)); have n3_ := A0_ ((by rw [hg]; exact (below_size (qm_ HB.out)) : w.heap.size ≤ gb187)); clear HB; have HB := n0_; have BK187 := n1_; have GW187 := n2_; have GE187 := n3_; clear n0_ n1_ n2_ n3_ hb hbox hg) | ((with_reducible refine gate_callee (f := 27) rfl ?_); refine goesL_ (some 12) rfl rfl Tryd.func27 (by kernel_rfl) rfl #[.int .u8 a0, .int .u64 a1] rfl (by (try simp only [List.map_toArray, List.map_cons, List.map_nil]); first | done | rfl | (simp only [List.length_drop, List.length_take]; rfl)) ?_; (with_reducible refine (word_finite.calls k a0 a1 t188 t189 t190 t191 _ A3.out).mono ?_); rintro e w61 ⟨rfl, hb⟩; refine ⟨_, rfl, ?_⟩; have n0_ := A0_ (blk_below (bm_ BK187.out) hb); have n1_ := A0_ (below_step (by repeat (first | (with_reducible first | exact qm_ HB.out | apply qA_ | apply qN_ | apply qD_ | refine below_set ?_ GE187.out) | exact HB.out)) hb); clear BK187 HB; have BK187 := n0_; have HB := n1_; clear n0_ n1_; (try clear hb)) | ((with_reducible refine gate_dst (N := 6) rfl ?_); refine box_event ?hg (N := 6) ?hd (cs := #[.int .i64 0, .int .i64 0, .int .u64 0]) (t := 55) ?hr ?_; (case hd => rfl); (case hg => rfl); (case hr => first | (go_simp; done) | (go_simp; rfl)); intro gb192 hg w62 hbox hb; have n0_ := A0_ (blk_below (bm_ BK187.out) hb); have n1_ := A0_ (below_step (by repeat (first | (with_reducible first | exact qm_ HB.out | apply qA_ | apply qN_ | apply qD_ | refine below_set ?_ GE187.out) | exact HB.out)) hb); have n2_ := A0_ (hbox); have n3_ := A0_ ((by rw [hg]; exact (below_size (by repeat (first | (with_reducible first | exact qm_ HB.out | apply qA_ | apply qN_ | apply qD_ | refine below_set ?_ GE187.out) | exact HB.out))) : w.heap.size ≤ gb192)); have n4_ := A0_ ((by rw [hg]; exact (below_size (by repeat (first | (with_reducible first | exact qm_ HB.out | apply qA_ | apply qN_ | apply qD_ | refine below_set ?_ GE187.out) | exact HB.out))) : w.heap.size ≤ gb192)); have n5_ := A0_ ((by rw [hg]; exact Nat.ne_of_lt (blk_lt (bm_ BK187.out)) : gb187 ≠ gb192)); have n6_ := A0_ ((by rw [hg]; exact Nat.ne_of_gt (blk_lt (bm_ BK187.out)) : gb192 ≠ gb187)); clear BK187 HB; have BK187 := n0_; have HB := n1_; have BK192 := n2_; have GW192 := n3_; have GE192 := n4_; have NB187_192 := n5_; have NB192_187 := n6_; clear n0_ n1_ n2_ n3_ n4_ n5_ n6_ hb hbox hg; have hnb63 := NB192_187.out; have hnc63 := NB187_192.out; have hcz64 := bc3_ BK192.out; have hfz64 := bf3_ BK192.out; have hcz65 := bc3_ BK187.out; have hfz65 := bf3_ BK187.out))
  refine bodyPost_ret (results_ct rfl _ _ gb187 26 #[.bool false, .slice none 0 0, .int .i64 0] (0, 0) _ rfl (by (with_reducible repeat first | apply bN_ | apply bD_ | apply bA_); refine blk_put (cs := #[.bool false, .slice none 0 0, .int .i64 0]) ?_ 2 _ rfl; (with_reducible repeat first | apply bN_ | apply bD_ | apply bA_); refine blk_put (cs := #[.bool false, .slice none 0 0, .int .i64 0]) ?_ 1 _ rfl; (with_reducible repeat first | apply bN_ | apply bD_ | apply bA_); refine blk_put (cs := #[.bool false, .slice none 0 0, .int .i64 0]) ?_ 0 _ rfl; (with_reducible repeat first | apply bN_ | apply bD_ | apply bA_); refine blk_far ?_ NB187_192.out _; (with_reducible repeat first | apply bN_ | apply bD_ | apply bA_); refine blk_far ?_ NB187_192.out _; (with_reducible repeat first | apply bN_ | apply bD_ | apply bA_); refine blk_far ?_ NB187_192.out _; (with_reducible repeat first | apply bN_ | apply bD_ | apply bA_); exact BK187.out) Tryd.underlying26 rfl (by kernel_rfl)) rfl ?_
  exact ⟨_, by first | rfl | (simp [errW_none, errW_some] <;> rfl) | (simp [*, errW_none, errW_some] <;> rfl), (Kd.V_nil _ _ _ _ _), by repeat (first | (with_reducible first | exact qm_ HB.out | apply qA_ | apply qN_ | apply qD_ | refine below_set ?_ GE187.out | refine below_set ?_ GE192.out) | exact HB.out)⟩
end Go.Proofs.YthiklmgdmaemgaaDoor.PA
end

section
namespace Go.Proofs.YthiklmgdmaemgaaDoor.PA
open Go.RowKit Go.Proofs.YthiklmgdmaemgaaDoorW.PrintWords Go.Proofs.YthiklmgdmaemgaaDoorW.PrintLast Go.Proofs.YthiklmgdmaemgaaDoorW.PrintMore
attribute [local go_sem] max2_int min2_int max_two min_two max_three min_three max_four min_four   -- for this text's walks alone
set_option linter.unusedVariables false
set_option linter.unusedSimpArgs false
def word_shape_none.f (a0_0 : Int) (a0_1 : Int) (a0_2 : Int) : Option (Int) := (word_shape_inf.f a0_0 a0_1 a0_2).bind fun t218 => (if 0 ≤ (wrap64 (a0_0 - 1)) then (some (Go.bits .or .u64 t218 (shl .u64 1 (wrap64 (a0_0 - 1))))) else (none))
def word_shape_none.T1 : Bool × List (List Nat × List Nat) := (true, [([], []), ([0], [0]), ([], []), ([2], [2]), ([3], [3]), ([4], [4]), ([1, 5], [1, 5]), ([6, 1, 0, 1, 2, 3, 4, 5, 6], [6])])
def word_shape_none.B1 : List Nat := [0, 1, 0, 4, 12, 28, 63, 127]
theorem word_shape_none.tab1 : rtab .any (opsOf Tryd.f34 1) = word_shape_none.T1 := by kernel_rfl
theorem word_shape_none.bits1 : waitsOk word_shape_none.T1.2 word_shape_none.B1 = true := by kernel_rfl
set_option maxHeartbeats 2000000 in
set_option maxRecDepth 100000 in
theorem word_shape_none.calls (a0_0 : Int) (a0_1 : Int) (a0_2 : Int) (r : Int) (w : World) (h : word_shape_none.f a0_0 a0_1 a0_2 = some r) :
  Calls Tryd.prog 34 #[.agg #[.int .i64 a0_0, .int .i64 a0_1, .int .u64 a0_2]] w fun e w' => e = .returned (.int .u64 r) ∧ Below w.heap.size w w' := by
 have hu55 := Tryd.underlying55
 have HB := A0_ (Below.refl w.heap.size w)
 have H : ((word_shape_inf.f a0_0 a0_1 a0_2).bind fun t218 => (if 0 ≤ (wrap64 (a0_0 - 1)) then (some (Go.bits .or .u64 t218 (shl .u64 1 (wrap64 (a0_0 - 1))))) else (none))) = some r := h
 clear h
 replace H := Option.bind_eq_some_iff.mp H
 obtain ⟨t218, A20, H⟩ := H
 replace H : (if 0 ≤ (wrap64 (a0_0 - 1)) then (some (Go.bits .or .u64 t218 (shl .u64 1 (wrap64 (a0_0 - 1))))) else (none)) = some r := H
 have A2 := A0_ A20
 clear A20
 obtain ⟨ji3, hji3⟩ : ∃ j_ : Int, (wrap64 (a0_0 - 1)) = j_ := ⟨_, rfl⟩
 replace H : (if 0 ≤ (ji3) then (some (Go.bits .or .u64 t218 (shl .u64 1 (ji3)))) else (none)) = some r := by first | (rw [hji3] at H; exact H) | (simp only [hji3] at H ⊢; exact H)
 (try rw [hji3] at A2)
 have hji3w : (IntKind.i64.wrap (a0_0 - 1)) = ji3 := (i64_w _).trans hji3
 by_cases c4 : 0 ≤ (ji3)
 ·rw [if_pos c4] at H
  have c4b0 := eq_true c4
  have c4b1 : decide (0 ≤ (ji3)) = true := decide_eq_true c4
  clear c4
  obtain ⟨ji5, hji5⟩ : ∃ j_ : Int, (shl .u64 1 (ji3)) = j_ := ⟨_, rfl⟩
  replace H : (some (Go.bits .or .u64 t218 (ji5))) = some r := by first | (rw [hji5] at H; exact H) | (simp only [hji5] at H ⊢; exact H)
  (try rw [hji5] at A2)
  have hji5_ : (IntKind.u64.wrap (1 * 2 ^ min (ji3).toNat 64)) = ji5 := hji5
  have hji5z : (ji3) ≤ 64 → (IntKind.u64.wrap (1 * 2 ^ (ji3).toNat)) = ji5 := shl_small hji5
  have hji5u : (IntKind.u64.wrap (2 ^ min (ji3).toNat 64)) = ji5 := by have h_ := hji5_; rw [Int.one_mul] at h_; exact h_
  have hji5v : (ji3) ≤ 64 → (IntKind.u64.wrap (2 ^ (ji3).toNat)) = ji5 := fun hle_ => by have h_ := hji5z hle_; rw [Int.one_mul] at h_; exact h_
  obtain rfl := Option.some.inj H
  go_enter Tryd.func34, Tryd.ntmps34
  try go_wp2_with (first | ((with_reducible refine gate_dst (N := 1) rfl ?_); refine box_event ?hg (N := 1) ?hd (cs := #[.int .i64 a0_0, .int .i64 a0_1, .int .u64 a0_2]) (t := 55) ?hr ?_; (case hd => rfl); (case hg => rfl); (case hr => first | (go_simp; done) | (go_simp; rfl)); intro gb217 hg w6 hbox hb; have n0_ := A0_ (below_step (qm_ HB.out) hb); have n1_ := A0_ (hbox); have n2_ := A0_ ((by rw [hg]; exact (below_size (qm_ HB.out)) : w.heap.size ≤ gb217)); have n3_ := A0_ ((by rw [hg]; exact (below_size (qm_ HB.out)) : w.heap.size ≤ gb217)); clear HB; have HB := n0_; have BK217 := n1_; have GW217 := n2_; have GE217 := n3_; clear n0_ n1_ n2_ n3_ hb hbox hg))
  have n0_ := A0_ (blk_drew BK217.out)
  have n1_ := A0_ (below_drew1 HB.out)
  clear BK217 HB
  have BK217 := n0_
  have HB := n1_
  clear n0_ n1_
  refine start_ (n := 8) (S := fun w' => w'.cell? ⟨gb217, 0, none⟩ = some (.int .i64 a0_0) ∧ w'.cell? ⟨gb217, 1, none⟩ = some (.int .i64 a0_1) ∧ w'.cell? ⟨gb217, 2, none⟩ = some (.int .u64 a0_2)) (ds := []) #[false, false, false, false, false, false, false, false] (by kernel_rfl) rfl rfl ⟨bC_ BK217.out 0, bC_ BK217.out 1, bC_ BK217.out 2⟩ (fun hHeld => ?_); refine with_tabW word_shape_none.tab1 word_shape_none.bits1 (fun HT_ HW_ => ?_)
  generalize w6.drew = w7 at BK217 HB hHeld ⊢
  refine pure_ (i := 2) (N := some 5) (v := ?_) (a' := ?_) #[false, false, true, false, false, false, false, false] rfl rfl (any_of HT_.out (by kernel_rfl)) (fun _ _ _ h => h) (Or.inl ⟨by rfl, ?_⟩) ?_ ?_
  rotate_left
  ·intro w'
   go_simp
   with_reducible rfl
  rotate_left
  ·simp only [Act.put, sp_, i64_w, i32_w]
   rfl
  refine take_ (i := 0) (N := some 3) (v := ?_) (a' := ?_) #[true, false, true, false, false, false, false, false] rfl rfl (take_ofW HT_.out HW_.out (by kernel_rfl)) (fun _ _ _ h => h) (Or.inl ⟨by rfl, ?_⟩) hHeld ?_ ?_
  rotate_left
  ·rintro w' ⟨s0, s1, s2⟩
   go_simp
   with_reducible rfl
  rotate_left
  ·simp only [Act.put, sp_, i64_w, i32_w]
   rfl
  refine take_ (i := 3) (N := some 6) (v := ?_) (a' := ?_) #[true, false, true, true, false, false, false, false] rfl rfl (take_ofW HT_.out HW_.out (by kernel_rfl)) (fun _ _ _ h => h) (Or.inl ⟨by rfl, ?_⟩) hHeld ?_ ?_
  rotate_left
  ·rintro w' ⟨s0, s1, s2⟩
   go_simp
   with_reducible rfl
  rotate_left
  ·simp only [Act.put, sp_, i64_w, i32_w]
   rfl
  refine pure_ (i := 4) (N := some 7) (v := ?_) (a' := ?_) #[true, false, true, true, true, false, false, false] rfl rfl (any_of HT_.out (by kernel_rfl)) (fun _ _ _ h => h) (Or.inl ⟨by rfl, ?_⟩) ?_ ?_
  rotate_left
  ·intro w'
   go_simp
   with_reducible rfl
  rotate_left
  ·simp only [Act.put, sp_, i64_w, i32_w]
   rfl
  refine pure_ (i := 5) (N := some 8) (v := ?_) (a' := ?_) #[true, false, true, true, true, true, false, false] rfl rfl (any_of HT_.out (by kernel_rfl)) (fun _ _ _ h => h) (Or.inl ⟨by rfl, ?_⟩) ?_ ?_
  rotate_left
  ·intro w'
   go_simp
   with_reducible rfl
  rotate_left
  ·simp only [Act.put, sp_, i64_w, i32_w]
   rfl
  refine one_ (i := 1) (N := some 4) #[true, true, true, true, true, true, false, false] rfl rfl (one_of HT_.out (by kernel_rfl)) (by decide) (fun K hK => ?_)
  refine goes_ Tryd.func35 (by kernel_rfl) rfl #[.agg #[.int .i64 a0_0, .int .i64 a0_1, .int .u64 a0_2]] (by rfl) rfl rfl (by (try simp only [List.map_toArray, List.map_cons, List.map_nil]); first | done | rfl | (simp only [List.length_drop, List.length_take]; rfl)) ?_
  with_reducible refine (word_shape_inf.calls a0_0 a0_1 a0_2 t218 _ A2.out).mono ?_
  rintro e w8 ⟨rfl, hb⟩
  refine ⟨_, rfl, ?_⟩
  have n0_ := A0_ (blk_below (bm_ BK217.out) hb)
  have n1_ := A0_ (below_step (by repeat (first | (with_reducible first | exact qm_ HB.out | apply qA_ | apply qN_ | apply qD_ | refine below_set ?_ GE217.out) | exact HB.out)) hb)
  clear BK217 HB
  have BK217 := n0_
  have HB := n1_
  clear n0_ n1_
  (try clear hb)
  refine hK.out _ _ ⟨bC_ BK217.out 0, bC_ BK217.out 1, bC_ BK217.out 2⟩ (fun hHeld => ?_)
  clear hK K
  refine norm_ (a' := ?_) ?_ ?_
  rotate_left
  ·show Act.put _ (some 4) _ = _
   simp only [Act.put, sp_, i64_w, i32_w]
   rfl
  refine pure_ (i := 6) (N := some 9) (v := ?_) (a' := ?_) #[true, true, true, true, true, true, true, false] rfl rfl (any_of HT_.out (by kernel_rfl)) (fun _ _ _ h => h) (Or.inl ⟨by rfl, ?_⟩) ?_ ?_
  rotate_left
  ·intro w'
   go_simp
   with_reducible rfl
  rotate_left
  ·simp only [Act.put, sp_, i64_w, i32_w]
   rfl
  refine pure_ (i := 7) (N := some 2) (v := ?_) (a' := ?_) #[true, true, true, true, true, true, true, true] rfl rfl (any_of HT_.out (by kernel_rfl)) (fun _ _ _ h => h) (Or.inl ⟨by rfl, ?_⟩) ?_ ?_
  rotate_left
  ·intro w'
   go_simp
   with_reducible rfl
  rotate_left
  ·simp only [Act.put, sp_, i64_w, i32_w]
   rfl
  refine done_ (done_of HT_.out (by kernel_rfl)) ?_
  try go_wp2
  go_ret
  exact ⟨by first | rfl | (simp [errW_none, errW_some] <;> rfl) | (simp only [← hji3, ← hji5]; first | rfl | (simp [errW_none, errW_some] <;> rfl)) | (simp [*, errW_none, errW_some] <;> rfl), by repeat (first | (with_reducible first | exact qm_ HB.out | apply qA_ | apply qN_ | apply qD_ | refine below_set ?_ GE217.out) | exact HB.out)⟩
 ·rw [if_neg c4] at H
  exact absurd H (by simp)
def word_Up.f (k : Nat) (a0 : Int) (a1 : Int) : Option (Int × Int) := (word_open.f k a0 (([a1] : List Int))).bind fun bt222 => (if bt222.2.2.2 = 0 then ((word_shape_class.f bt222.1 bt222.2.1 bt222.2.2.1 a1).bind fun t227 => (if t227 = 5 then ((word_shape_none.f bt222.1 bt222.2.1 bt222.2.2.1).bind fun t228 => (some (t228, 0))) else ((word_shape_inf.f bt222.1 bt222.2.1 bt222.2.2.1).bind fun t229 => (if a1 = t229 then (some (0, 7)) else (if (Go.bits .andNot .u64 a1 bt222.2.2.1) = 0 then (some (1, 0)) else (if (Go.bits .and .u64 a1 bt222.2.2.1) = 0 then (some (IntKind.u64.wrap (a1 + 1), 0)) else (some (IntKind.u64.wrap (a1 - 1), 0)))))))) else (some (0, bt222.2.2.2)))
set_option maxHeartbeats 2000000 in
set_option maxRecDepth 100000 in
theorem word_Up.calls (k : Nat) (a0 : Int) (a1 : Int) (r1 : Int) (r2 : Int) (w : World) (h : word_Up.f k a0 a1 = some (r1, r2)) :
  Calls Tryd.prog 7 #[.int .u8 a0, .int .u64 a1] w fun e w' => e = .returned (.tuple #[.int .u64 r1, .int .i64 r2]) ∧ Below w.heap.size w w' := by
 have hu55 := Tryd.underlying55
 have HB := A0_ (Below.refl w.heap.size w)
 have H : ((word_open.f k a0 (([a1] : List Int))).bind fun bt222 => (if bt222.2.2.2 = 0 then ((word_shape_class.f bt222.1 bt222.2.1 bt222.2.2.1 a1).bind fun t227 => (if t227 = 5 then ((word_shape_none.f bt222.1 bt222.2.1 bt222.2.2.1).bind fun t228 => (some (t228, 0))) else ((word_shape_inf.f bt222.1 bt222.2.1 bt222.2.2.1).bind fun t229 => (if a1 = t229 then (some (0, 7)) else (if (Go.bits .andNot .u64 a1 bt222.2.2.1) = 0 then (some (1, 0)) else (if (Go.bits .and .u64 a1 bt222.2.2.1) = 0 then (some (IntKind.u64.wrap (a1 + 1), 0)) else (some (IntKind.u64.wrap (a1 - 1), 0)))))))) else (some (0, bt222.2.2.2)))) = some (r1, r2) := h
 clear h
 obtain ⟨y219, hy219⟩ : ∃ y_ : List Int, y_ = (([a1] : List Int)) := ⟨_, rfl⟩
 replace H : ((word_open.f k a0 y219).bind fun bt222 => (if bt222.2.2.2 = 0 then ((word_shape_class.f bt222.1 bt222.2.1 bt222.2.2.1 a1).bind fun t227 => (if t227 = 5 then ((word_shape_none.f bt222.1 bt222.2.1 bt222.2.2.1).bind fun t228 => (some (t228, 0))) else ((word_shape_inf.f bt222.1 bt222.2.1 bt222.2.2.1).bind fun t229 => (if a1 = t229 then (some (0, 7)) else (if (Go.bits .andNot .u64 a1 bt222.2.2.1) = 0 then (some (1, 0)) else (if (Go.bits .and .u64 a1 bt222.2.2.1) = 0 then (some (IntKind.u64.wrap (a1 + 1), 0)) else (some (IntKind.u64.wrap (a1 - 1), 0)))))))) else (some (0, bt222.2.2.2)))) = some (r1, r2) := by first | (rw [hy219]; with_reducible exact H) | (have H2_ := (Option.bind_some _ _).symm.trans H; rw [hy219]; with_reducible exact H2_) | (have H2_ := (Option.bind_some _ _).symm.trans H; with_reducible exact H2_) | with_reducible exact H | (rw [hy219]; exact H) | exact H
 have Ny219 := A0_ hy219
 clear hy219
 replace H := Option.bind_eq_some_iff.mp H
 obtain ⟨⟨t222, t223, t224, t225⟩, A30, H⟩ := H
 replace H : (if t225 = 0 then ((word_shape_class.f t222 t223 t224 a1).bind fun t227 => (if t227 = 5 then ((word_shape_none.f t222 t223 t224).bind fun t228 => (some (t228, 0))) else ((word_shape_inf.f t222 t223 t224).bind fun t229 => (if a1 = t229 then (some (0, 7)) else (if (Go.bits .andNot .u64 a1 t224) = 0 then (some (1, 0)) else (if (Go.bits .and .u64 a1 t224) = 0 then (some (IntKind.u64.wrap (a1 + 1), 0)) else (some (IntKind.u64.wrap (a1 - 1), 0)))))))) else (some (0, t225))) = some (r1, r2) := H
 have A3 := A0_ A30
 clear A30
 by_cases c4 : t225 = 0
 ·rw [if_pos c4] at H
  have c4b0 : (t225 == 0) = true := beq_iff_eq.mpr c4
  have c4b1 : (t225 != 0) = false := bne_eq_false_iff_eq.mpr c4
  clear c4
  replace H := Option.bind_eq_some_iff.mp H
  obtain ⟨t227, A50, H⟩ := H
  replace H : (if t227 = 5 then ((word_shape_none.f t222 t223 t224).bind fun t228 => (some (t228, 0))) else ((word_shape_inf.f t222 t223 t224).bind fun t229 => (if a1 = t229 then (some (0, 7)) else (if (Go.bits .andNot .u64 a1 t224) = 0 then (some (1, 0)) else (if (Go.bits .and .u64 a1 t224) = 0 then (some (IntKind.u64.wrap (a1 + 1), 0)) else (some (IntKind.u64.wrap (a1 - 1), 0))))))) = some (r1, r2) := H
  have A5 := A0_ A50
  clear A50
  by_cases c6 : t227 = 5
  ·rw [if_pos c6] at H
   have c6b0 : (t227 == 5) = true := beq_iff_eq.mpr c6
   have c6b1 : (t227 != 5) = false := bne_eq_false_iff_eq.mpr c6
   clear c6
   replace H := Option.bind_eq_some_iff.mp H
   obtain ⟨t228, A70, H⟩ := H
   replace H : (some (t228, 0)) = some (r1, r2) := H
   have A7 := A0_ A70
   clear A70
   simp only [Option.some.injEq, Prod.mk.injEq] at H
   obtain ⟨rfl, rfl⟩ := H
   go_enter Tryd.func7, Tryd.ntmps7
   go_wp2_with (first | ((with_reducible refine gate_dst (N := 11) rfl ?_); refine Kd.R_lit (Kd.int .u64) _ 23 ?hg (N := 11) ?hd (xs := ([a1] : List Int)) (inner := [.int .u64 a1]) (ok := fun _ => True) (okp := fun _ => True) ?hr ?hp (fun _ hk => hk) trivial (Below.refl _ _) (Nat.le_refl _) (by simp) ?_; (case hd => rfl); (case hg => rfl); (case hr => first | (go_simp; done) | (go_simp; rfl)); (case hp => exact (Reps.one (show Kd.M (Kd.int .u64) _ _ _ a1 [.int .u64 a1] from rfl) (Reps.none _ _))); intro v220 w8 ho9 hb hg_ hnew_; clear hg_ hnew_; (first | rw [← Ny219.out] at ho9 | (simp only [Int.reduceToNat] at ho9; rw [← Ny219.out] at ho9)); have n0_ := A0_ (Kd.R_lower ho9 (below_size (qm_ HB.out))); have n1_ := A0_ (below_step (qm_ HB.out) hb); clear HB; have HO221 := n0_; have HB := n1_; clear n0_ n1_ hb ho9; obtain ⟨Ao10, co10, eo10⟩ := Kd.R_slice HO221.out; subst eo10) | ((with_reducible refine gate_callee (f := 32) rfl ?_); refine goesL_ (some 12) rfl rfl Tryd.func32 (by kernel_rfl) rfl #[.int .u8 a0, .slice Ao10 y219.length co10] rfl (by (try simp only [List.map_toArray, List.map_cons, List.map_nil]); first | done | rfl | (simp only [List.length_drop, List.length_take]; rfl)) ?_; (with_reducible refine (word_open.calls k a0 _ _ y219 t222 t223 t224 t225 _ ?side1 ?side2 A3.out).mono ?_); (case side1 => repeat (first | exact (Kd.R_reads' HO221.out).2.2 | (with_reducible refine Kd.C_alloc ?_ _) | (with_reducible refine Kd.C_drewN ?_ _) | (with_reducible refine Kd.C_drew ?_))); (case side2 => exact (Kd.R_reads' HO221.out).2.1); rintro e w11 ⟨rfl, hb⟩; refine ⟨_, rfl, ?_⟩; have n0_ := A0_ (Kd.R_below (by exact rm_ HO221.out) hb); have n1_ := A0_ (below_step (qm_ HB.out) hb); clear HO221 HB; have HO221 := n0_; have HB := n1_; clear n0_ n1_; (try clear hb)) | ((with_reducible refine gate_dst (N := 6) rfl ?_); refine box_event ?hg (N := 6) ?hd (cs := #[.int .i64 0, .int .i64 0, .int .u64 0]) (t := 55) ?hr ?_; (case hd => rfl); (case hg => rfl); (case hr => first | (go_simp; done) | (go_simp; rfl)); intro gb226 hg w12 hbox hb; have n0_ := A0_ (Kd.R_below (by exact rm_ HO221.out) hb); have n1_ := A0_ (below_step (qm_ HB.out) hb); have n2_ := A0_ (hbox); have n3_ := A0_ ((by rw [hg]; exact (below_size (qm_ HB.out)) : w.heap.size ≤ gb226)); have n4_ := A0_ ((by rw [hg]; exact (below_size (qm_ HB.out)) : w.heap.size ≤ gb226)); clear HO221 HB; have HO221 := n0_; have HB := n1_; have BK226 := n2_; have GW226 := n3_; have GE226 := n4_; clear n0_ n1_ n2_ n3_ n4_ hb hbox hg; have hcz13 := bc3_ BK226.out; have hfz13 := bf3_ BK226.out) | ((with_reducible refine gate_callee (f := 33) rfl ?_); refine goesL_ (some 22) rfl rfl Tryd.func33 (by kernel_rfl) rfl #[.agg #[.int .i64 t222, .int .i64 t223, .int .u64 t224], .int .u64 a1] rfl (by (try simp only [List.map_toArray, List.map_cons, List.map_nil]); first | done | rfl | (simp only [List.length_drop, List.length_take]; rfl)) ?_; (with_reducible refine (word_shape_class.calls t222 t223 t224 a1 t227 _ A5.out).mono ?_); rintro e w14 ⟨rfl, hb⟩; refine ⟨_, rfl, ?_⟩; have n0_ := A0_ (Kd.R_below (by (with_reducible repeat (first | apply Kd.R_alloc | apply Kd.R_drewN | apply Kd.R_drew)); exact (Kd.R_mono (Kd.R_far (p := ⟨gb226, 2, none⟩) (Kd.R_far (p := ⟨gb226, 1, none⟩) (Kd.R_far (p := ⟨gb226, 0, none⟩) (Kd.R_types HO221.out BK226.out (by decide)) (fun _ hk => hk.2) (.int .i64 t222)) (fun _ hk => hk.2) (.int .i64 t223)) (fun _ hk => hk.2) (.int .u64 t224)) (fun _ h_ => h_.1))) hb); have n1_ := A0_ (blk_below (g := gb226) (o := .cells #[.int .i64 t222, .int .i64 t223, .int .u64 t224] 55 (0, 0)) (by (with_reducible repeat first | apply bN_ | apply bD_ | apply bA_); refine blk_put (cs := #[.int .i64 t222, .int .i64 t223, .int .u64 0]) ?_ 2 _ rfl; (with_reducible repeat first | apply bN_ | apply bD_ | apply bA_); refine blk_put (cs := #[.int .i64 t222, .int .i64 0, .int .u64 0]) ?_ 1 _ rfl; (with_reducible repeat first | apply bN_ | apply bD_ | apply bA_); refine blk_put (cs := #[.int .i64 0, .int .i64 0, .int .u64 0]) ?_ 0 _ rfl; (with_reducible repeat first | apply bN_ | apply bD_ | apply bA_); exact BK226.out) hb); have n2_ := A0_ (below_step (by repeat (first | (with_reducible first | exact qm_ HB.out | apply qA_ | apply qN_ | apply qD_ | refine below_set ?_ GE226.out) | exact HB.out)) hb); clear HO221 BK226 HB; have HO221 := n0_; have BK226 := n1_; have HB := n2_; clear n0_ n1_ n2_; (try clear hb); have hcz15 := bc3_ BK226.out; have hfz15 := bf3_ BK226.out) | ((with_reducible refine gate_callee (f := 34) rfl ?_); refine goesL_ (some 25) rfl rfl Tryd.func34 (by kernel_rfl) rfl #[.agg #[.int .i64 t222, .int .i64 t223, .int .u64 t224]] rfl (by (try simp only [List.map_toArray, List.map_cons, List.map_nil]); first | done | rfl | (simp only [List.length_drop, List.length_take]; rfl)) ?_; (with_reducible refine (word_shape_none.calls t222 t223 t224 t228 _ A7.out).mono ?_); rintro e w16 ⟨rfl, hb⟩; refine ⟨_, rfl, ?_⟩; have n0_ := A0_ (Kd.R_below (by exact rm_ HO221.out) hb); have n1_ := A0_ (blk_below (bm_ BK226.out) hb); have n2_ := A0_ (below_step (by repeat (first | (with_reducible first | exact qm_ HB.out | apply qA_ | apply qN_ | apply qD_ | refine below_set ?_ GE226.out) | exact HB.out)) hb); clear HO221 BK226 HB; have HO221 := n0_; have BK226 := n1_; have HB := n2_; clear n0_ n1_ n2_; (try clear hb)))
   go_ret2
   exact ⟨by first | rfl | (simp [errW_none, errW_some] <;> rfl) | (simp [*, errW_none, errW_some] <;> rfl), by repeat (first | (with_reducible first | exact qm_ HB.out | apply qA_ | apply qN_ | apply qD_ | refine below_set ?_ GE226.out) | exact HB.out)⟩
  ·rw [if_neg c6] at H
   have c6b0 : (t227 == 5) = false := beq_eq_false_iff_ne.mpr c6
   have c6b1 : (t227 != 5) = true := bne_iff_ne.mpr c6
   replace H := Option.bind_eq_some_iff.mp H
   obtain ⟨t229, A170, H⟩ := H
   replace H : (if a1 = t229 then (some (0, 7)) else (if (Go.bits .andNot .u64 a1 t224) = 0 then (some (1, 0)) else (if (Go.bits .and .u64 a1 t224) = 0 then (some (IntKind.u64.wrap (a1 + 1), 0)) else (some (IntKind.u64.wrap (a1 - 1), 0))))) = some (r1, r2) := H
   have A17 := A0_ A170
   clear A170
   by_cases c18 : a1 = t229
   ·rw [if_pos c18] at H
    have c18b0 : (a1 == t229) = true := beq_iff_eq.mpr c18
    have c18b1 : (a1 != t229) = false := bne_eq_false_iff_eq.mpr c18
    clear c18
    simp only [Option.some.injEq, Prod.mk.injEq] at H
    obtain ⟨rfl, rfl⟩ := H
    go_enter Tryd.func7, Tryd.ntmps7
    go_wp2_with (first | ((with_reducible refine gate_dst (N := 11) rfl ?_); refine Kd.R_lit (Kd.int .u64) _ 23 ?hg (N := 11) ?hd (xs := ([a1] : List Int)) (inner := [.int .u64 a1]) (ok := fun _ => True) (okp := fun _ => True) ?hr ?hp (fun _ hk => hk) trivial (Below.refl _ _) (Nat.le_refl _) (by simp) ?_; (case hd => rfl); (case hg => rfl); (case hr => first | (go_simp; done) | (go_simp; rfl)); (case hp => exact (Reps.one (show Kd.M (Kd.int .u64) _ _ _ a1 [.int .u64 a1] from rfl) (Reps.none _ _))); intro v220 w19 ho20 hb hg_ hnew_; clear hg_ hnew_; (first | rw [← Ny219.out] at ho20 | (simp only [Int.reduceToNat] at ho20; rw [← Ny219.out] at ho20)); have n0_ := A0_ (Kd.R_lower ho20 (below_size (qm_ HB.out))); have n1_ := A0_ (below_step (qm_ HB.out) hb); clear HB; have HO221 := n0_; have HB := n1_; clear n0_ n1_ hb ho20; obtain ⟨Ao21, co21, eo21⟩ := Kd.R_slice HO221.out; subst eo21) | ((with_reducible refine gate_callee (f := 32) rfl ?_); refine goesL_ (some 12) rfl rfl Tryd.func32 (by kernel_rfl) rfl #[.int .u8 a0, .slice Ao21 y219.length co21] rfl (by (try simp only [List.map_toArray, List.map_cons, List.map_nil]); first | done | rfl | (simp only [List.length_drop, List.length_take]; rfl)) ?_; (with_reducible refine (word_open.calls k a0 _ _ y219 t222 t223 t224 t225 _ ?side1 ?side2 A3.out).mono ?_); (case side1 => repeat (first | exact (Kd.R_reads' HO221.out).2.2 | (with_reducible refine Kd.C_alloc ?_ _) | (with_reducible refine Kd.C_drewN ?_ _) | (with_reducible refine Kd.C_drew ?_))); (case side2 => exact (Kd.R_reads' HO221.out).2.1); rintro e w22 ⟨rfl, hb⟩; refine ⟨_, rfl, ?_⟩; have n0_ := A0_ (Kd.R_below (by exact rm_ HO221.out) hb); have n1_ := A0_ (below_step (qm_ HB.out) hb); clear HO221 HB; have HO221 := n0_; have HB := n1_; clear n0_ n1_; (try clear hb)) | ((with_reducible refine gate_dst (N := 6) rfl ?_); refine box_event ?hg (N := 6) ?hd (cs := #[.int .i64 0, .int .i64 0, .int .u64 0]) (t := 55) ?hr ?_; (case hd => rfl); (case hg => rfl); (case hr => first | (go_simp; done) | (go_simp; rfl)); intro gb226 hg w23 hbox hb; have n0_ := A0_ (Kd.R_below (by exact rm_ HO221.out) hb); have n1_ := A0_ (below_step (qm_ HB.out) hb); have n2_ := A0_ (hbox); have n3_ := A0_ ((by rw [hg]; exact (below_size (qm_ HB.out)) : w.heap.size ≤ gb226)); have n4_ := A0_ ((by rw [hg]; exact (below_size (qm_ HB.out)) : w.heap.size ≤ gb226)); clear HO221 HB; have HO221 := n0_; have HB := n1_; have BK226 := n2_; have GW226 := n3_; have GE226 := n4_; clear n0_ n1_ n2_ n3_ n4_ hb hbox hg; have hcz24 := bc3_ BK226.out; have hfz24 := bf3_ BK226.out) | ((with_reducible refine gate_callee (f := 33) rfl ?_); refine goesL_ (some 22) rfl rfl Tryd.func33 (by kernel_rfl) rfl #[.agg #[.int .i64 t222, .int .i64 t223, .int .u64 t224], .int .u64 a1] rfl (by (try simp only [List.map_toArray, List.map_cons, List.map_nil]); first | done | rfl | (simp only [List.length_drop, List.length_take]; rfl)) ?_; (with_reducible refine (word_shape_class.calls t222 t223 t224 a1 t227 _ A5.out).mono ?_); rintro e w25 ⟨rfl, hb⟩; refine ⟨_, rfl, ?_⟩; have n0_ := A0_ (Kd.R_below (by (with_reducible repeat (first | apply Kd.R_alloc | apply Kd.R_drewN | apply Kd.R_drew)); exact (Kd.R_mono (Kd.R_far (p := ⟨gb226, 2, none⟩) (Kd.R_far (p := ⟨gb226, 1, none⟩) (Kd.R_far (p := ⟨gb226, 0, none⟩) (Kd.R_types HO221.out BK226.out (by decide)) (fun _ hk => hk.2) (.int .i64 t222)) (fun _ hk => hk.2) (.int .i64 t223)) (fun _ hk => hk.2) (.int .u64 t224)) (fun _ h_ => h_.1))) hb); have n1_ := A0_ (blk_below (g := gb226) (o := .cells #[.int .i64 t222, .int .i64 t223, .int .u64 t224] 55 (0, 0)) (by (with_reducible repeat first | apply bN_ | apply bD_ | apply bA_); refine blk_put (cs := #[.int .i64 t222, .int .i64 t223, .int .u64 0]) ?_ 2 _ rfl; (with_reducible repeat first | apply bN_ | apply bD_ | apply bA_); refine blk_put (cs := #[.int .i64 t222, .int .i64 0, .int .u64 0]) ?_ 1 _ rfl; (with_reducible repeat first | apply bN_ | apply bD_ | apply bA_); refine blk_put (cs := #[.int .i64 0, .int .i64 0, .int .u64 0]) ?_ 0 _ rfl; (with_reducible repeat first | apply bN_ | apply bD_ | apply bA_); exact BK226.out) hb); have n2_ := A0_ (below_step (by repeat (first | (with_reducible first | exact qm_ HB.out | apply qA_ | apply qN_ | apply qD_ | refine below_set ?_ GE226.out) | exact HB.out)) hb); clear HO221 BK226 HB; have HO221 := n0_; have BK226 := n1_; have HB := n2_; clear n0_ n1_ n2_; (try clear hb); have hcz26 := bc3_ BK226.out; have hfz26 := bf3_ BK226.out) | ((with_reducible refine gate_callee (f := 35) rfl ?_); refine goesL_ (some 29) rfl rfl Tryd.func35 (by kernel_rfl) rfl #[.agg #[.int .i64 t222, .int .i64 t223, .int .u64 t224]] rfl (by (try simp only [List.map_toArray, List.map_cons, List.map_nil]); first | done | rfl | (simp only [List.length_drop, List.length_take]; rfl)) ?_; (with_reducible refine (word_shape_inf.calls t222 t223 t224 t229 _ A17.out).mono ?_); rintro e w27 ⟨rfl, hb⟩; refine ⟨_, rfl, ?_⟩; have n0_ := A0_ (Kd.R_below (by exact rm_ HO221.out) hb); have n1_ := A0_ (blk_below (bm_ BK226.out) hb); have n2_ := A0_ (below_step (by repeat (first | (with_reducible first | exact qm_ HB.out | apply qA_ | apply qN_ | apply qD_ | refine below_set ?_ GE226.out) | exact HB.out)) hb); clear HO221 BK226 HB; have HO221 := n0_; have BK226 := n1_; have HB := n2_; clear n0_ n1_ n2_; (try clear hb)))
    go_ret2
    exact ⟨by first | rfl | (simp [errW_none, errW_some] <;> rfl) | (simp [*, errW_none, errW_some] <;> rfl), by repeat (first | (with_reducible first | exact qm_ HB.out | apply qA_ | apply qN_ | apply qD_ | refine below_set ?_ GE226.out) | exact HB.out)⟩
   ·rw [if_neg c18] at H
    have c18b0 : (a1 == t229) = false := beq_eq_false_iff_ne.mpr c18
    have c18b1 : (a1 != t229) = true := bne_iff_ne.mpr c18
    by_cases c28 : (Go.bits .andNot .u64 a1 t224) = 0
    ·rw [if_pos c28] at H
     have c28b0 : ((Go.bits .andNot .u64 a1 t224) == 0) = true := beq_iff_eq.mpr c28
     have c28b1 : ((Go.bits .andNot .u64 a1 t224) != 0) = false := bne_eq_false_iff_eq.mpr c28
     clear c28
     simp only [Option.some.injEq, Prod.mk.injEq] at H
     obtain ⟨rfl, rfl⟩ := H
     go_enter Tryd.func7, Tryd.ntmps7
     go_wp2_with (first | ((with_reducible refine gate_dst (N := 11) rfl ?_); refine Kd.R_lit (Kd.int .u64) _ 23 ?hg (N := 11) ?hd (xs := ([a1] : List Int)) (inner := [.int .u64 a1]) (ok := fun _ => True) (okp := fun _ => True) ?hr ?hp (fun _ hk => hk) trivial (Below.refl _ _) (Nat.le_refl _) (by simp) ?_; (case hd => rfl); (case hg => rfl); (case hr => first | (go_simp; done) | (go_simp; rfl)); (case hp => exact (Reps.one (show Kd.M (Kd.int .u64) _ _ _ a1 [.int .u64 a1] from rfl) (Reps.none _ _))); intro v220 w29 ho30 hb hg_ hnew_; clear hg_ hnew_; (first | rw [← Ny219.out] at ho30 | (simp only [Int.reduceToNat] at ho30; rw [← Ny219.out] at ho30)); have n0_ := A0_ (Kd.R_lower ho30 (below_size (qm_ HB.out))); have n1_ := A0_ (below_step (qm_ HB.out) hb); clear HB; have HO221 := n0_; have HB := n1_; clear n0_ n1_ hb ho30; obtain ⟨Ao31, co31, eo31⟩ := Kd.R_slice HO221.out; subst eo31) | ((with_reducible refine gate_callee (f := 32) rfl ?_); refine goesL_ (some 12) rfl rfl Tryd.func32 (by kernel_rfl) rfl #[.int .u8 a0, .slice Ao31 y219.length co31] rfl (by (try simp only [List.map_toArray, List.map_cons, List.map_nil]); first | done | rfl | (simp only [List.length_drop, List.length_take]; rfl)) ?_; (with_reducible refine (word_open.calls k a0 _ _ y219 t222 t223 t224 t225 _ ?side1 ?side2 A3.out).mono ?_); (case side1 => repeat (first | exact (Kd.R_reads' HO221.out).2.2 | (with_reducible refine Kd.C_alloc ?_ _) | (with_reducible refine Kd.C_drewN ?_ _) | (with_reducible refine Kd.C_drew ?_))); (case side2 => exact (Kd.R_reads' HO221.out).2.1); rintro e w32 ⟨rfl, hb⟩; refine ⟨_, rfl, ?_⟩; have n0_ := A0_ (Kd.R_below (by exact rm_ HO221.out) hb); have n1_ := A0_ (below_step (qm_ HB.out) hb); clear HO221 HB; have HO221 := n0_; have HB := n1_; clear n0_ n1_; (try clear hb)) | ((with_reducible refine gate_dst (N := 6) rfl ?_); refine box_event ?hg (N := 6) ?hd (cs := #[.int .i64 0, .int .i64 0, .int .u64 0]) (t := 55) ?hr ?_; (case hd => rfl); (case hg => rfl); (case hr => first | (go_simp; done) | (go_simp; rfl)); intro gb226 hg w33 hbox hb; have n0_ := A0_ (Kd.R_below (by exact rm_ HO221.out) hb); have n1_ := A0_ (below_step (qm_ HB.out) hb); have n2_ := A0_ (hbox); have n3_ := A0_ ((by rw [hg]; exact (below_size (qm_ HB.out)) : w.heap.size ≤ gb226)); have n4_ := A0_ ((by rw [hg]; exact (below_size (qm_ HB.out)) : w.heap.size ≤ gb226)); clear HO221 HB; have HO221 := n0_; have HB := n1_; have BK226 := n2_; have GW226 := n3_; have GE226 := n4_; clear n0_ n1_ n2_ n3_ n4_ hb hbox hg; have hcz34 := bc3_ BK226.out; have hfz34 := bf3_ BK226.out) | ((with_reducible refine gate_callee (f := 33) rfl ?_); refine goesL_ (some 22) rfl rfl Tryd.func33 (by kernel_rfl) rfl #[.agg #[.int .i64 t222, .int .i64 t223, .int .u64 t224], .int .u64 a1] rfl (by (try simp only [List.map_toArray, List.map_cons, List.map_nil]); first | done | rfl | (simp only [List.length_drop, List.length_take]; rfl)) ?_; (with_reducible refine (word_shape_class.calls t222 t223 t224 a1 t227 _ A5.out).mono ?_); rintro e w35 ⟨rfl, hb⟩; refine ⟨_, rfl, ?_⟩; have n0_ := A0_ (Kd.R_below (by (with_reducible repeat (first | apply Kd.R_alloc | apply Kd.R_drewN | apply Kd.R_drew)); exact (Kd.R_mono (Kd.R_far (p := ⟨gb226, 2, none⟩) (Kd.R_far (p := ⟨gb226, 1, none⟩) (Kd.R_far (p := ⟨gb226, 0, none⟩) (Kd.R_types HO221.out BK226.out (by decide)) (fun _ hk => hk.2) (.int .i64 t222)) (fun _ hk => hk.2) (.int .i64 t223)) (fun _ hk => hk.2) (.int .u64 t224)) (fun _ h_ => h_.1))) hb); have n1_ := A0_ (blk_below (g := gb226) (o := .cells #[.int .i64 t222, .int .i64 t223, .int .u64 t224] 55 (0, 0)) (by (with_reducible repeat first | apply bN_ | apply bD_ | apply bA_); refine blk_put (cs := #[.int .i64 t222, .int .i64 t223, .int .u64 0]) ?_ 2 _ rfl; (with_reducible repeat first | apply bN_ | apply bD_ | apply bA_); refine blk_put (cs := #[.int .i64 t222, .int .i64 0, .int .u64 0]) ?_ 1 _ rfl; (with_reducible repeat first | apply bN_ | apply bD_ | apply bA_); refine blk_put (cs := #[.int .i64 0, .int .i64 0, .int .u64 0]) ?_ 0 _ rfl; (with_reducible repeat first | apply bN_ | apply bD_ | apply bA_); exact BK226.out) hb); have n2_ := A0_ (below_step (by repeat (first | (with_reducible first | exact qm_ HB.out | apply qA_ | apply qN_ | apply qD_ | refine below_set ?_ GE226.out) | exact HB.out)) hb); clear HO221 BK226 HB; have HO221 := n0_; have BK226 := n1_; have HB := n2_; clear n0_ n1_ n2_; (try clear hb); have hcz36 := bc3_ BK226.out; have hfz36 := bf3_ BK226.out) | ((with_reducible refine gate_callee (f := 35) rfl ?_); refine goesL_ (some 29) rfl rfl Tryd.func35 (by kernel_rfl) rfl #[.agg #[.int .i64 t222, .int .i64 t223, .int .u64 t224]] rfl (by (try simp only [List.map_toArray, List.map_cons, List.map_nil]); first | done | rfl | (simp only [List.length_drop, List.length_take]; rfl)) ?_; (with_reducible refine (word_shape_inf.calls t222 t223 t224 t229 _ A17.out).mono ?_); rintro e w37 ⟨rfl, hb⟩; refine ⟨_, rfl, ?_⟩; have n0_ := A0_ (Kd.R_below (by exact rm_ HO221.out) hb); have n1_ := A0_ (blk_below (bm_ BK226.out) hb); have n2_ := A0_ (below_step (by repeat (first | (with_reducible first | exact qm_ HB.out | apply qA_ | apply qN_ | apply qD_ | refine below_set ?_ GE226.out) | exact HB.out)) hb); clear HO221 BK226 HB; have HO221 := n0_; have BK226 := n1_; have HB := n2_; clear n0_ n1_ n2_; (try clear hb); have hcz38 := bc3_ BK226.out; have hfz38 := bf3_ BK226.out))
     go_ret2
     exact ⟨by first | rfl | (simp [errW_none, errW_some] <;> rfl) | (simp [*, errW_none, errW_some] <;> rfl), by repeat (first | (with_reducible first | exact qm_ HB.out | apply qA_ | apply qN_ | apply qD_ | refine below_set ?_ GE226.out) | exact HB.out)⟩
    ·rw [if_neg c28] at H
     have c28b0 : ((Go.bits .andNot .u64 a1 t224) == 0) = false := beq_eq_false_iff_ne.mpr c28
     have c28b1 : ((Go.bits .andNot .u64 a1 t224) != 0) = true := bne_iff_ne.mpr c28
     by_cases c39 : (Go.bits .and .u64 a1 t224) = 0
     ·rw [if_pos c39] at H
      have c39b0 : ((Go.bits .and .u64 a1 t224) == 0) = true := beq_iff_eq.mpr c39
      have c39b1 : ((Go.bits .and .u64 a1 t224) != 0) = false := bne_eq_false_iff_eq.mpr c39
      clear c39
      simp only [Option.some.injEq, Prod.mk.injEq] at H
      obtain ⟨rfl, rfl⟩ := H
      go_enter Tryd.func7, Tryd.ntmps7
      go_wp2_with (first | ((with_reducible refine gate_dst (N := 11) rfl ?_); refine Kd.R_lit (Kd.int .u64) _ 23 ?hg (N := 11) ?hd (xs := ([a1] : List Int)) (inner := [.int .u64 a1]) (ok := fun _ => True) (okp := fun _ => True) ?hr ?hp (fun _ hk => hk) trivial (Below.refl _ _) (Nat.le_refl _) (by simp) ?_; (case hd => rfl); (case hg => rfl); (case hr => first | (go_simp; done) | (go_simp; rfl)); (case hp => exact (Reps.one (show Kd.M (Kd.int .u64) _ _ _ a1 [.int .u64 a1] from rfl) (Reps.none _ _))); intro v220 w40 ho41 hb hg_ hnew_; clear hg_ hnew_; (first | rw [← Ny219.out] at ho41 | (simp only [Int.reduceToNat] at ho41; rw [← Ny219.out] at ho41)); have n0_ := A0_ (Kd.R_lower ho41 (below_size (qm_ HB.out))); have n1_ := A0_ (below_step (qm_ HB.out) hb); clear HB; have HO221 := n0_; have HB := n1_; clear n0_ n1_ hb ho41; obtain ⟨Ao42, co42, eo42⟩ := Kd.R_slice HO221.out; subst eo42) | ((with_reducible refine gate_callee (f := 32) rfl ?_); refine goesL_ (some 12) rfl rfl Tryd.func32 (by kernel_rfl) rfl #[.int .u8 a0, .slice Ao42 y219.length co42] rfl (by (try simp only [List.map_toArray, List.map_cons, List.map_nil]); first | done | rfl | (simp only [List.length_drop, List.length_take]; rfl)) ?_; (with_reducible refine (word_open.calls k a0 _ _ y219 t222 t223 t224 t225 _ ?side1 ?side2 A3.out).mono ?_); (case side1 => repeat (first | exact (Kd.R_reads' HO221.out).2.2 | (with_reducible refine Kd.C_alloc ?_ _) | (with_reducible refine Kd.C_drewN ?_ _) | (with_reducible refine Kd.C_drew ?_))); (case side2 => exact (Kd.R_reads' HO221.out).2.1); rintro e w43 ⟨rfl, hb⟩; refine ⟨_, rfl, ?_⟩; have n0_ := A0_ (Kd.R_below (by exact rm_ HO221.out) hb); have n1_ := A0_ (below_step (qm_ HB.out) hb); clear HO221 HB; have HO221 := n0_; have HB := n1_; clear n0_ n1_; (try clear hb)) | ((with_reducible refine gate_dst (N := 6) rfl ?_); refine box_event ?hg (N := 6) ?hd (cs := #[.int .i64 0, .int .i64 0, .int .u64 0]) (t := 55) ?hr ?_; (case hd => rfl); (case hg => rfl); (case hr => first | (go_simp; done) | (go_simp; rfl)); intro gb226 hg w44 hbox hb; have n0_ := A0_ (Kd.R_below (by exact rm_ HO221.out) hb); have n1_ := A0_ (below_step (qm_ HB.out) hb); have n2_ := A0_ (hbox); have n3_ := A0_ ((by rw [hg]; exact (below_size (qm_ HB.out)) : w.heap.size ≤ gb226)); have n4_ := A0_ ((by rw [hg]; exact (below_size (qm_ HB.out)) : w.heap.size ≤ gb226)); clear HO221 HB; have HO221 := n0_; have HB := n1_; have BK226 := n2_; have GW226 := n3_; have GE226 := n4_; clear n0_ n1_ n2_ n3_ n4_ hb hbox hg; have hcz45 := bc3_ BK226.out; have hfz45 := bf3_ BK226.out) | ((with_reducible refine gate_callee (f := 33) rfl ?_); refine goesL_ (some 22) rfl rfl Tryd.func33 (by kernel_rfl) rfl #[.agg #[.int .i64 t222, .int .i64 t223, .int .u64 t224], .int .u64 a1] rfl (by (try simp only [List.map_toArray, List.map_cons, List.map_nil]); first | done | rfl | (simp only [List.length_drop, List.length_take]; rfl)) ?_; (with_reducible refine (word_shape_class.calls t222 t223 t224 a1 t227 _ A5.out).mono ?_); rintro e w46 ⟨rfl, hb⟩; refine ⟨_, rfl, ?_⟩; have n0_ := A0_ (Kd.R_below (by (with_reducible repeat (first | apply Kd.R_alloc | apply Kd.R_drewN | apply Kd.R_drew)); exact (Kd.R_mono (Kd.R_far (p := ⟨gb226, 2, none⟩) (Kd.R_far (p := ⟨gb226, 1, none⟩) (Kd.R_far (p := ⟨gb226, 0, none⟩) (Kd.R_types HO221.out BK226.out (by decide)) (fun _ hk => hk.2) (.int .i64 t222)) (fun _ hk => hk.2) (.int .i64 t223)) (fun _ hk => hk.2) (.int .u64 t224)) (fun _ h_ => h_.1))) hb); have n1_ := A0_ (blk_below (g := gb226) (o := .cells #[.int .i64 t222, .int .i64 t223, .int .u64 t224] 55 (0, 0)) (by (with_reducible repeat first | apply bN_ | apply bD_ | apply bA_); refine blk_put (cs := #[.int .i64 t222, .int .i64 t223, .int .u64 0]) ?_ 2 _ rfl; (with_reducible repeat first | apply bN_ | apply bD_ | apply bA_); refine blk_put (cs := #[.int .i64 t222, .int .i64 0, .int .u64 0]) ?_ 1 _ rfl; (with_reducible repeat first | apply bN_ | apply bD_ | apply bA_); refine blk_put (cs := #[.int .i64 0, .int .i64 0, .int .u64 0]) ?_ 0 _ rfl; (with_reducible repeat first | apply bN_ | apply bD_ | apply bA_); exact BK226.out) hb); have n2_ := A0_ (below_step (by repeat (first | (with_reducible first | exact qm_ HB.out | apply qA_ | apply qN_ | apply qD_ | refine below_set ?_ GE226.out) | exact HB.out)) hb); clear HO221 BK226 HB; have HO221 := n0_; have BK226 := n1_; have HB := n2_; clear n0_ n1_ n2_; (try clear hb); have hcz47 := bc3_ BK226.out; have hfz47 := bf3_ BK226.out) | ((with_reducible refine gate_callee (f := 35) rfl ?_); refine goesL_ (some 29) rfl rfl Tryd.func35 (by kernel_rfl) rfl #[.agg #[.int .i64 t222, .int .i64 t223, .int .u64 t224]] rfl (by (try simp only [List.map_toArray, List.map_cons, List.map_nil]); first | done | rfl | (simp only [List.length_drop, List.length_take]; rfl)) ?_; (with_reducible refine (word_shape_inf.calls t222 t223 t224 t229 _ A17.out).mono ?_); rintro e w48 ⟨rfl, hb⟩; refine ⟨_, rfl, ?_⟩; have n0_ := A0_ (Kd.R_below (by exact rm_ HO221.out) hb); have n1_ := A0_ (blk_below (bm_ BK226.out) hb); have n2_ := A0_ (below_step (by repeat (first | (with_reducible first | exact qm_ HB.out | apply qA_ | apply qN_ | apply qD_ | refine below_set ?_ GE226.out) | exact HB.out)) hb); clear HO221 BK226 HB; have HO221 := n0_; have BK226 := n1_; have HB := n2_; clear n0_ n1_ n2_; (try clear hb); have hcz49 := bc3_ BK226.out; have hfz49 := bf3_ BK226.out))
      go_ret2
      exact ⟨by first | rfl | (simp [errW_none, errW_some] <;> rfl) | (simp [*, errW_none, errW_some] <;> rfl), by repeat (first | (with_reducible first | exact qm_ HB.out | apply qA_ | apply qN_ | apply qD_ | refine below_set ?_ GE226.out) | exact HB.out)⟩
     ·rw [if_neg c39] at H
      have c39b0 : ((Go.bits .and .u64 a1 t224) == 0) = false := beq_eq_false_iff_ne.mpr c39
      have c39b1 : ((Go.bits .and .u64 a1 t224) != 0) = true := bne_iff_ne.mpr c39
      simp only [Option.some.injEq, Prod.mk.injEq] at H
      obtain ⟨rfl, rfl⟩ := H
      go_enter Tryd.func7, Tryd.ntmps7
      go_wp2_with (first | ((with_reducible refine gate_dst (N := 11) rfl ?_); refine Kd.R_lit (Kd.int .u64) _ 23 ?hg (N := 11) ?hd (xs := ([a1] : List Int)) (inner := [.int .u64 a1]) (ok := fun _ => True) (okp := fun _ => True) ?hr ?hp (fun _ hk => hk) trivial (Below.refl _ _) (Nat.le_refl _) (by simp) ?_; (case hd => rfl); (case hg => rfl); (case hr => first | (go_simp; done) | (go_simp; rfl)); (case hp => exact (Reps.one (show Kd.M (Kd.int .u64) _ _ _ a1 [.int .u64 a1] from rfl) (Reps.none _ _))); intro v220 w50 ho51 hb hg_ hnew_; clear hg_ hnew_; (first | rw [← Ny219.out] at ho51 | (simp only [Int.reduceToNat] at ho51; rw [← Ny219.out] at ho51)); have n0_ := A0_ (Kd.R_lower ho51 (below_size (qm_ HB.out))); have n1_ := A0_ (below_step (qm_ HB.out) hb); clear HB; have HO221 := n0_; have HB := n1_; clear n0_ n1_ hb ho51; obtain ⟨Ao52, co52, eo52⟩ := Kd.R_slice HO221.out; subst eo52) | ((with_reducible refine gate_callee (f := 32) rfl ?_); refine goesL_ (some 12) rfl rfl Tryd.func32 (by kernel_rfl) rfl #[.int .u8 a0, .slice Ao52 y219.length co52] rfl (by (try simp only [List.map_toArray, List.map_cons, List.map_nil]); first | done | rfl | (simp only [List.length_drop, List.length_take]; rfl)) ?_; (with_reducible refine (word_open.calls k a0 _ _ y219 t222 t223 t224 t225 _ ?side1 ?side2 A3.out).mono ?_); (case side1 => repeat (first | exact (Kd.R_reads' HO221.out).2.2 | (with_reducible refine Kd.C_alloc ?_ _) | (with_reducible refine Kd.C_drewN ?_ _) | (with_reducible refine Kd.C_drew ?_))); (case side2 => exact (Kd.R_reads' HO221.out).2.1); rintro e w53 ⟨rfl, hb⟩; refine ⟨_, rfl, ?_⟩; have n0_ := A0_ (Kd.R_below (by exact rm_ HO221.out) hb); have n1_ := A0_ (below_step (qm_ HB.out) hb); clear HO221 HB; have HO221 := n0_; have HB := n1_; clear n0_ n1_; (try clear hb)) | ((with_reducible refine gate_dst (N := 6) rfl ?_); refine box_event ?hg (N := 6) ?hd (cs := #[.int .i64 0, .int .i64 0, .int .u64 0]) (t := 55) ?hr ?_; (case hd => rfl); (case hg => rfl); (case hr => first | (go_simp; done) | (go_simp; rfl)); intro gb226 hg w54 hbox hb; have n0_ := A0_ (Kd.R_below (by exact rm_ HO221.out) hb); have n1_ := A0_ (below_step (qm_ HB.out) hb); have n2_ := A0_ (hbox); have n3_ := A0_ ((by rw [hg]; exact (below_size (qm_ HB.out)) : w.heap.size ≤ gb226)); have n4_ := A0_ ((by rw [hg]; exact (below_size (qm_ HB.out)) : w.heap.size ≤ gb226)); clear HO221 HB; have HO221 := n0_; have HB := n1_; have BK226 := n2_; have GW226 := n3_; have GE226 := n4_; clear n0_ n1_ n2_ n3_ n4_ hb hbox hg; have hcz55 := bc3_ BK226.out; have hfz55 := bf3_ BK226.out) | ((with_reducible refine gate_callee (f := 33) rfl ?_); refine goesL_ (some 22) rfl rfl Tryd.func33 (by kernel_rfl) rfl #[.agg #[.int .i64 t222, .int .i64 t223, .int .u64 t224], .int .u64 a1] rfl (by (try simp only [List.map_toArray, List.map_cons, List.map_nil]); first | done | rfl | (simp only [List.length_drop, List.length_take]; rfl)) ?_; (with_reducible refine (word_shape_class.calls t222 t223 t224 a1 t227 _ A5.out).mono ?_); rintro e w56 ⟨rfl, hb⟩; refine ⟨_, rfl, ?_⟩; have n0_ := A0_ (Kd.R_below (by (with_reducible repeat (first | apply Kd.R_alloc | apply Kd.R_drewN | apply Kd.R_drew)); exact (Kd.R_mono (Kd.R_far (p := ⟨gb226, 2, none⟩) (Kd.R_far (p := ⟨gb226, 1, none⟩) (Kd.R_far (p := ⟨gb226, 0, none⟩) (Kd.R_types HO221.out BK226.out (by decide)) (fun _ hk => hk.2) (.int .i64 t222)) (fun _ hk => hk.2) (.int .i64 t223)) (fun _ hk => hk.2) (.int .u64 t224)) (fun _ h_ => h_.1))) hb); have n1_ := A0_ (blk_below (g := gb226) (o := .cells #[.int .i64 t222, .int .i64 t223, .int .u64 t224] 55 (0, 0)) (by (with_reducible repeat first | apply bN_ | apply bD_ | apply bA_); refine blk_put (cs := #[.int .i64 t222, .int .i64 t223, .int .u64 0]) ?_ 2 _ rfl; (with_reducible repeat first | apply bN_ | apply bD_ | apply bA_); refine blk_put (cs := #[.int .i64 t222, .int .i64 0, .int .u64 0]) ?_ 1 _ rfl; (with_reducible repeat first | apply bN_ | apply bD_ | apply bA_); refine blk_put (cs := #[.int .i64 0, .int .i64 0, .int .u64 0]) ?_ 0 _ rfl; (with_reducible repeat first | apply bN_ | apply bD_ | apply bA_); exact BK226.out) hb); have n2_ := A0_ (below_step (by repeat (first | (with_reducible first | exact qm_ HB.out | apply qA_ | apply qN_ | apply qD_ | refine below_set ?_ GE226.out) | exact HB.out)) hb); clear HO221 BK226 HB; have HO221 := n0_; have BK226 := n1_; have HB := n2_; clear n0_ n1_ n2_; (try clear hb); have hcz57 := bc3_ BK226.out; have hfz57 := bf3_ BK226.out) | ((with_reducible refine gate_callee (f := 35) rfl ?_); refine goesL_ (some 29) rfl rfl Tryd.func35 (by kernel_rfl) rfl #[.agg #[.int .i64 t222, .int .i64 t223, .int .u64 t224]] rfl (by (try simp only [List.map_toArray, List.map_cons, List.map_nil]); first | done | rfl | (simp only [List.length_drop, List.length_take]; rfl)) ?_; (with_reducible refine (word_shape_inf.calls t222 t223 t224 t229 _ A17.out).mono ?_); rintro e w58 ⟨rfl, hb⟩; refine ⟨_, rfl, ?_⟩; have n0_ := A0_ (Kd.R_below (by exact rm_ HO221.out) hb); have n1_ := A0_ (blk_below (bm_ BK226.out) hb); have n2_ := A0_ (below_step (by repeat (first | (with_reducible first | exact qm_ HB.out | apply qA_ | apply qN_ | apply qD_ | refine below_set ?_ GE226.out) | exact HB.out)) hb); clear HO221 BK226 HB; have HO221 := n0_; have BK226 := n1_; have HB := n2_; clear n0_ n1_ n2_; (try clear hb); have hcz59 := bc3_ BK226.out; have hfz59 := bf3_ BK226.out))
      go_ret2
      exact ⟨by first | rfl | (simp [errW_none, errW_some] <;> rfl) | (simp [*, errW_none, errW_some] <;> rfl), by repeat (first | (with_reducible first | exact qm_ HB.out | apply qA_ | apply qN_ | apply qD_ | refine below_set ?_ GE226.out) | exact HB.out)⟩
 ·rw [if_neg c4] at H
  have c4b0 : (t225 == 0) = false := beq_eq_false_iff_ne.mpr c4
  have c4b1 : (t225 != 0) = true := bne_iff_ne.mpr c4
  simp only [Option.some.injEq, Prod.mk.injEq] at H
  obtain ⟨rfl, rfl⟩ := H
  go_enter Tryd.func7, Tryd.ntmps7
  go_wp2_with (first | ((with_reducible refine gate_dst (N := 11) rfl ?_); refine Kd.R_lit (Kd.int .u64) _ 23 ?hg (N := 11) ?hd (xs := ([a1] : List Int)) (inner := [.int .u64 a1]) (ok := fun _ => True) (okp := fun _ => True) ?hr ?hp (fun _ hk => hk) trivial (Below.refl _ _) (Nat.le_refl _) (by simp) ?_; (case hd => rfl); (case hg => rfl); (case hr => first | (go_simp; done) | (go_simp; rfl)); (case hp => exact (Reps.one (show Kd.M (Kd.int .u64) _ _ _ a1 [.int .u64 a1] from rfl) (Reps.none _ _))); intro v220 w60 ho61 hb hg_ hnew_; clear hg_ hnew_; (first | rw [← Ny219.out] at ho61 | (simp only [Int.reduceToNat] at ho61; rw [← Ny219.out] at ho61)); have n0_ := A0_ (Kd.R_lower ho61 (below_size (qm_ HB.out))); have n1_ := A0_ (below_step (qm_ HB.out) hb); clear HB; have HO221 := n0_; have HB := n1_; clear n0_ n1_ hb ho61; obtain ⟨Ao62, co62, eo62⟩ := Kd.R_slice HO221.out; subst eo62) | ((with_reducible refine gate_callee (f := 32) rfl ?_); refine goesL_ (some 12) rfl rfl Tryd.func32 (by kernel_rfl) rfl #[.int .u8 a0, .slice Ao62 y219.length co62] rfl (by (try simp only [List.map_toArray, List.map_cons, List.map_nil]); first | done | rfl | (simp only [List.length_drop, List.length_take]; rfl)) ?_; (with_reducible refine (word_open.calls k a0 _ _ y219 t222 t223 t224 t225 _ ?side1 ?side2 A3.out).mono ?_); (case side1 => repeat (first | exact (Kd.R_reads' HO221.out).2.2 | (with_reducible refine Kd.C_alloc ?_ _) | (with_reducible refine Kd.C_drewN ?_ _) | (with_reducible refine Kd.C_drew ?_))); (case side2 => exact (Kd.R_reads' HO221.out).2.1); rintro e w63 ⟨rfl, hb⟩; refine ⟨_, rfl, ?_⟩; have n0_ := A0_ (Kd.R_below (by exact rm_ HO221.out) hb); have n1_ := A0_ (below_step (qm_ HB.out) hb); clear HO221 HB; have HO221 := n0_; have HB := n1_; clear n0_ n1_; (try clear hb)) | ((with_reducible refine gate_dst (N := 6) rfl ?_); refine box_event ?hg (N := 6) ?hd (cs := #[.int .i64 0, .int .i64 0, .int .u64 0]) (t := 55) ?hr ?_; (case hd => rfl); (case hg => rfl); (case hr => first | (go_simp; done) | (go_simp; rfl)); intro gb226 hg w64 hbox hb; have n0_ := A0_ (Kd.R_below (by exact rm_ HO221.out) hb); have n1_ := A0_ (below_step (qm_ HB.out) hb); have n2_ := A0_ (hbox); have n3_ := A0_ ((by rw [hg]; exact (below_size (qm_ HB.out)) : w.heap.size ≤ gb226)); have n4_ := A0_ ((by rw [hg]; exact (below_size (qm_ HB.out)) : w.heap.size ≤ gb226)); clear HO221 HB; have HO221 := n0_; have HB := n1_; have BK226 := n2_; have GW226 := n3_; have GE226 := n4_; clear n0_ n1_ n2_ n3_ n4_ hb hbox hg; have hcz65 := bc3_ BK226.out; have hfz65 := bf3_ BK226.out))
  go_ret2
  exact ⟨by first | rfl | (simp [errW_none, errW_some] <;> rfl) | (simp [*, errW_none, errW_some] <;> rfl), by repeat (first | (with_reducible first | exact qm_ HB.out | apply qA_ | apply qN_ | apply qD_ | refine below_set ?_ GE226.out) | exact HB.out)⟩
end Go.Proofs.YthiklmgdmaemgaaDoor.PA
end

section
namespace Go.Proofs.YthiklmgdmaemgaaDoor.PA
open Go.RowKit Go.Proofs.YthiklmgdmaemgaaDoorW.PrintWords Go.Proofs.YthiklmgdmaemgaaDoorW.PrintLast Go.Proofs.YthiklmgdmaemgaaDoorW.PrintMore
attribute [local go_sem] max2_int min2_int max_two min_two max_three min_three max_four min_four   -- for this text's walks alone
set_option linter.unusedVariables false
set_option linter.unusedSimpArgs false
theorem eqA48 (d : Nat) (w : World) (x0 y0 : Bool) (x1 y1 : Int) (x2 y2 : Int) :
    (Op.equalIn (d + 2) 48 (.agg #[.bool x0, .int .i64 x1, .int .u64 x2]) (.agg #[.bool y0, .int .i64 y1, .int .u64 y2])).run Tryd.prog w = .ok (x0 == y0 && (x1 == y1 && (x2 == y2))) w := by
  refine eqA_of Tryd.underlying48 (by kernel_rfl) ?_
  refine eqf_cons (by rfl) (by go_simp; rfl) (by go_simp; rfl) (by go_simp) ?_
  refine eqf_cons (by rfl) (by go_simp; rfl) (by go_simp; rfl) (by go_simp) ?_
  exact eqf_last (by rfl) (by go_simp; rfl) (by go_simp; rfl) (by go_simp)
end Go.Proofs.YthiklmgdmaemgaaDoor.PA
end
