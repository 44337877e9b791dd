/- Steps of Go functions that the law SpecialKinds uses, told as plain Lean functions, each with the proof that its call comes to what it tells; words on memory; plain facts. No condition beyond those that each text names. -/
import Derived.Test.YtlgapmhjaaajfaaProg
import Derived.WalkMore
import Derived.Below
import Derived.Deep.Draws
import Derived.Deep.AppendLies
import Derived.Maps.AppendAt
import Derived.OwnWalk
import Derived.Laws.BytesArg
import Derived.Laws.MakeOwn
import Derived.Laws.OwnMore
import Derived.Deep.OwnRows
import Derived.Tactics
import Derived.Lib.ConvBytes
import Derived.Laws.Slices
import Derived.WalkKit
import Derived.KernelRfl
import Derived.RowKit3
import Derived.Deep.LoopGhost
import Derived.Deep.QuietTactic
import Derived.BigQuiet
import Derived.WideLaws
import Derived.Deep.DeepCutAuto
import Derived.Deep.CutBlock
import Derived.Deep.RegionHeld3
import Derived.Laws.Rows
import Derived.Lib.AppendStr
import Derived.ArgAppend
import Derived.Laws.IdiomCopy
import Derived.OrdersHeld
import Derived.Laws.BitsLemmas
import Derived.RowKit
import Derived.Laws.StructEq
import Derived.Test.YtlgapmhjaaajfaaSSpecialKinds0
import Derived.Test.YtlgapmhjaaajfaaSSpecialKinds1
import Derived.Test.YtlgapmhjaaajfaaSSpecialKinds2
import Derived.Test.YtlgapmhjaaajfaaSSpecialKinds3
import Derived.Test.YtlgapmhjaaajfaaSSpecialKinds4
section
namespace Go.Proofs.Ytlgapmhjaaajfaa.PA
open Go.RowKit Go.Proofs.YtlgapmhjaaajfaaW.PrintWords Go.Proofs.YtlgapmhjaaajfaaW.PrintLast Go.Proofs.YtlgapmhjaaajfaaW.PrintMore
attribute [local go_sem] max2_int min2_int max_two min_two max_three min_three max_four min_four   -- for this text's walks alone
set_option linter.unusedVariables false
set_option linter.unusedSimpArgs false
mutual
def special_Div.j0 : Nat → Int → Int → Int → Int → Int → Bool → Int → Int → Int → Int → Option (Int × Int × Int × Int × Bool × Int)
 | 0, _, _, _, _, _, _, _, _, _, _ => none
 | k + 1, x0, x1, x13, x14, x15, x43, x872000, x872001, x873000, x873001 => if x43 = true then (some (0, 0, 0, 0, false, 0)) else (if x13 = 4 then (special_Div.j1 k x0 x1 x13 x14 x15 true x872000 x872001 x873000 x873001) else (special_Div.j1 k x0 x1 x13 x14 x15 (x14 == 4) x872000 x872001 x873000 x873001))
def special_Div.j1 : Nat → Int → Int → Int → Int → Int → Bool → Int → Int → Int → Int → Option (Int × Int × Int × Int × Bool × Int)
 | 0, _, _, _, _, _, _, _, _, _, _ => none
 | k + 1, x0, x1, x13, x14, x15, x51, x872000, x872001, x873000, x873001 => if x51 = true then ((special_none.f k x0 0).bind fun bt885 => (some (bt885.1, bt885.2.1, bt885.2.2.1, bt885.2.2.2, true, 0))) else (if x13 = x14 then ((special_none.f k x0 1).bind fun bt889 => (some (bt889.1, bt889.2.1, bt889.2.2.1, bt889.2.2.2, true, 0))) else ((special_boxOf.f k x0 x873000 x873001 x14).bind fun bt893 => (if x14 = 1 then (if bt893.2.1 = true then (special_Div.j2 k x0 x1 x13 x14 x15 x872000 x872001 (-1) bt893.2.1 bt893.2.2.1 bt893.2.2.2) else (special_Div.j2 k x0 x1 x13 x14 x15 x872000 x872001 1 bt893.2.1 bt893.2.2.1 bt893.2.2.2)) else (special_Div.j2 k x0 x1 x13 x14 x15 x872000 x872001 bt893.1 bt893.2.1 bt893.2.2.1 bt893.2.2.2))))
def special_Div.j2 : Nat → Int → Int → Int → Int → Int → Int → Int → Int → Bool → Int → Bool → Option (Int × Int × Int × Int × Bool × Int)
 | 0, _, _, _, _, _, _, _, _, _, _, _ => none
 | k + 1, x0, x1, x13, x14, x15, x872000, x872001, x898000, x898001, x898002, x898003 => (special_side_minus.f x898002 x898003).bind fun bt898 => ((special_boxOf.f k x0 x872000 x872001 x13).bind fun bt900 => ((special_box_times.f bt900.1 bt900.2.1 bt900.2.2.1 bt900.2.2.2 x898000 x898001 bt898.1 bt898.2 x1).bind fun bt904 => (if x14 = 3 then ((special_box_words.f k bt904.1 bt904.2.1 bt904.2.2.1 bt904.2.2.2 x0 0).bind fun bt909 => (some (bt909.1, bt909.2, 0, 0, true, 0))) else (if x13 = 3 then ((special_box_words.f k bt904.1 bt904.2.1 bt904.2.2.1 bt904.2.2.2 x0 x15).bind fun bt911 => (some (bt911.1, bt911.2, 0, 0, true, 0))) else ((special_box_words.f k bt904.1 bt904.2.1 bt904.2.2.1 bt904.2.2.2 x0 x15).bind fun bt913 => (some (bt913.1, bt913.2, 2, 2, true, 0)))))))
end
def special_Div.f (k : Nat) (a0 : Int) (a1 : Int) (a2_0 : Int) (a2_1 : Int) (a3_0 : Int) (a3_1 : Int) : Option (Int × Int × Int × Int × Bool × Int) := (special_open.f k a0 a1 (([(⟨a2_0, a2_1⟩ : S26), (⟨a3_0, a3_1⟩ : S26)] : List (S26)))).bind fun bt877 => (if bt877.2 = 0 then (if 0 < (bt877.1.length : Int) then (if 1 < (bt877.1.length : Int) then ((word_Inf.f k a0 false).bind fun bt883 => (if (rd bt877.1 0) ≤ 2 then (special_Div.j0 k a0 a1 (rd bt877.1 0) (rd bt877.1 1) bt883.1 ((rd bt877.1 1) == 2) a2_0 a2_1 a3_0 a3_1) else (special_Div.j0 k a0 a1 (rd bt877.1 0) (rd bt877.1 1) bt883.1 false a2_0 a2_1 a3_0 a3_1))) else (none)) else (none)) else (some (0, 0, 0, 0, false, bt877.2)))
def special_Div.T4 : Bool × List (List Nat × List Nat) := (true, [([], []), ([0], [0]), ([1], [1]), ([], []), ([3], [3]), ([4], [4]), ([2, 0, 1, 2], [2]), ([5, 6, 0, 1, 2, 3, 4, 5, 6], [5])])
def special_Div.B4 : List Nat := [0, 1, 3, 0, 8, 24, 7, 127]
theorem special_Div.tab4 : rtab .any (opsOf Try.f14 4) = special_Div.T4 := by kernel_rfl
theorem special_Div.bits4 : waitsOk special_Div.T4.2 special_Div.B4 = true := by kernel_rfl
def special_Div.T18 : Bool × List (List Nat × List Nat) := (true, [([], []), ([], []), ([], []), ([0, 1, 2], [0, 1, 2]), ([], []), ([], []), ([3, 4, 5, 3], [3, 4, 5]), ([], []), ([7, 6, 6, 0, 1, 2, 3, 4, 5, 6, 7], [6, 7])])
def special_Div.B18 : List Nat := [0, 0, 0, 7, 0, 0, 63, 0, 255]
theorem special_Div.tab18 : rtab .any (opsOf Try.f14 18) = special_Div.T18 := by kernel_rfl
theorem special_Div.bits18 : waitsOk special_Div.T18.2 special_Div.B18 = true := by kernel_rfl
set_option maxHeartbeats 2000000 in
set_option maxRecDepth 100000 in
theorem special_Div.calls (k : Nat) (a0 : Int) (a1 : Int) (a2_0 : Int) (a2_1 : Int) (a3_0 : Int) (a3_1 : Int) (r1 : Int) (r2 : Int) (r3 : Int) (r4 : Int) (r5 : Bool) (r6 : Int) (w : World) (h : special_Div.f k a0 a1 a2_0 a2_1 a3_0 a3_1 = some (r1, r2, r3, r4, r5, r6)) :
  Calls Try.prog 14 #[.int .u8 a0, .int .u8 a1, .agg #[.int .u64 a2_0, .int .u64 a2_1], .agg #[.int .u64 a3_0, .int .u64 a3_1]] w fun e w' => e = .returned (.tuple #[.agg #[.int .u64 r1, .int .u64 r2, .int .u8 r3, .int .u8 r4], .bool r5, .int .i64 r6]) ∧ Below w.heap.size w w' := by
 have hap54_0 : ∀ (g : Nat) (w : World), (Instr.indexAt 54 (.pointer (some ⟨g, 0, none⟩)) (.int .i64 0)).run Try.prog w = .ok (.pointer (some ⟨g, 0, none⟩)) w := fun _ _ => by kernel_rfl
 have hap54_1 : ∀ (g : Nat) (w : World), (Instr.indexAt 54 (.pointer (some ⟨g, 0, none⟩)) (.int .i64 1)).run Try.prog w = .ok (.pointer (some ⟨g, 2, none⟩)) w := fun _ _ => by kernel_rfl
 have hu26 := Try.underlying26
 have hu29 := Try.underlying29
 have hu54 := Try.underlying54
 have hu52 := Try.underlying52
 have HB := A0_ (Below.refl w.heap.size w)
 have H : ((special_open.f k a0 a1 (([(⟨a2_0, a2_1⟩ : S26), (⟨a3_0, a3_1⟩ : S26)] : List (S26)))).bind fun bt877 => (if bt877.2 = 0 then (if 0 < (bt877.1.length : Int) then (if 1 < (bt877.1.length : Int) then ((word_Inf.f k a0 false).bind fun bt883 => (if (rd bt877.1 0) ≤ 2 then (special_Div.j0 k a0 a1 (rd bt877.1 0) (rd bt877.1 1) bt883.1 ((rd bt877.1 1) == 2) a2_0 a2_1 a3_0 a3_1) else (special_Div.j0 k a0 a1 (rd bt877.1 0) (rd bt877.1 1) bt883.1 false a2_0 a2_1 a3_0 a3_1))) else (none)) else (none)) else (some (0, 0, 0, 0, false, bt877.2)))) = some (r1, r2, r3, r4, r5, r6) := h
 clear h
 obtain ⟨y874, hy874⟩ : ∃ y_ : List (S26), y_ = (([(⟨a2_0, a2_1⟩ : S26), (⟨a3_0, a3_1⟩ : S26)] : List (S26))) := ⟨_, rfl⟩
 replace H : ((special_open.f k a0 a1 y874).bind fun bt877 => (if bt877.2 = 0 then (if 0 < (bt877.1.length : Int) then (if 1 < (bt877.1.length : Int) then ((word_Inf.f k a0 false).bind fun bt883 => (if (rd bt877.1 0) ≤ 2 then (special_Div.j0 k a0 a1 (rd bt877.1 0) (rd bt877.1 1) bt883.1 ((rd bt877.1 1) == 2) a2_0 a2_1 a3_0 a3_1) else (special_Div.j0 k a0 a1 (rd bt877.1 0) (rd bt877.1 1) bt883.1 false a2_0 a2_1 a3_0 a3_1))) else (none)) else (none)) else (some (0, 0, 0, 0, false, bt877.2)))) = some (r1, r2, r3, r4, r5, r6) := by first | (rw [hy874]; with_reducible exact H) | (have H2_ := (Option.bind_some _ _).symm.trans H; rw [hy874]; with_reducible exact H2_) | (have H2_ := (Option.bind_some _ _).symm.trans H; with_reducible exact H2_) | with_reducible exact H | (rw [hy874]; exact H) | exact H
 have Ny874 := A0_ hy874
 clear hy874
 replace H := Option.bind_eq_some_iff.mp H
 obtain ⟨⟨t877, t878⟩, A50, H⟩ := H
 replace H : (if t878 = 0 then (if 0 < (t877.length : Int) then (if 1 < (t877.length : Int) then ((word_Inf.f k a0 false).bind fun bt883 => (if (rd t877 0) ≤ 2 then (special_Div.j0 k a0 a1 (rd t877 0) (rd t877 1) bt883.1 ((rd t877 1) == 2) a2_0 a2_1 a3_0 a3_1) else (special_Div.j0 k a0 a1 (rd t877 0) (rd t877 1) bt883.1 false a2_0 a2_1 a3_0 a3_1))) else (none)) else (none)) else (some (0, 0, 0, 0, false, t878))) = some (r1, r2, r3, r4, r5, r6) := H
 have A5 := A0_ A50
 clear A50
 by_cases c6 : t878 = 0
 ·rw [if_pos c6] at H
  have c6b0 : (t878 == 0) = true := beq_iff_eq.mpr c6
  have c6b1 : (t878 != 0) = false := bne_eq_false_iff_eq.mpr c6
  clear c6
  by_cases c7 : 0 < (t877.length : Int)
  ·rw [if_pos c7] at H
   have c7b0 : decide (0 < (t877.length : Int)) = true := decide_eq_true c7
   have c7b1 : decide (0 < t877.length) = true := decide_eq_true (by omega)
   clear c7
   by_cases c8 : 1 < (t877.length : Int)
   ·rw [if_pos c8] at H
    have c8b0 : decide (1 < (t877.length : Int)) = true := decide_eq_true c8
    have c8b1 : decide (1 < t877.length) = true := decide_eq_true (by omega)
    clear c8
    replace H := Option.bind_eq_some_iff.mp H
    obtain ⟨⟨t883, t884⟩, A90, H⟩ := H
    replace H : (if (rd t877 0) ≤ 2 then (special_Div.j0 k a0 a1 (rd t877 0) (rd t877 1) t883 ((rd t877 1) == 2) a2_0 a2_1 a3_0 a3_1) else (special_Div.j0 k a0 a1 (rd t877 0) (rd t877 1) t883 false a2_0 a2_1 a3_0 a3_1)) = some (r1, r2, r3, r4, r5, r6) := H
    have A9 := A0_ A90
    clear A90
    have HC10 := A0_ H
    clear H
    go_enter Try.func14, Try.ntmps14
    try go_wp2_with (first | ((with_reducible refine gate_dst (N := 6) rfl ?_); refine box_event ?hg (N := 6) ?hd (cs := #[.int .u64 a2_0, .int .u64 a2_1]) (t := 26) ?hr ?_; (case hd => rfl); (case hg => rfl); (case hr => first | (go_simp; done) | (go_simp; rfl)); intro gb871 hg w11 hbox hb; have n0_ := A0_ (below_step (qm_ HB.out) hb); have n1_ := A0_ (hbox); have n2_ := A0_ ((by rw [hg]; exact (below_size (qm_ HB.out)) : w.heap.size ≤ gb871)); have n3_ := A0_ ((by rw [hg]; exact (below_size (qm_ HB.out)) : w.heap.size ≤ gb871)); clear HB; have HB := n0_; have BK871 := n1_; have GW871 := n2_; have GE871 := n3_; clear n0_ n1_ n2_ n3_; clear hb hbox hg) | ((with_reducible refine gate_dst (N := 7) rfl ?_); refine box_event ?hg (N := 7) ?hd (cs := #[.int .u64 a3_0, .int .u64 a3_1]) (t := 26) ?hr ?_; (case hd => rfl); (case hg => rfl); (case hr => first | (go_simp; done) | (go_simp; rfl)); intro gb872 hg w12 hbox hb; have n0_ := A0_ (blk_below (bm_ BK871.out) hb); have n1_ := A0_ (below_step (by repeat (first | (with_reducible first | exact qm_ HB.out | apply qA_ | apply qN_ | apply qD_ | refine below_set ?_ GE871.out) | exact HB.out)) hb); have n2_ := A0_ (hbox); have n3_ := A0_ ((by rw [hg]; exact (below_size (by repeat (first | (with_reducible first | exact qm_ HB.out | apply qA_ | apply qN_ | apply qD_ | refine below_set ?_ GE871.out) | exact HB.out))) : w.heap.size ≤ gb872)); have n4_ := A0_ ((by rw [hg]; exact (below_size (by repeat (first | (with_reducible first | exact qm_ HB.out | apply qA_ | apply qN_ | apply qD_ | refine below_set ?_ GE871.out) | exact HB.out))) : w.heap.size ≤ gb872)); have n5_ := A0_ ((by rw [hg]; exact Nat.ne_of_lt (blk_lt (bm_ BK871.out)) : gb871 ≠ gb872)); have n6_ := A0_ ((by rw [hg]; exact Nat.ne_of_gt (blk_lt (bm_ BK871.out)) : gb872 ≠ gb871)); clear BK871; clear HB; have BK871 := n0_; have HB := n1_; have BK872 := n2_; have GW872 := n3_; have GE872 := n4_; have NB871_872 := n5_; have NB872_871 := n6_; clear n0_ n1_ n2_ n3_ n4_ n5_ n6_; clear hb hbox hg) | ((with_reducible refine gate_dst (N := 8) rfl ?_); refine box_event ?hg (N := 8) ?hd (cs := #[.int .u64 0, .int .u64 0, .int .u8 0, .int .u8 0]) (t := 29) ?hr ?_; (case hd => rfl); (case hg => rfl); (case hr => first | (go_simp; done) | (go_simp; rfl)); intro gb873 hg w13 hbox hb; have n0_ := A0_ (blk_below (bm_ BK871.out) hb); have n1_ := A0_ (blk_below (bm_ BK872.out) hb); have n2_ := A0_ (below_step (by repeat (first | (with_reducible first | exact qm_ HB.out | apply qA_ | apply qN_ | apply qD_ | refine below_set ?_ GE871.out | refine below_set ?_ GE872.out) | exact HB.out)) hb); have n3_ := A0_ (hbox); have n4_ := A0_ ((by rw [hg]; exact (below_size (by repeat (first | (with_reducible first | exact qm_ HB.out | apply qA_ | apply qN_ | apply qD_ | refine below_set ?_ GE871.out | refine below_set ?_ GE872.out) | exact HB.out))) : w.heap.size ≤ gb873)); have n5_ := A0_ ((by rw [hg]; exact (below_size (by repeat (first | (with_reducible first | exact qm_ HB.out | apply qA_ | apply qN_ | apply qD_ | refine below_set ?_ GE871.out | refine below_set ?_ GE872.out) | exact HB.out))) : w.heap.size ≤ gb873)); have n6_ := A0_ ((by rw [hg]; exact Nat.ne_of_lt (blk_lt (bm_ BK871.out)) : gb871 ≠ gb873)); have n7_ := A0_ ((by rw [hg]; exact Nat.ne_of_gt (blk_lt (bm_ BK871.out)) : gb873 ≠ gb871)); have n8_ := A0_ ((by rw [hg]; exact Nat.ne_of_lt (blk_lt (bm_ BK872.out)) : gb872 ≠ gb873)); have n9_ := A0_ ((by rw [hg]; exact Nat.ne_of_gt (blk_lt (bm_ BK872.out)) : gb873 ≠ gb872)); clear BK871; clear BK872; clear HB; have BK871 := n0_; have BK872 := n1_; have HB := n2_; have BK873 := n3_; have GW873 := n4_; have GE873 := n5_; have NB871_873 := n6_; have NB873_871 := n7_; have NB872_873 := n8_; have NB873_872 := n9_; clear n0_ n1_ n2_ n3_ n4_ n5_ n6_ n7_ n8_ n9_; clear hb hbox hg; have hnb14 := NB871_872.out; have hnc14 := NB872_871.out; have hnb15 := NB871_873.out; have hnc15 := NB873_871.out; have hcz16 := bc2_ BK871.out; have hfz16 := bf2_ BK871.out; have hnb17 := NB872_873.out; have hnc17 := NB873_872.out; have hcz18 := bc2_ BK872.out; have hfz18 := bf2_ BK872.out) | ((with_reducible refine gate_dst (N := 24) rfl ?_); refine Kd.R_lit k26 _ 26 ?hg (N := 24) ?hd (xs := ([(⟨a2_0, a2_1⟩ : S26), (⟨a3_0, a3_1⟩ : S26)] : List (S26))) (inner := [.int .u64 a2_0, .int .u64 a2_1, .int .u64 a3_0, .int .u64 a3_1]) (ok := fun _ => True) (okp := fun _ => True) ?hr ?hp (fun _ hk => hk) trivial (Below.refl _ _) (Nat.le_refl _) (by simp) ?_; (case hd => rfl); (case hg => rfl); (case hr => first | (go_simp; done) | (go_simp; rfl)); (case hp => exact (Reps.c2 (show Kd.M k26 _ _ _ (⟨a2_0, a2_1⟩ : S26) [.int .u64 a2_0, .int .u64 a2_1] from (k26_mkM _ _ _ (⟨a2_0, a2_1⟩ : S26) )) (Reps.c2 (show Kd.M k26 _ _ _ (⟨a3_0, a3_1⟩ : S26) [.int .u64 a3_0, .int .u64 a3_1] from (k26_mkM _ _ _ (⟨a3_0, a3_1⟩ : S26) )) (Reps.none _ _)))); intro v875 w19 ho20 hb hg_ hnew_; clear hg_ hnew_; (first | rw [← Ny874.out] at ho20 | (simp only [Int.reduceToNat] at ho20; rw [← Ny874.out] at ho20)); have n0_ := A0_ (Kd.R_lower (Kd.R_newB (Kd.R_newB ho20 (bm_ BK871.out)) (bm_ BK872.out)) (below_size (by repeat (first | (with_reducible first | exact qm_ HB.out | apply qA_ | apply qN_ | apply qD_ | refine below_set ?_ GE871.out | refine below_set ?_ GE872.out | refine below_set ?_ GE873.out) | exact HB.out)))); have n1_ := A0_ (blk_below (bm_ BK871.out) hb); have n2_ := A0_ (blk_below (bm_ BK872.out) hb); have n3_ := A0_ (blk_below (bm_ BK873.out) hb); have n4_ := A0_ (below_step (by repeat (first | (with_reducible first | exact qm_ HB.out | apply qA_ | apply qN_ | apply qD_ | refine below_set ?_ GE871.out | refine below_set ?_ GE872.out | refine below_set ?_ GE873.out) | exact HB.out)) hb); clear BK871; clear BK872; clear BK873; clear HB; have HO876 := n0_; have BK871 := n1_; have BK872 := n2_; have BK873 := n3_; have HB := n4_; clear n0_ n1_ n2_ n3_ n4_; clear hb ho20; obtain ⟨Ao21, co21, eo21⟩ := Kd.R_slice HO876.out; subst eo21) | ((with_reducible refine gate_callee (f := 16) rfl ?_); refine goesL_ (some 25) rfl rfl Try.func16 (by kernel_rfl) rfl #[.int .u8 a0, .int .u8 a1, .slice Ao21 y874.length co21] rfl (by (try simp only [List.map_toArray, List.map_cons, List.map_nil]); first | done | rfl | (simp only [List.length_drop, List.length_take]; rfl)) ?_; (with_reducible refine (special_open.calls k a0 a1 _ _ y874 t877 t878 _ ?side1 ?side2 A5.out).mono ?_); (case side1 => repeat (first | exact (Kd.R_reads' HO876.out).2.2 | (with_reducible refine Kd.C_alloc ?_ _) | (with_reducible refine Kd.C_drewN ?_ _) | (with_reducible refine Kd.C_drew ?_))); (case side2 => exact (Kd.R_reads' HO876.out).2.1); rintro e w22 ⟨v879, rfl, ho0, hb⟩; refine ⟨_, rfl, ?_⟩; have n0_ := A0_ (Kd.R_below (by exact rm_ HO876.out) hb); have n1_ := A0_ (Kd.R_lower ho0 (below_size (by repeat (first | (with_reducible first | exact qm_ HB.out | apply qA_ | apply qN_ | apply qD_ | refine below_set ?_ GE871.out | refine below_set ?_ GE872.out | refine below_set ?_ GE873.out) | exact HB.out)))); have n2_ := A0_ (blk_below (bm_ BK871.out) hb); have n3_ := A0_ (blk_below (bm_ BK872.out) hb); have n4_ := A0_ (blk_below (bm_ BK873.out) hb); have n5_ := A0_ (below_step (by repeat (first | (with_reducible first | exact qm_ HB.out | apply qA_ | apply qN_ | apply qD_ | refine below_set ?_ GE871.out | refine below_set ?_ GE872.out | refine below_set ?_ GE873.out) | exact HB.out)) hb); clear HO876; clear BK871; clear BK872; clear BK873; clear HB; have HO876 := n0_; have HO880 := n1_; have BK871 := n2_; have BK872 := n3_; have BK873 := n4_; have HB := n5_; clear n0_ n1_ n2_ n3_ n4_ n5_; (try clear hb); (try clear hb2); (try clear hk); (try clear hi); (try clear ho0)))
    have n0_ := A0_ (Kd.R_drew HO876.out)
    have n1_ := A0_ (Kd.R_drew HO880.out)
    have n2_ := A0_ (blk_drew BK871.out)
    have n3_ := A0_ (blk_drew BK872.out)
    have n4_ := A0_ (blk_drew BK873.out)
    have n5_ := A0_ (below_drew1 HB.out)
    clear HO876
    clear HO880
    clear BK871
    clear BK872
    clear BK873
    clear HB
    have HO876 := n0_
    have HO880 := n1_
    have BK871 := n2_
    have BK872 := n3_
    have BK873 := n4_
    have HB := n5_
    clear n0_ n1_ n2_ n3_ n4_ n5_
    obtain ⟨Ao24, co24, eo24⟩ := Kd.R_slice HO880.out
    (first | subst eo24 | (injection eo24 with f1_ f2_ f3_; have f4_ := f1_.symm; have f5_ := f3_.symm; clear f1_ f2_ f3_; subst f4_; subst f5_))
    have p881 : 0 ≤ (0 : Int) := (by omega)
    have q881 : 0 < (t877.length : Int) := of_decide_eq_true (by first | (with_reducible assumption) | assumption)
    obtain ⟨ad881, e881, hx881_0⟩ := Kd.at_int (Kd.R_reads' HO880.out).2.2 0 p881 q881
    cases e881
    have qi881 : (0 < t877.length) = True := eq_true (by omega)
    (try rw [show ((0 : Int)).toNat = 0 from rfl] at hx881_0)
    (try rw [Addr.add_zero'] at hx881_0)
    replace p881 := eq_true p881
    replace q881 := eq_true q881
    have p882 : 0 ≤ (1 : Int) := (by omega)
    have q882 : 1 < (t877.length : Int) := of_decide_eq_true (by first | (with_reducible assumption) | assumption)
    obtain ⟨ad882, e882, hx882_0⟩ := Kd.at_int (Kd.R_reads' HO880.out).2.2 1 p882 q882
    obtain rfl : ad881 = ad882 := (by injection e882)
    (try simp only [show (1 : Int).toNat = 1 from rfl, Nat.reduceMul, Nat.reduceEqDiff, Go.Addr.add, ↓reduceIte] at hx882_0)
    have qi882 : (1 < t877.length) = True := eq_true (by omega)
    (try rw [show ((1 : Int)).toNat = 1 from rfl] at hx882_0)
    replace p882 := eq_true p882
    replace q882 := eq_true q882
    refine start_ (n := 8) (S := fun w' => w'.cell? ad881 = some (.int .u8 (rd t877 0)) ∧ w'.cell? ⟨ad881.block, ad881.off + 1, none⟩ = some (.int .u8 (rd t877 1))) (ds := []) #[false, false, false, false, false, false, false, false] (by kernel_rfl) rfl rfl ⟨hx881_0, hx882_0⟩ (fun hHeld => ?_); refine with_tabW special_Div.tab4 special_Div.bits4 (fun HT_ HW_ => ?_)
    generalize w22.drew = w23 at HO876 HO880 BK871 BK872 BK873 HB hx881_0 hx882_0 hHeld ⊢
    refine pure_ (i := 0) (N := some 32) (v := ?_) (a' := ?_) #[true, false, false, false, false, false, false, false] rfl rfl (any_of HT_.out (by kernel_rfl)) (fun _ _ _ h => h) (Or.inl ⟨by rfl, ?_⟩) ?_ ?_
    rotate_left
    ·intro w'
     go_simp
     with_reducible rfl
    rotate_left
    ·simp only [Act.put, List.setIfInBounds_toArray, List.set_cons_zero, List.set_cons_succ, i64_w, i32_w]
     rfl
    refine pure_ (i := 1) (N := some 33) (v := ?_) (a' := ?_) #[true, true, false, false, false, false, false, false] rfl rfl (any_of HT_.out (by kernel_rfl)) (fun _ _ _ h => h) (Or.inl ⟨by rfl, ?_⟩) ?_ ?_
    rotate_left
    ·intro w'
     go_simp
     with_reducible rfl
    rotate_left
    ·simp only [Act.put, List.setIfInBounds_toArray, List.set_cons_zero, List.set_cons_succ, i64_w, i32_w]
     rfl
    refine pure_ (i := 3) (N := some 35) (v := ?_) (a' := ?_) #[true, true, false, true, false, false, false, false] rfl rfl (any_of HT_.out (by kernel_rfl)) (fun _ _ _ h => h) (Or.inl ⟨by rfl, ?_⟩) ?_ ?_
    rotate_left
    ·intro w'
     go_simp
     with_reducible rfl
    rotate_left
    ·simp only [Act.put, List.setIfInBounds_toArray, List.set_cons_zero, List.set_cons_succ, i64_w, i32_w]
     rfl
    refine pure_ (i := 4) (N := some 36) (v := ?_) (a' := ?_) #[true, true, false, true, true, false, false, false] rfl rfl (any_of HT_.out (by kernel_rfl)) (fun _ _ _ h => h) (Or.inl ⟨by rfl, ?_⟩) ?_ ?_
    rotate_left
    ·intro w'
     go_simp
     with_reducible rfl
    rotate_left
    ·simp only [Act.put, List.setIfInBounds_toArray, List.set_cons_zero, List.set_cons_succ, i64_w, i32_w]
     rfl
    refine take_ (i := 2) (N := some 34) (v := ?_) (a' := ?_) #[true, true, true, true, true, false, false, false] rfl rfl (take_ofW HT_.out HW_.out (by kernel_rfl)) (fun _ _ _ h => h) (Or.inl ⟨by rfl, ?_⟩) hHeld ?_ ?_
    rotate_left
    ·rintro w' ⟨s0, s1⟩
     go_simp
     with_reducible rfl
    rotate_left
    ·simp only [Act.put, List.setIfInBounds_toArray, List.set_cons_zero, List.set_cons_succ, i64_w, i32_w]
     rfl
    refine pure_ (i := 6) (N := some 13) (v := ?_) (a' := ?_) #[true, true, true, true, true, false, true, false] rfl rfl (any_of HT_.out (by kernel_rfl)) (fun _ _ _ h => h) (Or.inl ⟨by rfl, ?_⟩) ?_ ?_
    rotate_left
    ·intro w'
     go_simp
     with_reducible rfl
    rotate_left
    ·simp only [Act.put, List.setIfInBounds_toArray, List.set_cons_zero, List.set_cons_succ, i64_w, i32_w]
     rfl
    refine take_ (i := 5) (N := some 37) (v := ?_) (a' := ?_) #[true, true, true, true, true, true, true, false] rfl rfl (take_ofW HT_.out HW_.out (by kernel_rfl)) (fun _ _ _ h => h) (Or.inl ⟨by rfl, ?_⟩) hHeld ?_ ?_
    rotate_left
    ·rintro w' ⟨s0, s1⟩
     go_simp
     with_reducible rfl
    rotate_left
    ·simp only [Act.put, List.setIfInBounds_toArray, List.set_cons_zero, List.set_cons_succ, i64_w, i32_w]
     rfl
    refine pure_ (i := 7) (N := some 14) (v := ?_) (a' := ?_) #[true, true, true, true, true, true, true, true] rfl rfl (any_of HT_.out (by kernel_rfl)) (fun _ _ _ h => h) (Or.inl ⟨by rfl, ?_⟩) ?_ ?_
    rotate_left
    ·intro w'
     go_simp
     with_reducible rfl
    rotate_left
    ·simp only [Act.put, List.setIfInBounds_toArray, List.set_cons_zero, List.set_cons_succ, i64_w, i32_w]
     rfl
    refine done_ (done_of HT_.out (by kernel_rfl)) ?_
    go_upto_region 6 with (first | ((with_reducible refine gate_callee (f := 17) rfl ?_); refine goesL_ (some 40) rfl rfl Try.func17 (by kernel_rfl) rfl #[.int .u8 a0, .bool false] rfl (by (try simp only [List.map_toArray, List.map_cons, List.map_nil]); first | done | rfl | (simp only [List.length_drop, List.length_take]; rfl)) ?_; (with_reducible refine (word_Inf.calls k a0 false t883 t884 _ A9.out).mono ?_); rintro e w25 ⟨rfl, hb⟩; refine ⟨_, rfl, ?_⟩; have n0_ := A0_ (Kd.R_below (by exact rm_ HO876.out) hb); have n1_ := A0_ (Kd.R_below (by exact rm_ HO880.out) hb); have n2_ := A0_ (blk_below (bm_ BK871.out) hb); have n3_ := A0_ (blk_below (bm_ BK872.out) hb); have n4_ := A0_ (blk_below (bm_ BK873.out) hb); have n5_ := A0_ (below_step (by repeat (first | (with_reducible first | exact qm_ HB.out | apply qA_ | apply qN_ | apply qD_ | refine below_set ?_ GE871.out | refine below_set ?_ GE872.out | refine below_set ?_ GE873.out) | exact HB.out)) hb); clear HO876; clear HO880; clear BK871; clear BK872; clear BK873; clear HB; have HO876 := n0_; have HO880 := n1_; have BK871 := n2_; have BK872 := n3_; have BK873 := n4_; have HB := n5_; clear n0_ n1_ n2_ n3_ n4_ n5_; (try clear hb); (try clear hb2); (try clear hk); (try clear hi)))
    (try simp only [Act.put, List.setIfInBounds_toArray, List.set_cons_zero, List.set_cons_succ])
    go_cut [43] (fun v43 wc => ∃ (kq : Nat) (x43_9 : Bool), v43 = .bool x43_9 ∧ Aside0 (special_Div.j0 kq a0 a1 (rd t877 0) (rd t877 1) t883 x43_9 a2_0 a2_1 a3_0 a3_1 = some (r1, r2, r3, r4, r5, r6)) ∧ Aside0 (kq ≤ k) ∧ Aside0 (wc.heap[gb871]? = some (.cells #[.int .u64 a2_0, .int .u64 a2_1] 26 (0, 0))) ∧ Aside0 (wc.heap[gb872]? = some (.cells #[.int .u64 a3_0, .int .u64 a3_1] 26 (0, 0))) ∧ Aside0 (wc.heap[gb873]? = some (.cells #[.int .u64 0, .int .u64 0, .int .u8 0, .int .u8 0] 29 (0, 0))) ∧ Aside0 (Below w.heap.size w wc))
    case first =>
     have H := HC10.out
     clear HC10
     by_cases c26 : (rd t877 0) ≤ 2
     ·rw [if_pos c26] at H
      have c26b0 : decide ((rd t877 0) ≤ 2) = true := decide_eq_true c26
      clear c26
      (first | rw [c26b0] | (simp only [i64_w, i32_w]; rw [c26b0]) | skip)
      have H' := A0_ H
      clear H
      go_wp2
      go_meet
      case rel => exact ⟨_, (((rd t877 1) == 2)), (by first | rfl | (simp; done) | (simp [*]; done)), H', ⟨by first | omega | exact Nat.le_refl _⟩, ⟨bm_ BK871.out⟩, ⟨bm_ BK872.out⟩, ⟨bm_ BK873.out⟩, ⟨by repeat (first | (with_reducible first | exact qm_ HB.out | apply qA_ | apply qN_ | apply qD_ | refine below_set ?_ GE871.out | refine below_set ?_ GE872.out | refine below_set ?_ GE873.out) | exact HB.out)⟩⟩
     ·rw [if_neg c26] at H
      have c26b0 : decide ((rd t877 0) ≤ 2) = false := decide_eq_false c26
      clear c26
      (first | rw [c26b0] | (simp only [i64_w, i32_w]; rw [c26b0]) | skip)
      have H' := A0_ H
      clear H
      go_wp2
      go_meet
      case rel => exact ⟨_, (false), (by first | rfl | (simp; done) | (simp [*]; done)), H', ⟨by first | omega | exact Nat.le_refl _⟩, ⟨bm_ BK871.out⟩, ⟨bm_ BK872.out⟩, ⟨bm_ BK873.out⟩, ⟨by repeat (first | (with_reducible first | exact qm_ HB.out | apply qA_ | apply qN_ | apply qD_ | refine below_set ?_ GE871.out | refine below_set ?_ GE872.out | refine below_set ?_ GE873.out) | exact HB.out)⟩⟩
    case rest =>
     clear HC10
     try clear c1
     try clear c2
     try clear p2
     try clear c6
     try clear c6b0
     try clear c6b1
     try clear c7
     try clear c7b0
     try clear c7b1
     try clear c8
     try clear c8b0
     try clear c8b1
     try clear p8
     try clear q8
     try clear hx8
     try clear qi8
     try clear c14
     try clear c15
     try clear c16
     try clear c17
     try clear c26
     try clear c26b0
     try clear hcz16
     try clear hcz18
     try clear hfz16
     try clear hfz18
     try clear hx881_0
     try clear hx882_0
     try clear p881
     try clear p882
     try clear q881
     try clear q882
     obtain ⟨kq, x43_9, rfl, HA, HJ9, BK871, BK872, BK873, HB⟩ := hcut
     cases kq with
     | zero => exact absurd HA.out (by simp [special_Div.j0])
     | succ kj9 =>
      have H := HA.out
      clear HA
      simp only [special_Div.j0] at H
      by_cases c27 : x43_9 = true
      ·subst c27
       have H1 : (some (0, 0, 0, 0, false, 0)) = some (r1, r2, r3, r4, r5, r6) := by rw [if_pos rfl] at H; exact H
       clear H
       have H := H1
       clear H1
       simp only [Option.some.injEq, Prod.mk.injEq] at H
       obtain ⟨rfl, rfl, rfl, rfl, rfl, rfl⟩ := H
       have hnb28 := NB873_871.out
       have hnc28 := NB871_873.out
       have hnb29 := NB873_872.out
       have hnc29 := NB872_873.out
       have hcz30 := bc4_ BK873.out
       have hfz30 := bf4_ BK873.out
       go_wp2
       refine bodyPost_ret (results_ctt rfl _ _ gb873 29 #[.int .u64 0, .int .u64 0, .int .u8 0, .int .u8 0] (0, 0) _ rfl (by (with_reducible repeat first | apply bN_ | apply bD_ | apply bA_); refine blk_put (cs := #[.int .u64 0, .int .u64 0, .int .u8 0, .int .u8 0]) ?_ 3 _ rfl; (with_reducible repeat first | apply bN_ | apply bD_ | apply bA_); refine blk_put (cs := #[.int .u64 0, .int .u64 0, .int .u8 0, .int .u8 0]) ?_ 2 _ rfl; (with_reducible repeat first | apply bN_ | apply bD_ | apply bA_); refine blk_put (cs := #[.int .u64 0, .int .u64 0, .int .u8 0, .int .u8 0]) ?_ 1 _ rfl; (with_reducible repeat first | apply bN_ | apply bD_ | apply bA_); refine blk_put (cs := #[.int .u64 0, .int .u64 0, .int .u8 0, .int .u8 0]) ?_ 0 _ rfl; (with_reducible repeat first | apply bN_ | apply bD_ | apply bA_); exact BK873.out) Try.underlying29 rfl (by kernel_rfl)) rfl ?_
       exact ⟨by first | rfl | (simp [errW_none, errW_some] <;> rfl) | (simp [*, errW_none, errW_some] <;> rfl), by repeat (first | (with_reducible first | exact qm_ HB.out | apply qA_ | apply qN_ | apply qD_ | refine below_set ?_ GE871.out | refine below_set ?_ GE872.out | refine below_set ?_ GE873.out) | exact HB.out)⟩
      ·replace c27 := Bool.eq_false_iff.mpr c27
       subst c27
       have H1 : (if (rd t877 0) = 4 then (special_Div.j1 kj9 a0 a1 (rd t877 0) (rd t877 1) t883 true a2_0 a2_1 a3_0 a3_1) else (special_Div.j1 kj9 a0 a1 (rd t877 0) (rd t877 1) t883 ((rd t877 1) == 4) a2_0 a2_1 a3_0 a3_1)) = some (r1, r2, r3, r4, r5, r6) := by rw [if_neg (show ¬ (false = true) by decide)] at H; exact H
       clear H
       have H := H1
       clear H1
       have HC31 := A0_ H
       clear H
       go_upto_region 8 with (fail)
       go_cut [51] (fun v51 wc => ∃ (kq : Nat) (x51_30 : Bool), v51 = .bool x51_30 ∧ Aside0 (special_Div.j1 kq a0 a1 (rd t877 0) (rd t877 1) t883 x51_30 a2_0 a2_1 a3_0 a3_1 = some (r1, r2, r3, r4, r5, r6)) ∧ Aside0 (kq ≤ kj9) ∧ Aside0 (wc.heap[gb871]? = some (.cells #[.int .u64 a2_0, .int .u64 a2_1] 26 (0, 0))) ∧ Aside0 (wc.heap[gb872]? = some (.cells #[.int .u64 a3_0, .int .u64 a3_1] 26 (0, 0))) ∧ Aside0 (wc.heap[gb873]? = some (.cells #[.int .u64 0, .int .u64 0, .int .u8 0, .int .u8 0] 29 (0, 0))) ∧ Aside0 (Below w.heap.size w wc))
       case first =>
        have H := HC31.out
        clear HC31
        by_cases c32 : (rd t877 0) = 4
        ·rw [if_pos c32] at H
         have c32b0 : ((rd t877 0) == 4) = true := beq_iff_eq.mpr c32
         have c32b1 : ((rd t877 0) != 4) = false := bne_eq_false_iff_eq.mpr c32
         clear c32
         (first | rw [c32b0] | (simp only [i64_w, i32_w]; rw [c32b0]) | skip)
         have H' := A0_ H
         clear H
         go_wp2
         go_meet
         case rel => exact ⟨_, (true), (by first | rfl | (simp; done) | (simp [*]; done)), H', ⟨by have := HJ9.out; first | omega | exact Nat.le_refl _⟩, ⟨bm_ BK871.out⟩, ⟨bm_ BK872.out⟩, ⟨bm_ BK873.out⟩, ⟨by repeat (first | (with_reducible first | exact qm_ HB.out | apply qA_ | apply qN_ | apply qD_ | refine below_set ?_ GE871.out | refine below_set ?_ GE872.out | refine below_set ?_ GE873.out) | exact HB.out)⟩⟩
        ·rw [if_neg c32] at H
         have c32b0 : ((rd t877 0) == 4) = false := beq_eq_false_iff_ne.mpr c32
         have c32b1 : ((rd t877 0) != 4) = true := bne_iff_ne.mpr c32
         (first | rw [c32b0] | (simp only [i64_w, i32_w]; rw [c32b0]) | skip)
         have H' := A0_ H
         clear H
         go_wp2
         go_meet
         case rel => exact ⟨_, (((rd t877 1) == 4)), (by first | rfl | (simp; done) | (simp [*]; done)), H', ⟨by have := HJ9.out; first | omega | exact Nat.le_refl _⟩, ⟨bm_ BK871.out⟩, ⟨bm_ BK872.out⟩, ⟨bm_ BK873.out⟩, ⟨by repeat (first | (with_reducible first | exact qm_ HB.out | apply qA_ | apply qN_ | apply qD_ | refine below_set ?_ GE871.out | refine below_set ?_ GE872.out | refine below_set ?_ GE873.out) | exact HB.out)⟩⟩
       case rest =>
        clear HC31
        try clear c1
        try clear c2
        try clear p2
        try clear c3
        try clear c6
        try clear c6b0
        try clear c6b1
        try clear c7
        try clear c7b0
        try clear c7b1
        try clear c8
        try clear c8b0
        try clear c8b1
        try clear p8
        try clear q8
        try clear hx8
        try clear qi8
        try clear c14
        try clear c15
        try clear c16
        try clear c17
        try clear c26
        try clear c26b0
        try clear c27
        try clear c28
        try clear c29
        try clear c32
        try clear c32b0
        try clear c32b1
        try clear hcz16
        try clear hcz18
        try clear hcz30
        try clear hfz16
        try clear hfz18
        try clear hfz30
        try clear hx881_0
        try clear hx882_0
        try clear p2
        try clear p8
        try clear p881
        try clear p882
        try clear q8
        try clear q881
        try clear q882
        obtain ⟨kq, x51_30, rfl, HA, HJ30, BK871, BK872, BK873, HB⟩ := hcut
        cases kq with
        | zero => exact absurd HA.out (by simp [special_Div.j1])
        | succ kj30 =>
         have H := HA.out
         clear HA
         simp only [special_Div.j1] at H
         by_cases c33 : x51_30 = true
         ·subst c33
          have H1 : ((special_none.f kj30 a0 0).bind fun bt885 => (some (bt885.1, bt885.2.1, bt885.2.2.1, bt885.2.2.2, true, 0))) = some (r1, r2, r3, r4, r5, r6) := by rw [if_pos rfl] at H; exact H
          clear H
          have H := H1
          clear H1
          replace H := Option.bind_eq_some_iff.mp H
          obtain ⟨⟨t885, t886, t887, t888⟩, A340, H⟩ := H
          replace H : (some (t885, t886, t887, t888, true, 0)) = some (r1, r2, r3, r4, r5, r6) := H
          have A34 := A0_ A340
          clear A340
          simp only [Option.some.injEq, Prod.mk.injEq] at H
          obtain ⟨rfl, rfl, rfl, rfl, rfl, rfl⟩ := H
          go_wp2_with (first | ((with_reducible refine gate_callee (f := 18) rfl ?_); refine goesL_ (some 59) rfl rfl Try.func18 (by kernel_rfl) rfl #[.int .u8 a0, .int .u8 0] rfl (by (try simp only [List.map_toArray, List.map_cons, List.map_nil]); first | done | rfl | (simp only [List.length_drop, List.length_take]; rfl)) ?_; (with_reducible refine (special_none.calls kj30 a0 0 t885 t886 t887 t888 _ A34.out).mono ?_); rintro e w35 ⟨rfl, hb⟩; refine ⟨_, rfl, ?_⟩; have n0_ := A0_ (blk_below (bm_ BK871.out) hb); have n1_ := A0_ (blk_below (bm_ BK872.out) hb); have n2_ := A0_ (blk_below (bm_ BK873.out) hb); have n3_ := A0_ (below_step (by repeat (first | (with_reducible first | exact qm_ HB.out | apply qA_ | apply qN_ | apply qD_ | refine below_set ?_ GE871.out | refine below_set ?_ GE872.out | refine below_set ?_ GE873.out) | exact HB.out)) hb); clear BK871; clear BK872; clear BK873; clear HB; have BK871 := n0_; have BK872 := n1_; have BK873 := n2_; have HB := n3_; clear n0_ n1_ n2_ n3_; (try clear hb); (try clear hb2); (try clear hk); (try clear hi); have hnb36 := NB873_871.out; have hnc36 := NB871_873.out; have hnb37 := NB873_872.out; have hnc37 := NB872_873.out; have hcz38 := bc4_ BK873.out; have hfz38 := bf4_ BK873.out))
          refine bodyPost_ret (results_ctt rfl _ _ gb873 29 #[.int .u64 t885, .int .u64 t886, .int .u8 t887, .int .u8 t888] (0, 0) _ rfl (by (with_reducible repeat first | apply bN_ | apply bD_ | apply bA_); refine blk_put (cs := #[.int .u64 t885, .int .u64 t886, .int .u8 t887, .int .u8 0]) ?_ 3 _ rfl; (with_reducible repeat first | apply bN_ | apply bD_ | apply bA_); refine blk_put (cs := #[.int .u64 t885, .int .u64 t886, .int .u8 0, .int .u8 0]) ?_ 2 _ rfl; (with_reducible repeat first | apply bN_ | apply bD_ | apply bA_); refine blk_put (cs := #[.int .u64 t885, .int .u64 0, .int .u8 0, .int .u8 0]) ?_ 1 _ rfl; (with_reducible repeat first | apply bN_ | apply bD_ | apply bA_); refine blk_put (cs := #[.int .u64 0, .int .u64 0, .int .u8 0, .int .u8 0]) ?_ 0 _ rfl; (with_reducible repeat first | apply bN_ | apply bD_ | apply bA_); exact BK873.out) Try.underlying29 rfl (by kernel_rfl)) rfl ?_
          exact ⟨by first | rfl | (simp [errW_none, errW_some] <;> rfl) | (simp [*, errW_none, errW_some] <;> rfl), by repeat (first | (with_reducible first | exact qm_ HB.out | apply qA_ | apply qN_ | apply qD_ | refine below_set ?_ GE871.out | refine below_set ?_ GE872.out | refine below_set ?_ GE873.out) | exact HB.out)⟩
         ·replace c33 := Bool.eq_false_iff.mpr c33
          subst c33
          have H1 : (if (rd t877 0) = (rd t877 1) then ((special_none.f kj30 a0 1).bind fun bt889 => (some (bt889.1, bt889.2.1, bt889.2.2.1, bt889.2.2.2, true, 0))) else ((special_boxOf.f kj30 a0 a3_0 a3_1 (rd t877 1)).bind fun bt893 => (if (rd t877 1) = 1 then (if bt893.2.1 = true then (special_Div.j2 kj30 a0 a1 (rd t877 0) (rd t877 1) t883 a2_0 a2_1 (-1) bt893.2.1 bt893.2.2.1 bt893.2.2.2) else (special_Div.j2 kj30 a0 a1 (rd t877 0) (rd t877 1) t883 a2_0 a2_1 1 bt893.2.1 bt893.2.2.1 bt893.2.2.2)) else (special_Div.j2 kj30 a0 a1 (rd t877 0) (rd t877 1) t883 a2_0 a2_1 bt893.1 bt893.2.1 bt893.2.2.1 bt893.2.2.2)))) = some (r1, r2, r3, r4, r5, r6) := by rw [if_neg (show ¬ (false = true) by decide)] at H; exact H
          clear H
          have H := H1
          clear H1
          by_cases c39 : (rd t877 0) = (rd t877 1)
          ·rw [if_pos c39] at H
           have c39b0 : ((rd t877 0) == (rd t877 1)) = true := beq_iff_eq.mpr c39
           have c39b1 : ((rd t877 0) != (rd t877 1)) = false := bne_eq_false_iff_eq.mpr c39
           clear c39
           replace H := Option.bind_eq_some_iff.mp H
           obtain ⟨⟨t889, t890, t891, t892⟩, A400, H⟩ := H
           replace H : (some (t889, t890, t891, t892, true, 0)) = some (r1, r2, r3, r4, r5, r6) := H
           have A40 := A0_ A400
           clear A400
           simp only [Option.some.injEq, Prod.mk.injEq] at H
           obtain ⟨rfl, rfl, rfl, rfl, rfl, rfl⟩ := H
           go_wp2_with (first | ((with_reducible refine gate_callee (f := 18) rfl ?_); refine goesL_ (some 65) rfl rfl Try.func18 (by kernel_rfl) rfl #[.int .u8 a0, .int .u8 1] rfl (by (try simp only [List.map_toArray, List.map_cons, List.map_nil]); first | done | rfl | (simp only [List.length_drop, List.length_take]; rfl)) ?_; (with_reducible refine (special_none.calls kj30 a0 1 t889 t890 t891 t892 _ A40.out).mono ?_); rintro e w41 ⟨rfl, hb⟩; refine ⟨_, rfl, ?_⟩; have n0_ := A0_ (blk_below (bm_ BK871.out) hb); have n1_ := A0_ (blk_below (bm_ BK872.out) hb); have n2_ := A0_ (blk_below (bm_ BK873.out) hb); have n3_ := A0_ (below_step (by repeat (first | (with_reducible first | exact qm_ HB.out | apply qA_ | apply qN_ | apply qD_ | refine below_set ?_ GE871.out | refine below_set ?_ GE872.out | refine below_set ?_ GE873.out) | exact HB.out)) hb); clear BK871; clear BK872; clear BK873; clear HB; have BK871 := n0_; have BK872 := n1_; have BK873 := n2_; have HB := n3_; clear n0_ n1_ n2_ n3_; (try clear hb); (try clear hb2); (try clear hk); (try clear hi); have hnb42 := NB873_871.out; have hnc42 := NB871_873.out; have hnb43 := NB873_872.out; have hnc43 := NB872_873.out; have hcz44 := bc4_ BK873.out; have hfz44 := bf4_ BK873.out))
           refine bodyPost_ret (results_ctt rfl _ _ gb873 29 #[.int .u64 t889, .int .u64 t890, .int .u8 t891, .int .u8 t892] (0, 0) _ rfl (by (with_reducible repeat first | apply bN_ | apply bD_ | apply bA_); refine blk_put (cs := #[.int .u64 t889, .int .u64 t890, .int .u8 t891, .int .u8 0]) ?_ 3 _ rfl; (with_reducible repeat first | apply bN_ | apply bD_ | apply bA_); refine blk_put (cs := #[.int .u64 t889, .int .u64 t890, .int .u8 0, .int .u8 0]) ?_ 2 _ rfl; (with_reducible repeat first | apply bN_ | apply bD_ | apply bA_); refine blk_put (cs := #[.int .u64 t889, .int .u64 0, .int .u8 0, .int .u8 0]) ?_ 1 _ rfl; (with_reducible repeat first | apply bN_ | apply bD_ | apply bA_); refine blk_put (cs := #[.int .u64 0, .int .u64 0, .int .u8 0, .int .u8 0]) ?_ 0 _ rfl; (with_reducible repeat first | apply bN_ | apply bD_ | apply bA_); exact BK873.out) Try.underlying29 rfl (by kernel_rfl)) rfl ?_
           exact ⟨by first | rfl | (simp [errW_none, errW_some] <;> rfl) | (simp [*, errW_none, errW_some] <;> rfl), by repeat (first | (with_reducible first | exact qm_ HB.out | apply qA_ | apply qN_ | apply qD_ | refine below_set ?_ GE871.out | refine below_set ?_ GE872.out | refine below_set ?_ GE873.out) | exact HB.out)⟩
          ·rw [if_neg c39] at H
           have c39b0 : ((rd t877 0) == (rd t877 1)) = false := beq_eq_false_iff_ne.mpr c39
           have c39b1 : ((rd t877 0) != (rd t877 1)) = true := bne_iff_ne.mpr c39
           replace H := Option.bind_eq_some_iff.mp H
           obtain ⟨⟨t893, t894, t895, t896⟩, A450, H⟩ := H
           replace H : (if (rd t877 1) = 1 then (if t894 = true then (special_Div.j2 kj30 a0 a1 (rd t877 0) (rd t877 1) t883 a2_0 a2_1 (-1) t894 t895 t896) else (special_Div.j2 kj30 a0 a1 (rd t877 0) (rd t877 1) t883 a2_0 a2_1 1 t894 t895 t896)) else (special_Div.j2 kj30 a0 a1 (rd t877 0) (rd t877 1) t883 a2_0 a2_1 t893 t894 t895 t896)) = some (r1, r2, r3, r4, r5, r6) := H
           have A45 := A0_ A450
           clear A450
           have HC46 := A0_ H
           clear H
           have hnb47 := NB872_871.out
           have hnc47 := NB871_872.out
           have hnb48 := NB872_873.out
           have hnc48 := NB873_872.out
           have hcz49 := bc2_ BK872.out
           have hfz49 := bf2_ BK872.out
           go_upto_if 71 with (first | ((with_reducible refine gate_callee (f := 19) rfl ?_); refine goesL_ (some 69) rfl rfl Try.func19 (by kernel_rfl) rfl #[.int .u8 a0, .agg #[.int .u64 a3_0, .int .u64 a3_1], .int .u8 (rd t877 1)] rfl (by (try simp only [List.map_toArray, List.map_cons, List.map_nil]); first | done | rfl | (simp only [List.length_drop, List.length_take]; rfl)) ?_; (with_reducible refine (special_boxOf.calls kj30 a0 a3_0 a3_1 (rd t877 1) t893 t894 t895 t896 _ A45.out).mono ?_); rintro e w50 ⟨rfl, hb⟩; refine ⟨_, rfl, ?_⟩; have n0_ := A0_ (blk_below (bm_ BK871.out) hb); have n1_ := A0_ (blk_below (bm_ BK872.out) hb); have n2_ := A0_ (blk_below (bm_ BK873.out) hb); have n3_ := A0_ (below_step (by repeat (first | (with_reducible first | exact qm_ HB.out | apply qA_ | apply qN_ | apply qD_ | refine below_set ?_ GE871.out | refine below_set ?_ GE872.out | refine below_set ?_ GE873.out) | exact HB.out)) hb); clear BK871; clear BK872; clear BK873; clear HB; have BK871 := n0_; have BK872 := n1_; have BK873 := n2_; have HB := n3_; clear n0_ n1_ n2_ n3_; (try clear hb); (try clear hb2); (try clear hk); (try clear hi)) | ((with_reducible refine gate_dst (N := 17) rfl ?_); refine box_event ?hg (N := 17) ?hd (cs := #[.int .i64 0, .bool false, .int .i64 0, .bool false]) (t := 54) ?hr ?_; (case hd => rfl); (case hg => rfl); (case hr => first | (go_simp; done) | (go_simp; rfl)); intro gb897 hg w51 hbox hb; have n0_ := A0_ (blk_below (bm_ BK871.out) hb); have n1_ := A0_ (blk_below (bm_ BK872.out) hb); have n2_ := A0_ (blk_below (bm_ BK873.out) hb); have n3_ := A0_ (below_step (by repeat (first | (with_reducible first | exact qm_ HB.out | apply qA_ | apply qN_ | apply qD_ | refine below_set ?_ GE871.out | refine below_set ?_ GE872.out | refine below_set ?_ GE873.out) | exact HB.out)) hb); have n4_ := A0_ (hbox); have n5_ := A0_ ((by rw [hg]; exact (below_size (by repeat (first | (with_reducible first | exact qm_ HB.out | apply qA_ | apply qN_ | apply qD_ | refine below_set ?_ GE871.out | refine below_set ?_ GE872.out | refine below_set ?_ GE873.out) | exact HB.out))) : w.heap.size ≤ gb897)); have n6_ := A0_ ((by rw [hg]; exact (below_size (by repeat (first | (with_reducible first | exact qm_ HB.out | apply qA_ | apply qN_ | apply qD_ | refine below_set ?_ GE871.out | refine below_set ?_ GE872.out | refine below_set ?_ GE873.out) | exact HB.out))) : w.heap.size ≤ gb897)); have n7_ := A0_ ((by rw [hg]; exact Nat.ne_of_lt (blk_lt (bm_ BK871.out)) : gb871 ≠ gb897)); have n8_ := A0_ ((by rw [hg]; exact Nat.ne_of_gt (blk_lt (bm_ BK871.out)) : gb897 ≠ gb871)); have n9_ := A0_ ((by rw [hg]; exact Nat.ne_of_lt (blk_lt (bm_ BK872.out)) : gb872 ≠ gb897)); have n10_ := A0_ ((by rw [hg]; exact Nat.ne_of_gt (blk_lt (bm_ BK872.out)) : gb897 ≠ gb872)); have n11_ := A0_ ((by rw [hg]; exact Nat.ne_of_lt (blk_lt (bm_ BK873.out)) : gb873 ≠ gb897)); have n12_ := A0_ ((by rw [hg]; exact Nat.ne_of_gt (blk_lt (bm_ BK873.out)) : gb897 ≠ gb873)); clear BK871; clear BK872; clear BK873; clear HB; have BK871 := n0_; have BK872 := n1_; have BK873 := n2_; have HB := n3_; have BK897 := n4_; have GW897 := n5_; have GE897 := n6_; have NB871_897 := n7_; have NB897_871 := n8_; have NB872_897 := n9_; have NB897_872 := n10_; have NB873_897 := n11_; have NB897_873 := n12_; clear n0_ n1_ n2_ n3_ n4_ n5_ n6_ n7_ n8_ n9_ n10_ n11_ n12_; clear hb hbox hg; have hnb52 := NB897_871.out; have hnc52 := NB871_897.out; have hnb53 := NB897_872.out; have hnc53 := NB872_897.out; have hnb54 := NB897_873.out; have hnc54 := NB873_897.out; have hcz55 := bc4_ BK897.out; have hfz55 := bf4_ BK897.out))
           (try simp only [Act.put, List.setIfInBounds_toArray, List.set_cons_zero, List.set_cons_succ])
           go_cut [] (fun wc => ∃ (kq : Nat) (x898000_45 : Int), Aside0 (special_Div.j2 kq a0 a1 (rd t877 0) (rd t877 1) t883 a2_0 a2_1 x898000_45 t894 t895 t896 = some (r1, r2, r3, r4, r5, r6)) ∧ Aside0 (kq ≤ kj30) ∧ Aside0 (wc.heap[gb871]? = some (.cells #[.int .u64 a2_0, .int .u64 a2_1] 26 (0, 0))) ∧ Aside0 (wc.heap[gb872]? = some (.cells #[.int .u64 a3_0, .int .u64 a3_1] 26 (0, 0))) ∧ Aside0 (wc.heap[gb873]? = some (.cells #[.int .u64 0, .int .u64 0, .int .u8 0, .int .u8 0] 29 (0, 0))) ∧ Aside0 (wc.heap[gb897]? = some (.cells #[.int .i64 x898000_45, .bool t894, .int .i64 t895, .bool t896] 54 (0, 0))) ∧ Aside0 (Below w.heap.size w wc))
           case first =>
            have H := HC46.out
            clear HC46
            by_cases c56 : (rd t877 1) = 1
            ·rw [if_pos c56] at H
             have c56b0 : ((rd t877 1) == 1) = true := beq_iff_eq.mpr c56
             have c56b1 : ((rd t877 1) != 1) = false := bne_eq_false_iff_eq.mpr c56
             clear c56
             (first | rw [c56b0] | (simp only [i64_w, i32_w]; rw [c56b0]) | skip)
             by_cases c57 : t894 = true
             ·subst c57
              have H1 : (special_Div.j2 kj30 a0 a1 (rd t877 0) (rd t877 1) t883 a2_0 a2_1 (-1) true t895 t896) = some (r1, r2, r3, r4, r5, r6) := by rw [if_pos rfl] at H; exact H
              clear H
              have H := H1
              clear H1
              have H' := A0_ H
              clear H
              have hnb58 := NB897_871.out
              have hnc58 := NB871_897.out
              have hnb59 := NB897_872.out
              have hnc59 := NB872_897.out
              have hnb60 := NB897_873.out
              have hnc60 := NB873_897.out
              have hcz61 := bc4_ BK897.out
              have hfz61 := bf4_ BK897.out
              go_wp2
              go_meet
              case rel => exact ⟨_, ((-1)), H', ⟨by have := HJ9.out; have := HJ30.out; first | omega | exact Nat.le_refl _⟩, ⟨by (with_reducible repeat first | apply bN_ | apply bD_ | apply bA_); refine blk_far ?_ NB871_897.out _; (with_reducible repeat first | apply bN_ | apply bD_ | apply bA_); refine blk_far ?_ NB871_897.out _; (with_reducible repeat first | apply bN_ | apply bD_ | apply bA_); refine blk_far ?_ NB871_897.out _; (with_reducible repeat first | apply bN_ | apply bD_ | apply bA_); refine blk_far ?_ NB871_897.out _; (with_reducible repeat first | apply bN_ | apply bD_ | apply bA_); refine blk_far ?_ NB871_897.out _; (with_reducible repeat first | apply bN_ | apply bD_ | apply bA_); refine blk_far ?_ NB871_897.out _; (with_reducible repeat first | apply bN_ | apply bD_ | apply bA_); exact BK871.out⟩, ⟨by (with_reducible repeat first | apply bN_ | apply bD_ | apply bA_); refine blk_far ?_ NB872_897.out _; (with_reducible repeat first | apply bN_ | apply bD_ | apply bA_); refine blk_far ?_ NB872_897.out _; (with_reducible repeat first | apply bN_ | apply bD_ | apply bA_); refine blk_far ?_ NB872_897.out _; (with_reducible repeat first | apply bN_ | apply bD_ | apply bA_); refine blk_far ?_ NB872_897.out _; (with_reducible repeat first | apply bN_ | apply bD_ | apply bA_); refine blk_far ?_ NB872_897.out _; (with_reducible repeat first | apply bN_ | apply bD_ | apply bA_); refine blk_far ?_ NB872_897.out _; (with_reducible repeat first | apply bN_ | apply bD_ | apply bA_); exact BK872.out⟩, ⟨by (with_reducible repeat first | apply bN_ | apply bD_ | apply bA_); refine blk_far ?_ NB873_897.out _; (with_reducible repeat first | apply bN_ | apply bD_ | apply bA_); refine blk_far ?_ NB873_897.out _; (with_reducible repeat first | apply bN_ | apply bD_ | apply bA_); refine blk_far ?_ NB873_897.out _; (with_reducible repeat first | apply bN_ | apply bD_ | apply bA_); refine blk_far ?_ NB873_897.out _; (with_reducible repeat first | apply bN_ | apply bD_ | apply bA_); refine blk_far ?_ NB873_897.out _; (with_reducible repeat first | apply bN_ | apply bD_ | apply bA_); refine blk_far ?_ NB873_897.out _; (with_reducible repeat first | apply bN_ | apply bD_ | apply bA_); exact BK873.out⟩, ⟨by (with_reducible repeat first | apply bN_ | apply bD_ | apply bA_); refine blk_put (cs := #[.int .i64 1, .bool true, .int .i64 t895, .bool t896]) ?_ 0 _ rfl; (with_reducible repeat first | apply bN_ | apply bD_ | apply bA_); refine blk_put (cs := #[.int .i64 t893, .bool true, .int .i64 t895, .bool t896]) ?_ 0 _ rfl; (with_reducible repeat first | apply bN_ | apply bD_ | apply bA_); refine blk_put (cs := #[.int .i64 t893, .bool true, .int .i64 t895, .bool false]) ?_ 3 _ rfl; (with_reducible repeat first | apply bN_ | apply bD_ | apply bA_); refine blk_put (cs := #[.int .i64 t893, .bool true, .int .i64 0, .bool false]) ?_ 2 _ rfl; (with_reducible repeat first | apply bN_ | apply bD_ | apply bA_); refine blk_put (cs := #[.int .i64 t893, .bool false, .int .i64 0, .bool false]) ?_ 1 _ rfl; (with_reducible repeat first | apply bN_ | apply bD_ | apply bA_); refine blk_put (cs := #[.int .i64 0, .bool false, .int .i64 0, .bool false]) ?_ 0 _ rfl; (with_reducible repeat first | apply bN_ | apply bD_ | apply bA_); exact BK897.out⟩, ⟨by repeat (first | (with_reducible first | exact qm_ HB.out | apply qA_ | apply qN_ | apply qD_ | refine below_set ?_ GE871.out | refine below_set ?_ GE872.out | refine below_set ?_ GE873.out | refine below_set ?_ GE897.out) | exact HB.out)⟩⟩
             ·replace c57 := Bool.eq_false_iff.mpr c57
              subst c57
              have H1 : (special_Div.j2 kj30 a0 a1 (rd t877 0) (rd t877 1) t883 a2_0 a2_1 1 false t895 t896) = some (r1, r2, r3, r4, r5, r6) := by rw [if_neg (show ¬ (false = true) by decide)] at H; exact H
              clear H
              have H := H1
              clear H1
              have H' := A0_ H
              clear H
              have hnb62 := NB897_871.out
              have hnc62 := NB871_897.out
              have hnb63 := NB897_872.out
              have hnc63 := NB872_897.out
              have hnb64 := NB897_873.out
              have hnc64 := NB873_897.out
              have hcz65 := bc4_ BK897.out
              have hfz65 := bf4_ BK897.out
              go_wp2
              go_meet
              case rel => exact ⟨_, (1), H', ⟨by have := HJ9.out; have := HJ30.out; first | omega | exact Nat.le_refl _⟩, ⟨by (with_reducible repeat first | apply bN_ | apply bD_ | apply bA_); refine blk_far ?_ NB871_897.out _; (with_reducible repeat first | apply bN_ | apply bD_ | apply bA_); refine blk_far ?_ NB871_897.out _; (with_reducible repeat first | apply bN_ | apply bD_ | apply bA_); refine blk_far ?_ NB871_897.out _; (with_reducible repeat first | apply bN_ | apply bD_ | apply bA_); refine blk_far ?_ NB871_897.out _; (with_reducible repeat first | apply bN_ | apply bD_ | apply bA_); refine blk_far ?_ NB871_897.out _; (with_reducible repeat first | apply bN_ | apply bD_ | apply bA_); exact BK871.out⟩, ⟨by (with_reducible repeat first | apply bN_ | apply bD_ | apply bA_); refine blk_far ?_ NB872_897.out _; (with_reducible repeat first | apply bN_ | apply bD_ | apply bA_); refine blk_far ?_ NB872_897.out _; (with_reducible repeat first | apply bN_ | apply bD_ | apply bA_); refine blk_far ?_ NB872_897.out _; (with_reducible repeat first | apply bN_ | apply bD_ | apply bA_); refine blk_far ?_ NB872_897.out _; (with_reducible repeat first | apply bN_ | apply bD_ | apply bA_); refine blk_far ?_ NB872_897.out _; (with_reducible repeat first | apply bN_ | apply bD_ | apply bA_); exact BK872.out⟩, ⟨by (with_reducible repeat first | apply bN_ | apply bD_ | apply bA_); refine blk_far ?_ NB873_897.out _; (with_reducible repeat first | apply bN_ | apply bD_ | apply bA_); refine blk_far ?_ NB873_897.out _; (with_reducible repeat first | apply bN_ | apply bD_ | apply bA_); refine blk_far ?_ NB873_897.out _; (with_reducible repeat first | apply bN_ | apply bD_ | apply bA_); refine blk_far ?_ NB873_897.out _; (with_reducible repeat first | apply bN_ | apply bD_ | apply bA_); refine blk_far ?_ NB873_897.out _; (with_reducible repeat first | apply bN_ | apply bD_ | apply bA_); exact BK873.out⟩, ⟨by (with_reducible repeat first | apply bN_ | apply bD_ | apply bA_); refine blk_put (cs := #[.int .i64 t893, .bool false, .int .i64 t895, .bool t896]) ?_ 0 _ rfl; (with_reducible repeat first | apply bN_ | apply bD_ | apply bA_); refine blk_put (cs := #[.int .i64 t893, .bool false, .int .i64 t895, .bool false]) ?_ 3 _ rfl; (with_reducible repeat first | apply bN_ | apply bD_ | apply bA_); refine blk_put (cs := #[.int .i64 t893, .bool false, .int .i64 0, .bool false]) ?_ 2 _ rfl; (with_reducible repeat first | apply bN_ | apply bD_ | apply bA_); refine blk_put (cs := #[.int .i64 t893, .bool false, .int .i64 0, .bool false]) ?_ 1 _ rfl; (with_reducible repeat first | apply bN_ | apply bD_ | apply bA_); refine blk_put (cs := #[.int .i64 0, .bool false, .int .i64 0, .bool false]) ?_ 0 _ rfl; (with_reducible repeat first | apply bN_ | apply bD_ | apply bA_); exact BK897.out⟩, ⟨by repeat (first | (with_reducible first | exact qm_ HB.out | apply qA_ | apply qN_ | apply qD_ | refine below_set ?_ GE871.out | refine below_set ?_ GE872.out | refine below_set ?_ GE873.out | refine below_set ?_ GE897.out) | exact HB.out)⟩⟩
            ·rw [if_neg c56] at H
             have c56b0 : ((rd t877 1) == 1) = false := beq_eq_false_iff_ne.mpr c56
             have c56b1 : ((rd t877 1) != 1) = true := bne_iff_ne.mpr c56
             (first | rw [c56b0] | (simp only [i64_w, i32_w]; rw [c56b0]) | skip)
             have H' := A0_ H
             clear H
             go_wp2
             go_meet
             case rel => exact ⟨_, (t893), H', ⟨by have := HJ9.out; have := HJ30.out; first | omega | exact Nat.le_refl _⟩, ⟨by (with_reducible repeat first | apply bN_ | apply bD_ | apply bA_); refine blk_far ?_ NB871_897.out _; (with_reducible repeat first | apply bN_ | apply bD_ | apply bA_); refine blk_far ?_ NB871_897.out _; (with_reducible repeat first | apply bN_ | apply bD_ | apply bA_); refine blk_far ?_ NB871_897.out _; (with_reducible repeat first | apply bN_ | apply bD_ | apply bA_); refine blk_far ?_ NB871_897.out _; (with_reducible repeat first | apply bN_ | apply bD_ | apply bA_); exact BK871.out⟩, ⟨by (with_reducible repeat first | apply bN_ | apply bD_ | apply bA_); refine blk_far ?_ NB872_897.out _; (with_reducible repeat first | apply bN_ | apply bD_ | apply bA_); refine blk_far ?_ NB872_897.out _; (with_reducible repeat first | apply bN_ | apply bD_ | apply bA_); refine blk_far ?_ NB872_897.out _; (with_reducible repeat first | apply bN_ | apply bD_ | apply bA_); refine blk_far ?_ NB872_897.out _; (with_reducible repeat first | apply bN_ | apply bD_ | apply bA_); exact BK872.out⟩, ⟨by (with_reducible repeat first | apply bN_ | apply bD_ | apply bA_); refine blk_far ?_ NB873_897.out _; (with_reducible repeat first | apply bN_ | apply bD_ | apply bA_); refine blk_far ?_ NB873_897.out _; (with_reducible repeat first | apply bN_ | apply bD_ | apply bA_); refine blk_far ?_ NB873_897.out _; (with_reducible repeat first | apply bN_ | apply bD_ | apply bA_); refine blk_far ?_ NB873_897.out _; (with_reducible repeat first | apply bN_ | apply bD_ | apply bA_); exact BK873.out⟩, ⟨by (with_reducible repeat first | apply bN_ | apply bD_ | apply bA_); refine blk_put (cs := #[.int .i64 t893, .bool t894, .int .i64 t895, .bool false]) ?_ 3 _ rfl; (with_reducible repeat first | apply bN_ | apply bD_ | apply bA_); refine blk_put (cs := #[.int .i64 t893, .bool t894, .int .i64 0, .bool false]) ?_ 2 _ rfl; (with_reducible repeat first | apply bN_ | apply bD_ | apply bA_); refine blk_put (cs := #[.int .i64 t893, .bool false, .int .i64 0, .bool false]) ?_ 1 _ rfl; (with_reducible repeat first | apply bN_ | apply bD_ | apply bA_); refine blk_put (cs := #[.int .i64 0, .bool false, .int .i64 0, .bool false]) ?_ 0 _ rfl; (with_reducible repeat first | apply bN_ | apply bD_ | apply bA_); exact BK897.out⟩, ⟨by repeat (first | (with_reducible first | exact qm_ HB.out | apply qA_ | apply qN_ | apply qD_ | refine below_set ?_ GE871.out | refine below_set ?_ GE872.out | refine below_set ?_ GE873.out | refine below_set ?_ GE897.out) | exact HB.out)⟩⟩
           case rest =>
            clear HC46
            try clear c1
            try clear c2
            try clear p2
            try clear c3
            try clear c4
            try clear c5
            try clear c6
            try clear c6b0
            try clear c6b1
            try clear c7
            try clear c7b0
            try clear c7b1
            try clear c8
            try clear c8b0
            try clear c8b1
            try clear p8
            try clear q8
            try clear hx8
            try clear qi8
            try clear c14
            try clear c15
            try clear c16
            try clear c17
            try clear c18
            try clear c19
            try clear c26
            try clear c26b0
            try clear c27
            try clear c28
            try clear c29
            try clear c32
            try clear c32b0
            try clear c32b1
            try clear c33
            try clear c36
            try clear c37
            try clear c39
            try clear c39b0
            try clear c39b1
            try clear c42
            try clear c43
            try clear c47
            try clear c48
            try clear c52
            try clear c53
            try clear c54
            try clear c56
            try clear c56b0
            try clear c56b1
            try clear c57
            try clear c58
            try clear c59
            try clear c60
            try clear c62
            try clear c63
            try clear c64
            try clear hcz16
            try clear hcz18
            try clear hcz30
            try clear hcz38
            try clear hcz44
            try clear hcz49
            try clear hcz55
            try clear hcz61
            try clear hcz65
            try clear hfz16
            try clear hfz18
            try clear hfz30
            try clear hfz38
            try clear hfz44
            try clear hfz49
            try clear hfz55
            try clear hfz61
            try clear hfz65
            try clear hx881_0
            try clear hx882_0
            try clear p2
            try clear p8
            try clear p881
            try clear p882
            try clear q8
            try clear q881
            try clear q882
            obtain ⟨kq, x898000_45, HA, HJ45, BK871, BK872, BK873, BK897, HB⟩ := hcut
            cases kq with
            | zero => exact absurd HA.out (by simp [special_Div.j2])
            | succ kj45 =>
             have H := HA.out
             clear HA
             simp only [special_Div.j2] at H
             replace H := Option.bind_eq_some_iff.mp H
             obtain ⟨⟨t898, t899⟩, A660, H⟩ := H
             replace H : ((special_boxOf.f kj45 a0 a2_0 a2_1 (rd t877 0)).bind fun bt900 => ((special_box_times.f bt900.1 bt900.2.1 bt900.2.2.1 bt900.2.2.2 x898000_45 t894 t898 t899 a1).bind fun bt904 => (if (rd t877 1) = 3 then ((special_box_words.f kj45 bt904.1 bt904.2.1 bt904.2.2.1 bt904.2.2.2 a0 0).bind fun bt909 => (some (bt909.1, bt909.2, 0, 0, true, 0))) else (if (rd t877 0) = 3 then ((special_box_words.f kj45 bt904.1 bt904.2.1 bt904.2.2.1 bt904.2.2.2 a0 t883).bind fun bt911 => (some (bt911.1, bt911.2, 0, 0, true, 0))) else ((special_box_words.f kj45 bt904.1 bt904.2.1 bt904.2.2.1 bt904.2.2.2 a0 t883).bind fun bt913 => (some (bt913.1, bt913.2, 2, 2, true, 0))))))) = some (r1, r2, r3, r4, r5, r6) := H
             have A66 := A0_ A660
             clear A660
             replace H := Option.bind_eq_some_iff.mp H
             obtain ⟨⟨t900, t901, t902, t903⟩, A670, H⟩ := H
             replace H : ((special_box_times.f t900 t901 t902 t903 x898000_45 t894 t898 t899 a1).bind fun bt904 => (if (rd t877 1) = 3 then ((special_box_words.f kj45 bt904.1 bt904.2.1 bt904.2.2.1 bt904.2.2.2 a0 0).bind fun bt909 => (some (bt909.1, bt909.2, 0, 0, true, 0))) else (if (rd t877 0) = 3 then ((special_box_words.f kj45 bt904.1 bt904.2.1 bt904.2.2.1 bt904.2.2.2 a0 t883).bind fun bt911 => (some (bt911.1, bt911.2, 0, 0, true, 0))) else ((special_box_words.f kj45 bt904.1 bt904.2.1 bt904.2.2.1 bt904.2.2.2 a0 t883).bind fun bt913 => (some (bt913.1, bt913.2, 2, 2, true, 0)))))) = some (r1, r2, r3, r4, r5, r6) := H
             have A67 := A0_ A670
             clear A670
             replace H := Option.bind_eq_some_iff.mp H
             obtain ⟨⟨t904, t905, t906, t907⟩, A680, H⟩ := H
             replace H : (if (rd t877 1) = 3 then ((special_box_words.f kj45 t904 t905 t906 t907 a0 0).bind fun bt909 => (some (bt909.1, bt909.2, 0, 0, true, 0))) else (if (rd t877 0) = 3 then ((special_box_words.f kj45 t904 t905 t906 t907 a0 t883).bind fun bt911 => (some (bt911.1, bt911.2, 0, 0, true, 0))) else ((special_box_words.f kj45 t904 t905 t906 t907 a0 t883).bind fun bt913 => (some (bt913.1, bt913.2, 2, 2, true, 0))))) = some (r1, r2, r3, r4, r5, r6) := H
             have A68 := A0_ A680
             clear A680
             by_cases c69 : (rd t877 1) = 3
             ·rw [if_pos c69] at H
              have c69b0 : ((rd t877 1) == 3) = true := beq_iff_eq.mpr c69
              have c69b1 : ((rd t877 1) != 3) = false := bne_eq_false_iff_eq.mpr c69
              clear c69
              replace H := Option.bind_eq_some_iff.mp H
              obtain ⟨⟨t909, t910⟩, A700, H⟩ := H
              replace H : (some (t909, t910, 0, 0, true, 0)) = some (r1, r2, r3, r4, r5, r6) := H
              have A70 := A0_ A700
              clear A700
              simp only [Option.some.injEq, Prod.mk.injEq] at H
              obtain ⟨rfl, rfl, rfl, rfl, rfl, rfl⟩ := H
              have hnb71 := NB897_871.out
              have hnc71 := NB871_897.out
              have hnb72 := NB897_872.out
              have hnc72 := NB872_897.out
              have hnb73 := NB897_873.out
              have hnc73 := NB873_897.out
              have hcz74 := bc4_ BK897.out
              have hfz74 := bf4_ BK897.out
              try go_wp2_with (first | ((with_reducible refine gate_callee (f := 33) rfl ?_); refine goesL_ (some 81) rfl rfl Try.func33 (by kernel_rfl) rfl #[.agg #[.int .i64 t895, .bool t896]] rfl (by (try simp only [List.map_toArray, List.map_cons, List.map_nil]); first | done | rfl | (simp only [List.length_drop, List.length_take]; rfl)) ?_; (with_reducible refine (special_side_minus.calls t895 t896 t898 t899 _ A66.out).mono ?_); rintro e w75 ⟨rfl, hb⟩; refine ⟨_, rfl, ?_⟩; have n0_ := A0_ (blk_below (bm_ BK871.out) hb); have n1_ := A0_ (blk_below (bm_ BK872.out) hb); have n2_ := A0_ (blk_below (bm_ BK873.out) hb); have n3_ := A0_ (blk_below (bm_ BK897.out) hb); have n4_ := A0_ (below_step (by repeat (first | (with_reducible first | exact qm_ HB.out | apply qA_ | apply qN_ | apply qD_ | refine below_set ?_ GE871.out | refine below_set ?_ GE872.out | refine below_set ?_ GE873.out | refine below_set ?_ GE897.out) | exact HB.out)) hb); clear BK871; clear BK872; clear BK873; clear BK897; clear HB; have BK871 := n0_; have BK872 := n1_; have BK873 := n2_; have BK897 := n3_; have HB := n4_; clear n0_ n1_ n2_ n3_ n4_; (try clear hb); (try clear hb2); (try clear hk); (try clear hi); have hcz76 := bc4_ BK897.out; have hfz76 := bf4_ BK897.out))
              have n0_ : Aside0 (((w75.setCell ⟨gb897, 2, none⟩ (.int .i64 t898)).setCell ⟨gb897, 3, none⟩ (.bool t899)).heap[gb871]? = some (.cells #[.int .u64 a2_0, .int .u64 a2_1] 26 (0, 0))) := ⟨by (with_reducible repeat first | apply bN_ | apply bD_ | apply bA_); refine blk_far ?_ NB871_897.out _; (with_reducible repeat first | apply bN_ | apply bD_ | apply bA_); refine blk_far ?_ NB871_897.out _; (with_reducible repeat first | apply bN_ | apply bD_ | apply bA_); exact BK871.out⟩
              have n1_ : Aside0 (((w75.setCell ⟨gb897, 2, none⟩ (.int .i64 t898)).setCell ⟨gb897, 3, none⟩ (.bool t899)).heap[gb872]? = some (.cells #[.int .u64 a3_0, .int .u64 a3_1] 26 (0, 0))) := ⟨by (with_reducible repeat first | apply bN_ | apply bD_ | apply bA_); refine blk_far ?_ NB872_897.out _; (with_reducible repeat first | apply bN_ | apply bD_ | apply bA_); refine blk_far ?_ NB872_897.out _; (with_reducible repeat first | apply bN_ | apply bD_ | apply bA_); exact BK872.out⟩
              have n2_ : Aside0 (((w75.setCell ⟨gb897, 2, none⟩ (.int .i64 t898)).setCell ⟨gb897, 3, none⟩ (.bool t899)).heap[gb873]? = some (.cells #[.int .u64 0, .int .u64 0, .int .u8 0, .int .u8 0] 29 (0, 0))) := ⟨by (with_reducible repeat first | apply bN_ | apply bD_ | apply bA_); refine blk_far ?_ NB873_897.out _; (with_reducible repeat first | apply bN_ | apply bD_ | apply bA_); refine blk_far ?_ NB873_897.out _; (with_reducible repeat first | apply bN_ | apply bD_ | apply bA_); exact BK873.out⟩
              have n3_ : Aside0 (((w75.setCell ⟨gb897, 2, none⟩ (.int .i64 t898)).setCell ⟨gb897, 3, none⟩ (.bool t899)).heap[gb897]? = some (.cells #[.int .i64 x898000_45, .bool t894, .int .i64 t898, .bool t899] 54 (0, 0))) := ⟨by (with_reducible repeat first | apply bN_ | apply bD_ | apply bA_); refine blk_put (cs := #[.int .i64 x898000_45, .bool t894, .int .i64 t898, .bool t896]) ?_ 3 _ rfl; (with_reducible repeat first | apply bN_ | apply bD_ | apply bA_); refine blk_put (cs := #[.int .i64 x898000_45, .bool t894, .int .i64 t895, .bool t896]) ?_ 2 _ rfl; (with_reducible repeat first | apply bN_ | apply bD_ | apply bA_); exact BK897.out⟩
              have n4_ : Aside0 (Below w.heap.size w ((w75.setCell ⟨gb897, 2, none⟩ (.int .i64 t898)).setCell ⟨gb897, 3, none⟩ (.bool t899))) := ⟨by repeat (first | (with_reducible first | exact qm_ HB.out | apply qA_ | apply qN_ | apply qD_ | refine below_set ?_ GE871.out | refine below_set ?_ GE872.out | refine below_set ?_ GE873.out | refine below_set ?_ GE897.out) | exact HB.out)⟩
              (try clear BK871)
              (try clear BK872)
              (try clear BK873)
              (try clear BK897)
              (try clear HB)
              generalize ((w75.setCell ⟨gb897, 2, none⟩ (.int .i64 t898)).setCell ⟨gb897, 3, none⟩ (.bool t899)) = w77 at n0_ n1_ n2_ n3_ n4_ ⊢
              have BK871 := n0_
              have BK872 := n1_
              have BK873 := n2_
              have BK897 := n3_
              have HB := n4_
              clear n0_ n1_ n2_ n3_ n4_
              have n0_ := A0_ (blk_drew BK871.out)
              have n1_ := A0_ (blk_drew BK872.out)
              have n2_ := A0_ (blk_drew BK873.out)
              have n3_ := A0_ (blk_drew BK897.out)
              have n4_ := A0_ (below_drew1 HB.out)
              clear BK871
              clear BK872
              clear BK873
              clear BK897
              clear HB
              have BK871 := n0_
              have BK872 := n1_
              have BK873 := n2_
              have BK897 := n3_
              have HB := n4_
              clear n0_ n1_ n2_ n3_ n4_
              refine start_ (n := 9) (S := fun w' => w'.cell? ⟨gb871, 0, none⟩ = some (.int .u64 a2_0) ∧ w'.cell? ⟨gb871, 1, none⟩ = some (.int .u64 a2_1) ∧ w'.cell? ⟨gb897, 0, none⟩ = some (.int .i64 x898000_45) ∧ w'.cell? ⟨gb897, 1, none⟩ = some (.bool t894) ∧ w'.cell? ⟨gb897, 2, none⟩ = some (.int .i64 t898) ∧ w'.cell? ⟨gb897, 3, none⟩ = some (.bool t899)) (ds := []) #[false, false, false, false, false, false, false, false, false] (by kernel_rfl) rfl rfl ⟨(blk_cell BK871.out 0).trans rfl, (blk_cell BK871.out 1).trans rfl, (blk_cell BK897.out 0).trans rfl, (blk_cell BK897.out 1).trans rfl, (blk_cell BK897.out 2).trans rfl, (blk_cell BK897.out 3).trans rfl⟩ (fun hHeld => ?_); refine with_tabW special_Div.tab18 special_Div.bits18 (fun HT_ HW_ => ?_)
              generalize w77.drew = w78 at BK871 BK872 BK873 BK897 HB hHeld ⊢
              refine pure_ (i := 0) (N := some 83) (v := ?_) (a' := ?_) #[true, false, false, false, false, false, false, false, false] rfl rfl (any_of HT_.out (by kernel_rfl)) (fun _ _ _ h => h) (Or.inl ⟨by rfl, ?_⟩) ?_ ?_
              rotate_left
              ·intro w'
               go_simp
               with_reducible rfl
              rotate_left
              ·simp only [Act.put, List.setIfInBounds_toArray, List.set_cons_zero, List.set_cons_succ, i64_w, i32_w]
               rfl
              refine pure_ (i := 2) (N := some 85) (v := ?_) (a' := ?_) #[true, false, true, false, false, false, false, false, false] rfl rfl (any_of HT_.out (by kernel_rfl)) (fun _ _ _ h => h) (Or.inl ⟨by rfl, ?_⟩) ?_ ?_
              rotate_left
              ·intro w'
               go_simp
               with_reducible rfl
              rotate_left
              ·simp only [Act.put, List.setIfInBounds_toArray, List.set_cons_zero, List.set_cons_succ, i64_w, i32_w]
               rfl
              refine pure_ (i := 5) (N := some 88) (v := ?_) (a' := ?_) #[true, false, true, false, false, true, false, false, false] rfl rfl (any_of HT_.out (by kernel_rfl)) (fun _ _ _ h => h) (Or.inl ⟨by rfl, ?_⟩) ?_ ?_
              rotate_left
              ·intro w'
               go_simp
               with_reducible rfl
              rotate_left
              ·simp only [Act.put, List.setIfInBounds_toArray, List.set_cons_zero, List.set_cons_succ, i64_w, i32_w]
               rfl
              refine take_ (i := 1) (N := some 84) (v := ?_) (a' := ?_) #[true, true, true, false, false, true, false, false, false] rfl rfl (take_ofW HT_.out HW_.out (by kernel_rfl)) (fun _ _ _ h => h) (Or.inl ⟨by rfl, ?_⟩) hHeld ?_ ?_
              rotate_left
              ·rintro w' ⟨s0, s1, s2, s3, s4, s5⟩
               go_simp
               with_reducible rfl
              rotate_left
              ·simp only [Act.put, List.setIfInBounds_toArray, List.set_cons_zero, List.set_cons_succ, i64_w, i32_w]
               rfl
              refine take_ (i := 4) (N := some 87) (v := ?_) (a' := ?_) #[true, true, true, false, true, true, false, false, false] rfl rfl (take_ofW HT_.out HW_.out (by kernel_rfl)) (fun _ _ _ h => h) (Or.inl ⟨by rfl, ?_⟩) hHeld ?_ ?_
              rotate_left
              ·rintro w' ⟨s0, s1, s2, s3, s4, s5⟩
               go_simp
               with_reducible rfl
              rotate_left
              ·simp only [Act.put, List.setIfInBounds_toArray, List.set_cons_zero, List.set_cons_succ, i64_w, i32_w]
               rfl
              refine join_ (σ := Nat) 1 #[true, true, true, true, true, true, true, true, false] (fun s_ => [(86, .agg #[.int .i64 t900, .bool t901, .int .i64 t902, .bool t903]), (89, .agg #[.int .i64 t904, .bool t905, .int .i64 t906, .bool t907]), (18, .pointer (some ⟨s_, 0, none⟩))]) (fun s_ w' => (w'.cell? ⟨gb871, 0, none⟩ = some (.int .u64 a2_0) ∧ w'.cell? ⟨gb871, 1, none⟩ = some (.int .u64 a2_1) ∧ w'.cell? ⟨gb897, 0, none⟩ = some (.int .i64 x898000_45) ∧ w'.cell? ⟨gb897, 1, none⟩ = some (.bool t894) ∧ w'.cell? ⟨gb897, 2, none⟩ = some (.int .i64 t898) ∧ w'.cell? ⟨gb897, 3, none⟩ = some (.bool t899)) ∧ (w'.heap[gb871]? = some (.cells #[.int .u64 a2_0, .int .u64 a2_1] 26 (0, 0))) ∧ (w'.heap[gb872]? = some (.cells #[.int .u64 a3_0, .int .u64 a3_1] 26 (0, 0))) ∧ (w'.heap[gb873]? = some (.cells #[.int .u64 0, .int .u64 0, .int .u8 0, .int .u8 0] 29 (0, 0))) ∧ (w'.heap[gb897]? = some (.cells #[.int .i64 x898000_45, .bool t894, .int .i64 t898, .bool t899] 54 (0, 0))) ∧ (w'.heap[s_]? = some (.cells #[.int .i64 0, .bool false, .int .i64 0, .bool false] 54 (0, 0))) ∧ (w.heap.size ≤ s_) ∧ (w.heap.size ≤ s_) ∧ (gb871 ≠ s_) ∧ (s_ ≠ gb871) ∧ (gb872 ≠ s_) ∧ (s_ ≠ gb872) ∧ (gb873 ≠ s_) ∧ (s_ ≠ gb873) ∧ (gb897 ≠ s_) ∧ (s_ ≠ gb897) ∧ (Below w.heap.size w w')) ?_ ?_
              rotate_left
              ·intro hCont
               refine two_ (i := 3) (j := 7) (Ni := some 86) (Nj := some 18) #[true, true, true, true, true, true, false, false, false] #[true, true, true, false, true, true, false, true, false] rfl rfl rfl rfl (two_of HT_.out (by kernel_rfl)) (by decide) (by decide) (fun K hK => ?_) (fun K hK => ?_)
               ·skip
                refine goes_ Try.func19 (by kernel_rfl) rfl #[.int .u8 a0, .agg #[.int .u64 a2_0, .int .u64 a2_1], .int .u8 (rd t877 0)] (by rfl) rfl rfl (by (try simp only [List.map_toArray, List.map_cons, List.map_nil]); first | done | rfl | (simp only [List.length_drop, List.length_take]; rfl)) ?_
                with_reducible refine (special_boxOf.calls kj45 a0 a2_0 a2_1 (rd t877 0) t900 t901 t902 t903 _ A67.out).mono ?_
                rintro e w79 ⟨rfl, hb⟩
                refine ⟨_, rfl, ?_⟩
                have n0_ := A0_ (blk_below (bm_ BK871.out) hb)
                have n1_ := A0_ (blk_below (bm_ BK872.out) hb)
                have n2_ := A0_ (blk_below (bm_ BK873.out) hb)
                have n3_ := A0_ (blk_below (bm_ BK897.out) hb)
                have n4_ := A0_ (below_step (by repeat (first | (with_reducible first | exact qm_ HB.out | apply qA_ | apply qN_ | apply qD_ | refine below_set ?_ GE871.out | refine below_set ?_ GE872.out | refine below_set ?_ GE873.out | refine below_set ?_ GE897.out) | exact HB.out)) hb)
                clear BK871
                clear BK872
                clear BK873
                clear BK897
                clear HB
                have BK871 := n0_
                have BK872 := n1_
                have BK873 := n2_
                have BK897 := n3_
                have HB := n4_
                clear n0_ n1_ n2_ n3_ n4_
                (try clear hb)
                (try clear hb2)
                (try clear hk)
                (try clear hi)
                refine hK.out _ _ ⟨(blk_cell BK871.out 0).trans rfl, (blk_cell BK871.out 1).trans rfl, (blk_cell BK897.out 0).trans rfl, (blk_cell BK897.out 1).trans rfl, (blk_cell BK897.out 2).trans rfl, (blk_cell BK897.out 3).trans rfl⟩ (fun hHeld => ?_)
                clear hK K
                refine norm_ (a' := ?_) ?_ ?_
                rotate_left
                ·show Act.put _ (some 86) _ = _
                 simp only [Act.put, List.setIfInBounds_toArray, List.set_cons_zero, List.set_cons_succ, i64_w, i32_w]
                 rfl
                refine two_ (i := 6) (j := 7) (Ni := some 89) (Nj := some 18) #[true, true, true, true, true, true, true, false, false] #[true, true, true, true, true, true, false, true, false] rfl rfl rfl rfl (two_of HT_.out (by kernel_rfl)) (by decide) (by decide) (fun K hK => ?_) (fun K hK => ?_)
                ·skip
                 refine goes_ Try.func20 (by kernel_rfl) rfl #[.agg #[.int .i64 t900, .bool t901, .int .i64 t902, .bool t903], .agg #[.int .i64 x898000_45, .bool t894, .int .i64 t898, .bool t899], .int .u8 a1] (by rfl) rfl rfl (by (try simp only [List.map_toArray, List.map_cons, List.map_nil]); first | done | rfl | (simp only [List.length_drop, List.length_take]; rfl)) ?_
                 with_reducible refine (special_box_times.calls t900 t901 t902 t903 x898000_45 t894 t898 t899 a1 t904 t905 t906 t907 _ A68.out).mono ?_
                 rintro e w80 ⟨rfl, hb⟩
                 refine ⟨_, rfl, ?_⟩
                 have n0_ := A0_ (blk_below (bm_ BK871.out) hb)
                 have n1_ := A0_ (blk_below (bm_ BK872.out) hb)
                 have n2_ := A0_ (blk_below (bm_ BK873.out) hb)
                 have n3_ := A0_ (blk_below (bm_ BK897.out) hb)
                 have n4_ := A0_ (below_step (by repeat (first | (with_reducible first | exact qm_ HB.out | apply qA_ | apply qN_ | apply qD_ | refine below_set ?_ GE871.out | refine below_set ?_ GE872.out | refine below_set ?_ GE873.out | refine below_set ?_ GE897.out) | exact HB.out)) hb)
                 clear BK871
                 clear BK872
                 clear BK873
                 clear BK897
                 clear HB
                 have BK871 := n0_
                 have BK872 := n1_
                 have BK873 := n2_
                 have BK897 := n3_
                 have HB := n4_
                 clear n0_ n1_ n2_ n3_ n4_
                 (try clear hb)
                 (try clear hb2)
                 (try clear hk)
                 (try clear hi)
                 refine hK.out _ _ ⟨(blk_cell BK871.out 0).trans rfl, (blk_cell BK871.out 1).trans rfl, (blk_cell BK897.out 0).trans rfl, (blk_cell BK897.out 1).trans rfl, (blk_cell BK897.out 2).trans rfl, (blk_cell BK897.out 3).trans rfl⟩ (fun hHeld => ?_)
                 clear hK K
                 refine norm_ (a' := ?_) ?_ ?_
                 rotate_left
                 ·show Act.put _ (some 89) _ = _
                  simp only [Act.put, List.setIfInBounds_toArray, List.set_cons_zero, List.set_cons_succ, i64_w, i32_w]
                  rfl
                 refine one_ (i := 7) (N := some 18) #[true, true, true, true, true, true, true, true, false] rfl rfl (one_of HT_.out (by kernel_rfl)) (by decide) (fun K hK => ?_)
                 refine box_step ?hg (N := 18) ?hd (cs := #[.int .i64 0, .bool false, .int .i64 0, .bool false]) (t := 54) ?hr ?_; (case hd => rfl); (case hg => rfl); (case hr => first | (go_simp; done) | (go_simp; rfl))
                 intro gb908 hg w81 hbox hb
                 have n0_ := A0_ (blk_below (bm_ BK871.out) hb)
                 have n1_ := A0_ (blk_below (bm_ BK872.out) hb)
                 have n2_ := A0_ (blk_below (bm_ BK873.out) hb)
                 have n3_ := A0_ (blk_below (bm_ BK897.out) hb)
                 have n4_ := A0_ (below_step (by repeat (first | (with_reducible first | exact qm_ HB.out | apply qA_ | apply qN_ | apply qD_ | refine below_set ?_ GE871.out | refine below_set ?_ GE872.out | refine below_set ?_ GE873.out | refine below_set ?_ GE897.out) | exact HB.out)) hb)
                 have n5_ := A0_ (hbox)
                 have n6_ := A0_ ((by rw [hg]; exact (below_size (by repeat (first | (with_reducible first | exact qm_ HB.out | apply qA_ | apply qN_ | apply qD_ | refine below_set ?_ GE871.out | refine below_set ?_ GE872.out | refine below_set ?_ GE873.out | refine below_set ?_ GE897.out) | exact HB.out))) : w.heap.size ≤ gb908))
                 have n7_ := A0_ ((by rw [hg]; exact (below_size (by repeat (first | (with_reducible first | exact qm_ HB.out | apply qA_ | apply qN_ | apply qD_ | refine below_set ?_ GE871.out | refine below_set ?_ GE872.out | refine below_set ?_ GE873.out | refine below_set ?_ GE897.out) | exact HB.out))) : w.heap.size ≤ gb908))
                 have n8_ := A0_ ((by rw [hg]; exact Nat.ne_of_lt (blk_lt (bm_ BK871.out)) : gb871 ≠ gb908))
                 have n9_ := A0_ ((by rw [hg]; exact Nat.ne_of_gt (blk_lt (bm_ BK871.out)) : gb908 ≠ gb871))
                 have n10_ := A0_ ((by rw [hg]; exact Nat.ne_of_lt (blk_lt (bm_ BK872.out)) : gb872 ≠ gb908))
                 have n11_ := A0_ ((by rw [hg]; exact Nat.ne_of_gt (blk_lt (bm_ BK872.out)) : gb908 ≠ gb872))
                 have n12_ := A0_ ((by rw [hg]; exact Nat.ne_of_lt (blk_lt (bm_ BK873.out)) : gb873 ≠ gb908))
                 have n13_ := A0_ ((by rw [hg]; exact Nat.ne_of_gt (blk_lt (bm_ BK873.out)) : gb908 ≠ gb873))
                 have n14_ := A0_ ((by rw [hg]; exact Nat.ne_of_lt (blk_lt (bm_ BK897.out)) : gb897 ≠ gb908))
                 have n15_ := A0_ ((by rw [hg]; exact Nat.ne_of_gt (blk_lt (bm_ BK897.out)) : gb908 ≠ gb897))
                 clear BK871
                 clear BK872
                 clear BK873
                 clear BK897
                 clear HB
                 have BK871 := n0_
                 have BK872 := n1_
                 have BK873 := n2_
                 have BK897 := n3_
                 have HB := n4_
                 have BK908 := n5_
                 have GW908 := n6_
                 have GE908 := n7_
                 have NB871_908 := n8_
                 have NB908_871 := n9_
                 have NB872_908 := n10_
                 have NB908_872 := n11_
                 have NB873_908 := n12_
                 have NB908_873 := n13_
                 have NB897_908 := n14_
                 have NB908_897 := n15_
                 clear n0_ n1_ n2_ n3_ n4_ n5_ n6_ n7_ n8_ n9_ n10_ n11_ n12_ n13_ n14_ n15_
                 clear hb hbox hg
                 refine hK.out _ _ ⟨(blk_cell BK871.out 0).trans rfl, (blk_cell BK871.out 1).trans rfl, (blk_cell BK897.out 0).trans rfl, (blk_cell BK897.out 1).trans rfl, (blk_cell BK897.out 2).trans rfl, (blk_cell BK897.out 3).trans rfl⟩ (fun hHeld => ?_)
                 clear hK K
                 refine norm_ (a' := ?_) ?_ ?_
                 rotate_left
                 ·show Act.put _ (some 18) _ = _
                  simp only [Act.put, List.setIfInBounds_toArray, List.set_cons_zero, List.set_cons_succ, i64_w, i32_w]
                  rfl
                 exact norm_ (by simp only [putAll, Act.put, List.setIfInBounds_toArray, List.set_cons_zero, List.set_cons_succ]) (hCont (gb908) _ ⟨hHeld, (bm_ BK871.out), (bm_ BK872.out), (bm_ BK873.out), (bm_ BK897.out), (bm_ BK908.out), GW908.out, GE908.out, NB871_908.out, NB908_871.out, NB872_908.out, NB908_872.out, NB873_908.out, NB908_873.out, NB897_908.out, NB908_897.out, (by repeat (first | (with_reducible first | exact qm_ HB.out | apply qA_ | apply qN_ | apply qD_ | refine below_set ?_ GE871.out | refine below_set ?_ GE872.out | refine below_set ?_ GE873.out | refine below_set ?_ GE897.out | refine below_set ?_ GE908.out) | exact HB.out))⟩)
                ·skip
                 refine box_step ?hg (N := 18) ?hd (cs := #[.int .i64 0, .bool false, .int .i64 0, .bool false]) (t := 54) ?hr ?_; (case hd => rfl); (case hg => rfl); (case hr => first | (go_simp; done) | (go_simp; rfl))
                 intro gb908 hg w80 hbox hb
                 have n0_ := A0_ (blk_below (bm_ BK871.out) hb)
                 have n1_ := A0_ (blk_below (bm_ BK872.out) hb)
                 have n2_ := A0_ (blk_below (bm_ BK873.out) hb)
                 have n3_ := A0_ (blk_below (bm_ BK897.out) hb)
                 have n4_ := A0_ (below_step (by repeat (first | (with_reducible first | exact qm_ HB.out | apply qA_ | apply qN_ | apply qD_ | refine below_set ?_ GE871.out | refine below_set ?_ GE872.out | refine below_set ?_ GE873.out | refine below_set ?_ GE897.out) | exact HB.out)) hb)
                 have n5_ := A0_ (hbox)
                 have n6_ := A0_ ((by rw [hg]; exact (below_size (by repeat (first | (with_reducible first | exact qm_ HB.out | apply qA_ | apply qN_ | apply qD_ | refine below_set ?_ GE871.out | refine below_set ?_ GE872.out | refine below_set ?_ GE873.out | refine below_set ?_ GE897.out) | exact HB.out))) : w.heap.size ≤ gb908))
                 have n7_ := A0_ ((by rw [hg]; exact (below_size (by repeat (first | (with_reducible first | exact qm_ HB.out | apply qA_ | apply qN_ | apply qD_ | refine below_set ?_ GE871.out | refine below_set ?_ GE872.out | refine below_set ?_ GE873.out | refine below_set ?_ GE897.out) | exact HB.out))) : w.heap.size ≤ gb908))
                 have n8_ := A0_ ((by rw [hg]; exact Nat.ne_of_lt (blk_lt (bm_ BK871.out)) : gb871 ≠ gb908))
                 have n9_ := A0_ ((by rw [hg]; exact Nat.ne_of_gt (blk_lt (bm_ BK871.out)) : gb908 ≠ gb871))
                 have n10_ := A0_ ((by rw [hg]; exact Nat.ne_of_lt (blk_lt (bm_ BK872.out)) : gb872 ≠ gb908))
                 have n11_ := A0_ ((by rw [hg]; exact Nat.ne_of_gt (blk_lt (bm_ BK872.out)) : gb908 ≠ gb872))
                 have n12_ := A0_ ((by rw [hg]; exact Nat.ne_of_lt (blk_lt (bm_ BK873.out)) : gb873 ≠ gb908))
                 have n13_ := A0_ ((by rw [hg]; exact Nat.ne_of_gt (blk_lt (bm_ BK873.out)) : gb908 ≠ gb873))
                 have n14_ := A0_ ((by rw [hg]; exact Nat.ne_of_lt (blk_lt (bm_ BK897.out)) : gb897 ≠ gb908))
                 have n15_ := A0_ ((by rw [hg]; exact Nat.ne_of_gt (blk_lt (bm_ BK897.out)) : gb908 ≠ gb897))
                 clear BK871
                 clear BK872
                 clear BK873
                 clear BK897
                 clear HB
                 have BK871 := n0_
                 have BK872 := n1_
                 have BK873 := n2_
                 have BK897 := n3_
                 have HB := n4_
                 have BK908 := n5_
                 have GW908 := n6_
                 have GE908 := n7_
                 have NB871_908 := n8_
                 have NB908_871 := n9_
                 have NB872_908 := n10_
                 have NB908_872 := n11_
                 have NB873_908 := n12_
                 have NB908_873 := n13_
                 have NB897_908 := n14_
                 have NB908_897 := n15_
                 clear n0_ n1_ n2_ n3_ n4_ n5_ n6_ n7_ n8_ n9_ n10_ n11_ n12_ n13_ n14_ n15_
                 clear hb hbox hg
                 refine hK.out _ _ ⟨(blk_cell BK871.out 0).trans rfl, (blk_cell BK871.out 1).trans rfl, (blk_cell BK897.out 0).trans rfl, (blk_cell BK897.out 1).trans rfl, (blk_cell BK897.out 2).trans rfl, (blk_cell BK897.out 3).trans rfl⟩ (fun hHeld => ?_)
                 clear hK K
                 refine norm_ (a' := ?_) ?_ ?_
                 rotate_left
                 ·show Act.put _ (some 18) _ = _
                  simp only [Act.put, List.setIfInBounds_toArray, List.set_cons_zero, List.set_cons_succ, i64_w, i32_w]
                  rfl
                 refine one_ (i := 6) (N := some 89) #[true, true, true, true, true, true, true, true, false] rfl rfl (one_of HT_.out (by kernel_rfl)) (by decide) (fun K hK => ?_)
                 refine goes_ Try.func20 (by kernel_rfl) rfl #[.agg #[.int .i64 t900, .bool t901, .int .i64 t902, .bool t903], .agg #[.int .i64 x898000_45, .bool t894, .int .i64 t898, .bool t899], .int .u8 a1] (by rfl) rfl rfl (by (try simp only [List.map_toArray, List.map_cons, List.map_nil]); first | done | rfl | (simp only [List.length_drop, List.length_take]; rfl)) ?_
                 with_reducible refine (special_box_times.calls t900 t901 t902 t903 x898000_45 t894 t898 t899 a1 t904 t905 t906 t907 _ A68.out).mono ?_
                 rintro e w81 ⟨rfl, hb⟩
                 refine ⟨_, rfl, ?_⟩
                 have n0_ := A0_ (blk_below (bm_ BK871.out) hb)
                 have n1_ := A0_ (blk_below (bm_ BK872.out) hb)
                 have n2_ := A0_ (blk_below (bm_ BK873.out) hb)
                 have n3_ := A0_ (blk_below (bm_ BK897.out) hb)
                 have n4_ := A0_ (blk_below (bm_ BK908.out) hb)
                 have n5_ := A0_ (below_step (by repeat (first | (with_reducible first | exact qm_ HB.out | apply qA_ | apply qN_ | apply qD_ | refine below_set ?_ GE871.out | refine below_set ?_ GE872.out | refine below_set ?_ GE873.out | refine below_set ?_ GE897.out | refine below_set ?_ GE908.out) | exact HB.out)) hb)
                 clear BK871
                 clear BK872
                 clear BK873
                 clear BK897
                 clear BK908
                 clear HB
                 have BK871 := n0_
                 have BK872 := n1_
                 have BK873 := n2_
                 have BK897 := n3_
                 have BK908 := n4_
                 have HB := n5_
                 clear n0_ n1_ n2_ n3_ n4_ n5_
                 (try clear hb)
                 (try clear hb2)
                 (try clear hk)
                 (try clear hi)
                 refine hK.out _ _ ⟨(blk_cell BK871.out 0).trans rfl, (blk_cell BK871.out 1).trans rfl, (blk_cell BK897.out 0).trans rfl, (blk_cell BK897.out 1).trans rfl, (blk_cell BK897.out 2).trans rfl, (blk_cell BK897.out 3).trans rfl⟩ (fun hHeld => ?_)
                 clear hK K
                 refine norm_ (a' := ?_) ?_ ?_
                 rotate_left
                 ·show Act.put _ (some 89) _ = _
                  simp only [Act.put, List.setIfInBounds_toArray, List.set_cons_zero, List.set_cons_succ, i64_w, i32_w]
                  rfl
                 exact norm_ (by simp only [putAll, Act.put, List.setIfInBounds_toArray, List.set_cons_zero, List.set_cons_succ]) (hCont (gb908) _ ⟨hHeld, (bm_ BK871.out), (bm_ BK872.out), (bm_ BK873.out), (bm_ BK897.out), (bm_ BK908.out), GW908.out, GE908.out, NB871_908.out, NB908_871.out, NB872_908.out, NB908_872.out, NB873_908.out, NB908_873.out, NB897_908.out, NB908_897.out, (by repeat (first | (with_reducible first | exact qm_ HB.out | apply qA_ | apply qN_ | apply qD_ | refine below_set ?_ GE871.out | refine below_set ?_ GE872.out | refine below_set ?_ GE873.out | refine below_set ?_ GE897.out | refine below_set ?_ GE908.out) | exact HB.out))⟩)
               ·skip
                refine box_step ?hg (N := 18) ?hd (cs := #[.int .i64 0, .bool false, .int .i64 0, .bool false]) (t := 54) ?hr ?_; (case hd => rfl); (case hg => rfl); (case hr => first | (go_simp; done) | (go_simp; rfl))
                intro gb908 hg w79 hbox hb
                have n0_ := A0_ (blk_below (bm_ BK871.out) hb)
                have n1_ := A0_ (blk_below (bm_ BK872.out) hb)
                have n2_ := A0_ (blk_below (bm_ BK873.out) hb)
                have n3_ := A0_ (blk_below (bm_ BK897.out) hb)
                have n4_ := A0_ (below_step (by repeat (first | (with_reducible first | exact qm_ HB.out | apply qA_ | apply qN_ | apply qD_ | refine below_set ?_ GE871.out | refine below_set ?_ GE872.out | refine below_set ?_ GE873.out | refine below_set ?_ GE897.out) | exact HB.out)) hb)
                have n5_ := A0_ (hbox)
                have n6_ := A0_ ((by rw [hg]; exact (below_size (by repeat (first | (with_reducible first | exact qm_ HB.out | apply qA_ | apply qN_ | apply qD_ | refine below_set ?_ GE871.out | refine below_set ?_ GE872.out | refine below_set ?_ GE873.out | refine below_set ?_ GE897.out) | exact HB.out))) : w.heap.size ≤ gb908))
                have n7_ := A0_ ((by rw [hg]; exact (below_size (by repeat (first | (with_reducible first | exact qm_ HB.out | apply qA_ | apply qN_ | apply qD_ | refine below_set ?_ GE871.out | refine below_set ?_ GE872.out | refine below_set ?_ GE873.out | refine below_set ?_ GE897.out) | exact HB.out))) : w.heap.size ≤ gb908))
                have n8_ := A0_ ((by rw [hg]; exact Nat.ne_of_lt (blk_lt (bm_ BK871.out)) : gb871 ≠ gb908))
                have n9_ := A0_ ((by rw [hg]; exact Nat.ne_of_gt (blk_lt (bm_ BK871.out)) : gb908 ≠ gb871))
                have n10_ := A0_ ((by rw [hg]; exact Nat.ne_of_lt (blk_lt (bm_ BK872.out)) : gb872 ≠ gb908))
                have n11_ := A0_ ((by rw [hg]; exact Nat.ne_of_gt (blk_lt (bm_ BK872.out)) : gb908 ≠ gb872))
                have n12_ := A0_ ((by rw [hg]; exact Nat.ne_of_lt (blk_lt (bm_ BK873.out)) : gb873 ≠ gb908))
                have n13_ := A0_ ((by rw [hg]; exact Nat.ne_of_gt (blk_lt (bm_ BK873.out)) : gb908 ≠ gb873))
                have n14_ := A0_ ((by rw [hg]; exact Nat.ne_of_lt (blk_lt (bm_ BK897.out)) : gb897 ≠ gb908))
                have n15_ := A0_ ((by rw [hg]; exact Nat.ne_of_gt (blk_lt (bm_ BK897.out)) : gb908 ≠ gb897))
                clear BK871
                clear BK872
                clear BK873
                clear BK897
                clear HB
                have BK871 := n0_
                have BK872 := n1_
                have BK873 := n2_
                have BK897 := n3_
                have HB := n4_
                have BK908 := n5_
                have GW908 := n6_
                have GE908 := n7_
                have NB871_908 := n8_
                have NB908_871 := n9_
                have NB872_908 := n10_
                have NB908_872 := n11_
                have NB873_908 := n12_
                have NB908_873 := n13_
                have NB897_908 := n14_
                have NB908_897 := n15_
                clear n0_ n1_ n2_ n3_ n4_ n5_ n6_ n7_ n8_ n9_ n10_ n11_ n12_ n13_ n14_ n15_
                clear hb hbox hg
                refine hK.out _ _ ⟨(blk_cell BK871.out 0).trans rfl, (blk_cell BK871.out 1).trans rfl, (blk_cell BK897.out 0).trans rfl, (blk_cell BK897.out 1).trans rfl, (blk_cell BK897.out 2).trans rfl, (blk_cell BK897.out 3).trans rfl⟩ (fun hHeld => ?_)
                clear hK K
                refine norm_ (a' := ?_) ?_ ?_
                rotate_left
                ·show Act.put _ (some 18) _ = _
                 simp only [Act.put, List.setIfInBounds_toArray, List.set_cons_zero, List.set_cons_succ, i64_w, i32_w]
                 rfl
                refine one_ (i := 3) (N := some 86) #[true, true, true, true, true, true, false, true, false] rfl rfl (one_of HT_.out (by kernel_rfl)) (by decide) (fun K hK => ?_)
                refine goes_ Try.func19 (by kernel_rfl) rfl #[.int .u8 a0, .agg #[.int .u64 a2_0, .int .u64 a2_1], .int .u8 (rd t877 0)] (by rfl) rfl rfl (by (try simp only [List.map_toArray, List.map_cons, List.map_nil]); first | done | rfl | (simp only [List.length_drop, List.length_take]; rfl)) ?_
                with_reducible refine (special_boxOf.calls kj45 a0 a2_0 a2_1 (rd t877 0) t900 t901 t902 t903 _ A67.out).mono ?_
                rintro e w80 ⟨rfl, hb⟩
                refine ⟨_, rfl, ?_⟩
                have n0_ := A0_ (blk_below (bm_ BK871.out) hb)
                have n1_ := A0_ (blk_below (bm_ BK872.out) hb)
                have n2_ := A0_ (blk_below (bm_ BK873.out) hb)
                have n3_ := A0_ (blk_below (bm_ BK897.out) hb)
                have n4_ := A0_ (blk_below (bm_ BK908.out) hb)
                have n5_ := A0_ (below_step (by repeat (first | (with_reducible first | exact qm_ HB.out | apply qA_ | apply qN_ | apply qD_ | refine below_set ?_ GE871.out | refine below_set ?_ GE872.out | refine below_set ?_ GE873.out | refine below_set ?_ GE897.out | refine below_set ?_ GE908.out) | exact HB.out)) hb)
                clear BK871
                clear BK872
                clear BK873
                clear BK897
                clear BK908
                clear HB
                have BK871 := n0_
                have BK872 := n1_
                have BK873 := n2_
                have BK897 := n3_
                have BK908 := n4_
                have HB := n5_
                clear n0_ n1_ n2_ n3_ n4_ n5_
                (try clear hb)
                (try clear hb2)
                (try clear hk)
                (try clear hi)
                refine hK.out _ _ ⟨(blk_cell BK871.out 0).trans rfl, (blk_cell BK871.out 1).trans rfl, (blk_cell BK897.out 0).trans rfl, (blk_cell BK897.out 1).trans rfl, (blk_cell BK897.out 2).trans rfl, (blk_cell BK897.out 3).trans rfl⟩ (fun hHeld => ?_)
                clear hK K
                refine norm_ (a' := ?_) ?_ ?_
                rotate_left
                ·show Act.put _ (some 86) _ = _
                 simp only [Act.put, List.setIfInBounds_toArray, List.set_cons_zero, List.set_cons_succ, i64_w, i32_w]
                 rfl
                refine one_ (i := 6) (N := some 89) #[true, true, true, true, true, true, true, true, false] rfl rfl (one_of HT_.out (by kernel_rfl)) (by decide) (fun K hK => ?_)
                refine goes_ Try.func20 (by kernel_rfl) rfl #[.agg #[.int .i64 t900, .bool t901, .int .i64 t902, .bool t903], .agg #[.int .i64 x898000_45, .bool t894, .int .i64 t898, .bool t899], .int .u8 a1] (by rfl) rfl rfl (by (try simp only [List.map_toArray, List.map_cons, List.map_nil]); first | done | rfl | (simp only [List.length_drop, List.length_take]; rfl)) ?_
                with_reducible refine (special_box_times.calls t900 t901 t902 t903 x898000_45 t894 t898 t899 a1 t904 t905 t906 t907 _ A68.out).mono ?_
                rintro e w81 ⟨rfl, hb⟩
                refine ⟨_, rfl, ?_⟩
                have n0_ := A0_ (blk_below (bm_ BK871.out) hb)
                have n1_ := A0_ (blk_below (bm_ BK872.out) hb)
                have n2_ := A0_ (blk_below (bm_ BK873.out) hb)
                have n3_ := A0_ (blk_below (bm_ BK897.out) hb)
                have n4_ := A0_ (blk_below (bm_ BK908.out) hb)
                have n5_ := A0_ (below_step (by repeat (first | (with_reducible first | exact qm_ HB.out | apply qA_ | apply qN_ | apply qD_ | refine below_set ?_ GE871.out | refine below_set ?_ GE872.out | refine below_set ?_ GE873.out | refine below_set ?_ GE897.out | refine below_set ?_ GE908.out) | exact HB.out)) hb)
                clear BK871
                clear BK872
                clear BK873
                clear BK897
                clear BK908
                clear HB
                have BK871 := n0_
                have BK872 := n1_
                have BK873 := n2_
                have BK897 := n3_
                have BK908 := n4_
                have HB := n5_
                clear n0_ n1_ n2_ n3_ n4_ n5_
                (try clear hb)
                (try clear hb2)
                (try clear hk)
                (try clear hi)
                refine hK.out _ _ ⟨(blk_cell BK871.out 0).trans rfl, (blk_cell BK871.out 1).trans rfl, (blk_cell BK897.out 0).trans rfl, (blk_cell BK897.out 1).trans rfl, (blk_cell BK897.out 2).trans rfl, (blk_cell BK897.out 3).trans rfl⟩ (fun hHeld => ?_)
                clear hK K
                refine norm_ (a' := ?_) ?_ ?_
                rotate_left
                ·show Act.put _ (some 89) _ = _
                 simp only [Act.put, List.setIfInBounds_toArray, List.set_cons_zero, List.set_cons_succ, i64_w, i32_w]
                 rfl
                exact norm_ (by simp only [putAll, Act.put, List.setIfInBounds_toArray, List.set_cons_zero, List.set_cons_succ]) (hCont (gb908) _ ⟨hHeld, (bm_ BK871.out), (bm_ BK872.out), (bm_ BK873.out), (bm_ BK897.out), (bm_ BK908.out), GW908.out, GE908.out, NB871_908.out, NB908_871.out, NB872_908.out, NB908_872.out, NB873_908.out, NB908_873.out, NB897_908.out, NB908_897.out, (by repeat (first | (with_reducible first | exact qm_ HB.out | apply qA_ | apply qN_ | apply qD_ | refine below_set ?_ GE871.out | refine below_set ?_ GE872.out | refine below_set ?_ GE873.out | refine below_set ?_ GE897.out | refine below_set ?_ GE908.out) | exact HB.out))⟩)
              rintro gb908 w82 ⟨hS_, h0_, h1_, h2_, h3_, h4_, h5_, h6_, h7_, h8_, h9_, h10_, h11_, h12_, h13_, h14_, h15_⟩
              have n0_ : Aside0 (w82.heap[gb871]? = some (.cells #[.int .u64 a2_0, .int .u64 a2_1] 26 (0, 0))) := ⟨h0_⟩
              have n1_ : Aside0 (w82.heap[gb872]? = some (.cells #[.int .u64 a3_0, .int .u64 a3_1] 26 (0, 0))) := ⟨h1_⟩
              have n2_ : Aside0 (w82.heap[gb873]? = some (.cells #[.int .u64 0, .int .u64 0, .int .u8 0, .int .u8 0] 29 (0, 0))) := ⟨h2_⟩
              have n3_ : Aside0 (w82.heap[gb897]? = some (.cells #[.int .i64 x898000_45, .bool t894, .int .i64 t898, .bool t899] 54 (0, 0))) := ⟨h3_⟩
              have n4_ : Aside0 (w82.heap[gb908]? = some (.cells #[.int .i64 0, .bool false, .int .i64 0, .bool false] 54 (0, 0))) := ⟨h4_⟩
              have n5_ : Aside0 (w.heap.size ≤ gb908) := ⟨h5_⟩
              have n6_ : Aside0 (w.heap.size ≤ gb908) := ⟨h6_⟩
              have n7_ : Aside0 (gb871 ≠ gb908) := ⟨h7_⟩
              have n8_ : Aside0 (gb908 ≠ gb871) := ⟨h8_⟩
              have n9_ : Aside0 (gb872 ≠ gb908) := ⟨h9_⟩
              have n10_ : Aside0 (gb908 ≠ gb872) := ⟨h10_⟩
              have n11_ : Aside0 (gb873 ≠ gb908) := ⟨h11_⟩
              have n12_ : Aside0 (gb908 ≠ gb873) := ⟨h12_⟩
              have n13_ : Aside0 (gb897 ≠ gb908) := ⟨h13_⟩
              have n14_ : Aside0 (gb908 ≠ gb897) := ⟨h14_⟩
              have n15_ : Aside0 (Below w.heap.size w w82) := ⟨h15_⟩
              clear BK871
              clear BK872
              clear BK873
              clear BK897
              clear HB
              clear h0_ h1_ h2_ h3_ h4_ h5_ h6_ h7_ h8_ h9_ h10_ h11_ h12_ h13_ h14_ h15_
              have BK871 := n0_
              have BK872 := n1_
              have BK873 := n2_
              have BK897 := n3_
              have BK908 := n4_
              have GW908 := n5_
              have GE908 := n6_
              have NB871_908 := n7_
              have NB908_871 := n8_
              have NB872_908 := n9_
              have NB908_872 := n10_
              have NB873_908 := n11_
              have NB908_873 := n12_
              have NB897_908 := n13_
              have NB908_897 := n14_
              have HB := n15_
              clear n0_ n1_ n2_ n3_ n4_ n5_ n6_ n7_ n8_ n9_ n10_ n11_ n12_ n13_ n14_ n15_
              have hHeld : w82.cell? ⟨gb871, 0, none⟩ = some (.int .u64 a2_0) ∧ w82.cell? ⟨gb871, 1, none⟩ = some (.int .u64 a2_1) ∧ w82.cell? ⟨gb897, 0, none⟩ = some (.int .i64 x898000_45) ∧ w82.cell? ⟨gb897, 1, none⟩ = some (.bool t894) ∧ w82.cell? ⟨gb897, 2, none⟩ = some (.int .i64 t898) ∧ w82.cell? ⟨gb897, 3, none⟩ = some (.bool t899) := hS_
              refine norm_ (a' := ?_) ?_ ?_
              rotate_left
              ·simp only [putAll, Act.put, List.setIfInBounds_toArray, List.set_cons_zero, List.set_cons_succ]
               rfl
              refine one_ (i := 8) (N := none) #[true, true, true, true, true, true, true, true, true] rfl rfl (one_of HT_.out (by kernel_rfl)) (by decide) (fun K hK => ?_)
              have hs83 : w82.cell? ⟨gb908, 0, none⟩ = some (.int .i64 0) := (blk_cell BK908.out 0).trans rfl
              have hfs83 := blk_frozen BK908.out 0
              have hns83_0 := NB871_908.out
              have hns83_1 := NB872_908.out
              have hns83_2 := NB873_908.out
              have hns83_3 := NB897_908.out
              have hms83_0 := NB908_871.out
              have hms83_1 := NB908_872.out
              have hms83_2 := NB908_873.out
              have hms83_3 := NB908_897.out
              have hs84 : w82.cell? ⟨gb908, 1, none⟩ = some (.bool false) := (blk_cell BK908.out 1).trans rfl
              have hfs84 := blk_frozen BK908.out 1
              have hns84_0 := NB871_908.out
              have hns84_1 := NB872_908.out
              have hns84_2 := NB873_908.out
              have hns84_3 := NB897_908.out
              have hms84_0 := NB908_871.out
              have hms84_1 := NB908_872.out
              have hms84_2 := NB908_873.out
              have hms84_3 := NB908_897.out
              have hs85 : w82.cell? ⟨gb908, 2, none⟩ = some (.int .i64 0) := (blk_cell BK908.out 2).trans rfl
              have hfs85 := blk_frozen BK908.out 2
              have hns85_0 := NB871_908.out
              have hns85_1 := NB872_908.out
              have hns85_2 := NB873_908.out
              have hns85_3 := NB897_908.out
              have hms85_0 := NB908_871.out
              have hms85_1 := NB908_872.out
              have hms85_2 := NB908_873.out
              have hms85_3 := NB908_897.out
              have hs86 : w82.cell? ⟨gb908, 3, none⟩ = some (.bool false) := (blk_cell BK908.out 3).trans rfl
              have hfs86 := blk_frozen BK908.out 3
              have hns86_0 := NB871_908.out
              have hns86_1 := NB872_908.out
              have hns86_2 := NB873_908.out
              have hns86_3 := NB897_908.out
              have hms86_0 := NB908_871.out
              have hms86_1 := NB908_872.out
              have hms86_2 := NB908_873.out
              have hms86_3 := NB908_897.out
              refine skip_ (w1 := ?_) (by rfl) rfl ?_ ?_
              rotate_left
              ·go_simp
               rfl
              refine hK.out _ _ ⟨((cell_far (p := ⟨gb908, _, none⟩) NB871_908.out _).trans (((cell_far (p := ⟨gb908, _, none⟩) NB871_908.out _).trans (((cell_far (p := ⟨gb908, _, none⟩) NB871_908.out _).trans (((cell_far (p := ⟨gb908, _, none⟩) NB871_908.out _).trans (hHeld.1)))))))), ((cell_far (p := ⟨gb908, _, none⟩) NB871_908.out _).trans (((cell_far (p := ⟨gb908, _, none⟩) NB871_908.out _).trans (((cell_far (p := ⟨gb908, _, none⟩) NB871_908.out _).trans (((cell_far (p := ⟨gb908, _, none⟩) NB871_908.out _).trans (hHeld.2.1)))))))), ((cell_far (p := ⟨gb908, _, none⟩) NB897_908.out _).trans (((cell_far (p := ⟨gb908, _, none⟩) NB897_908.out _).trans (((cell_far (p := ⟨gb908, _, none⟩) NB897_908.out _).trans (((cell_far (p := ⟨gb908, _, none⟩) NB897_908.out _).trans (hHeld.2.2.1)))))))), ((cell_far (p := ⟨gb908, _, none⟩) NB897_908.out _).trans (((cell_far (p := ⟨gb908, _, none⟩) NB897_908.out _).trans (((cell_far (p := ⟨gb908, _, none⟩) NB897_908.out _).trans (((cell_far (p := ⟨gb908, _, none⟩) NB897_908.out _).trans (hHeld.2.2.2.1)))))))), ((cell_far (p := ⟨gb908, _, none⟩) NB897_908.out _).trans (((cell_far (p := ⟨gb908, _, none⟩) NB897_908.out _).trans (((cell_far (p := ⟨gb908, _, none⟩) NB897_908.out _).trans (((cell_far (p := ⟨gb908, _, none⟩) NB897_908.out _).trans (hHeld.2.2.2.2.1)))))))), ((cell_far (p := ⟨gb908, _, none⟩) NB897_908.out _).trans (((cell_far (p := ⟨gb908, _, none⟩) NB897_908.out _).trans (((cell_far (p := ⟨gb908, _, none⟩) NB897_908.out _).trans (((cell_far (p := ⟨gb908, _, none⟩) NB897_908.out _).trans (hHeld.2.2.2.2.2))))))))⟩ (fun hHeld => ?_)
              clear hK K
              refine done_ (done_of HT_.out (by kernel_rfl)) ?_
              have hnb87 := NB908_871.out
              have hnc87 := NB871_908.out
              have hnb88 := NB908_872.out
              have hnc88 := NB872_908.out
              have hnb89 := NB908_873.out
              have hnc89 := NB873_908.out
              have hnb90 := NB908_897.out
              have hnc90 := NB897_908.out
              have hcz91 := bc4_ BK908.out
              have hfz91 := bf4_ BK908.out
              try go_wp2_with (first | ((with_reducible refine gate_callee (f := 21) rfl ?_); refine goesL_ (some 95) rfl rfl Try.func21 (by kernel_rfl) rfl #[.agg #[.int .i64 t904, .bool t905, .int .i64 t906, .bool t907], .int .u8 a0, .int .u64 0] rfl (by (try simp only [List.map_toArray, List.map_cons, List.map_nil]); first | done | rfl | (simp only [List.length_drop, List.length_take]; rfl)) ?_; (with_reducible refine (special_box_words.calls kj45 t904 t905 t906 t907 a0 0 t909 t910 _ A70.out).mono ?_); rintro e w92 ⟨rfl, hb⟩; refine ⟨_, rfl, ?_⟩; have n0_ := A0_ (blk_below (g := gb871) (o := .cells #[.int .u64 a2_0, .int .u64 a2_1] 26 (0, 0)) (by (with_reducible repeat first | apply bN_ | apply bD_ | apply bA_); refine blk_far ?_ NB871_908.out _; (with_reducible repeat first | apply bN_ | apply bD_ | apply bA_); refine blk_far ?_ NB871_908.out _; (with_reducible repeat first | apply bN_ | apply bD_ | apply bA_); refine blk_far ?_ NB871_908.out _; (with_reducible repeat first | apply bN_ | apply bD_ | apply bA_); refine blk_far ?_ NB871_908.out _; (with_reducible repeat first | apply bN_ | apply bD_ | apply bA_); exact BK871.out) hb); have n1_ := A0_ (blk_below (g := gb872) (o := .cells #[.int .u64 a3_0, .int .u64 a3_1] 26 (0, 0)) (by (with_reducible repeat first | apply bN_ | apply bD_ | apply bA_); refine blk_far ?_ NB872_908.out _; (with_reducible repeat first | apply bN_ | apply bD_ | apply bA_); refine blk_far ?_ NB872_908.out _; (with_reducible repeat first | apply bN_ | apply bD_ | apply bA_); refine blk_far ?_ NB872_908.out _; (with_reducible repeat first | apply bN_ | apply bD_ | apply bA_); refine blk_far ?_ NB872_908.out _; (with_reducible repeat first | apply bN_ | apply bD_ | apply bA_); exact BK872.out) hb); have n2_ := A0_ (blk_below (g := gb873) (o := .cells #[.int .u64 0, .int .u64 0, .int .u8 0, .int .u8 0] 29 (0, 0)) (by (with_reducible repeat first | apply bN_ | apply bD_ | apply bA_); refine blk_far ?_ NB873_908.out _; (with_reducible repeat first | apply bN_ | apply bD_ | apply bA_); refine blk_far ?_ NB873_908.out _; (with_reducible repeat first | apply bN_ | apply bD_ | apply bA_); refine blk_far ?_ NB873_908.out _; (with_reducible repeat first | apply bN_ | apply bD_ | apply bA_); refine blk_far ?_ NB873_908.out _; (with_reducible repeat first | apply bN_ | apply bD_ | apply bA_); exact BK873.out) hb); have n3_ := A0_ (blk_below (g := gb897) (o := .cells #[.int .i64 x898000_45, .bool t894, .int .i64 t898, .bool t899] 54 (0, 0)) (by (with_reducible repeat first | apply bN_ | apply bD_ | apply bA_); refine blk_far ?_ NB897_908.out _; (with_reducible repeat first | apply bN_ | apply bD_ | apply bA_); refine blk_far ?_ NB897_908.out _; (with_reducible repeat first | apply bN_ | apply bD_ | apply bA_); refine blk_far ?_ NB897_908.out _; (with_reducible repeat first | apply bN_ | apply bD_ | apply bA_); refine blk_far ?_ NB897_908.out _; (with_reducible repeat first | apply bN_ | apply bD_ | apply bA_); exact BK897.out) hb); have n4_ := A0_ (blk_below (g := gb908) (o := .cells #[.int .i64 t904, .bool t905, .int .i64 t906, .bool t907] 54 (0, 0)) (by (with_reducible repeat first | apply bN_ | apply bD_ | apply bA_); refine blk_put (cs := #[.int .i64 t904, .bool t905, .int .i64 t906, .bool false]) ?_ 3 _ rfl; (with_reducible repeat first | apply bN_ | apply bD_ | apply bA_); refine blk_put (cs := #[.int .i64 t904, .bool t905, .int .i64 0, .bool false]) ?_ 2 _ rfl; (with_reducible repeat first | apply bN_ | apply bD_ | apply bA_); refine blk_put (cs := #[.int .i64 t904, .bool false, .int .i64 0, .bool false]) ?_ 1 _ rfl; (with_reducible repeat first | apply bN_ | apply bD_ | apply bA_); refine blk_put (cs := #[.int .i64 0, .bool false, .int .i64 0, .bool false]) ?_ 0 _ rfl; (with_reducible repeat first | apply bN_ | apply bD_ | apply bA_); exact BK908.out) hb); have n5_ := A0_ (below_step (by repeat (first | (with_reducible first | exact qm_ HB.out | apply qA_ | apply qN_ | apply qD_ | refine below_set ?_ GE871.out | refine below_set ?_ GE872.out | refine below_set ?_ GE873.out | refine below_set ?_ GE897.out | refine below_set ?_ GE908.out) | exact HB.out)) hb); clear BK871; clear BK872; clear BK873; clear BK897; clear BK908; clear HB; have BK871 := n0_; have BK872 := n1_; have BK873 := n2_; have BK897 := n3_; have BK908 := n4_; have HB := n5_; clear n0_ n1_ n2_ n3_ n4_ n5_; (try clear hb); (try clear hb2); (try clear hk); (try clear hi); have hnb93 := NB873_871.out; have hnc93 := NB871_873.out; have hnb94 := NB873_872.out; have hnc94 := NB872_873.out; have hcz95 := bc4_ BK873.out; have hfz95 := bf4_ BK873.out))
              refine bodyPost_ret (results_ctt rfl _ _ gb873 29 #[.int .u64 t909, .int .u64 t910, .int .u8 0, .int .u8 0] (0, 0) _ rfl (by (with_reducible repeat first | apply bN_ | apply bD_ | apply bA_); refine blk_put (cs := #[.int .u64 t909, .int .u64 t910, .int .u8 0, .int .u8 0]) ?_ 3 _ rfl; (with_reducible repeat first | apply bN_ | apply bD_ | apply bA_); refine blk_put (cs := #[.int .u64 t909, .int .u64 t910, .int .u8 0, .int .u8 0]) ?_ 2 _ rfl; (with_reducible repeat first | apply bN_ | apply bD_ | apply bA_); refine blk_put (cs := #[.int .u64 t909, .int .u64 0, .int .u8 0, .int .u8 0]) ?_ 1 _ rfl; (with_reducible repeat first | apply bN_ | apply bD_ | apply bA_); refine blk_put (cs := #[.int .u64 0, .int .u64 0, .int .u8 0, .int .u8 0]) ?_ 0 _ rfl; (with_reducible repeat first | apply bN_ | apply bD_ | apply bA_); exact BK873.out) Try.underlying29 rfl (by kernel_rfl)) rfl ?_
              exact ⟨by first | rfl | (simp [errW_none, errW_some] <;> rfl) | (simp [*, errW_none, errW_some] <;> rfl), by repeat (first | (with_reducible first | exact qm_ HB.out | apply qA_ | apply qN_ | apply qD_ | refine below_set ?_ GE871.out | refine below_set ?_ GE872.out | refine below_set ?_ GE873.out | refine below_set ?_ GE897.out | refine below_set ?_ GE908.out) | exact HB.out)⟩
             ·rw [if_neg c69] at H
              have c69b0 : ((rd t877 1) == 3) = false := beq_eq_false_iff_ne.mpr c69
              have c69b1 : ((rd t877 1) != 3) = true := bne_iff_ne.mpr c69
              by_cases c96 : (rd t877 0) = 3
              ·rw [if_pos c96] at H
               have c96b0 : ((rd t877 0) == 3) = true := beq_iff_eq.mpr c96
               have c96b1 : ((rd t877 0) != 3) = false := bne_eq_false_iff_eq.mpr c96
               clear c96
               replace H := Option.bind_eq_some_iff.mp H
               obtain ⟨⟨t911, t912⟩, A970, H⟩ := H
               replace H : (some (t911, t912, 0, 0, true, 0)) = some (r1, r2, r3, r4, r5, r6) := H
               have A97 := A0_ A970
               clear A970
               simp only [Option.some.injEq, Prod.mk.injEq] at H
               obtain ⟨rfl, rfl, rfl, rfl, rfl, rfl⟩ := H
               have hnb98 := NB897_871.out
               have hnc98 := NB871_897.out
               have hnb99 := NB897_872.out
               have hnc99 := NB872_897.out
               have hnb100 := NB897_873.out
               have hnc100 := NB873_897.out
               have hcz101 := bc4_ BK897.out
               have hfz101 := bf4_ BK897.out
               try go_wp2_with (first | ((with_reducible refine gate_callee (f := 33) rfl ?_); refine goesL_ (some 81) rfl rfl Try.func33 (by kernel_rfl) rfl #[.agg #[.int .i64 t895, .bool t896]] rfl (by (try simp only [List.map_toArray, List.map_cons, List.map_nil]); first | done | rfl | (simp only [List.length_drop, List.length_take]; rfl)) ?_; (with_reducible refine (special_side_minus.calls t895 t896 t898 t899 _ A66.out).mono ?_); rintro e w102 ⟨rfl, hb⟩; refine ⟨_, rfl, ?_⟩; have n0_ := A0_ (blk_below (bm_ BK871.out) hb); have n1_ := A0_ (blk_below (bm_ BK872.out) hb); have n2_ := A0_ (blk_below (bm_ BK873.out) hb); have n3_ := A0_ (blk_below (bm_ BK897.out) hb); have n4_ := A0_ (below_step (by repeat (first | (with_reducible first | exact qm_ HB.out | apply qA_ | apply qN_ | apply qD_ | refine below_set ?_ GE871.out | refine below_set ?_ GE872.out | refine below_set ?_ GE873.out | refine below_set ?_ GE897.out) | exact HB.out)) hb); clear BK871; clear BK872; clear BK873; clear BK897; clear HB; have BK871 := n0_; have BK872 := n1_; have BK873 := n2_; have BK897 := n3_; have HB := n4_; clear n0_ n1_ n2_ n3_ n4_; (try clear hb); (try clear hb2); (try clear hk); (try clear hi); have hcz103 := bc4_ BK897.out; have hfz103 := bf4_ BK897.out))
               have n0_ : Aside0 (((w102.setCell ⟨gb897, 2, none⟩ (.int .i64 t898)).setCell ⟨gb897, 3, none⟩ (.bool t899)).heap[gb871]? = some (.cells #[.int .u64 a2_0, .int .u64 a2_1] 26 (0, 0))) := ⟨by (with_reducible repeat first | apply bN_ | apply bD_ | apply bA_); refine blk_far ?_ NB871_897.out _; (with_reducible repeat first | apply bN_ | apply bD_ | apply bA_); refine blk_far ?_ NB871_897.out _; (with_reducible repeat first | apply bN_ | apply bD_ | apply bA_); exact BK871.out⟩
               have n1_ : Aside0 (((w102.setCell ⟨gb897, 2, none⟩ (.int .i64 t898)).setCell ⟨gb897, 3, none⟩ (.bool t899)).heap[gb872]? = some (.cells #[.int .u64 a3_0, .int .u64 a3_1] 26 (0, 0))) := ⟨by (with_reducible repeat first | apply bN_ | apply bD_ | apply bA_); refine blk_far ?_ NB872_897.out _; (with_reducible repeat first | apply bN_ | apply bD_ | apply bA_); refine blk_far ?_ NB872_897.out _; (with_reducible repeat first | apply bN_ | apply bD_ | apply bA_); exact BK872.out⟩
               have n2_ : Aside0 (((w102.setCell ⟨gb897, 2, none⟩ (.int .i64 t898)).setCell ⟨gb897, 3, none⟩ (.bool t899)).heap[gb873]? = some (.cells #[.int .u64 0, .int .u64 0, .int .u8 0, .int .u8 0] 29 (0, 0))) := ⟨by (with_reducible repeat first | apply bN_ | apply bD_ | apply bA_); refine blk_far ?_ NB873_897.out _; (with_reducible repeat first | apply bN_ | apply bD_ | apply bA_); refine blk_far ?_ NB873_897.out _; (with_reducible repeat first | apply bN_ | apply bD_ | apply bA_); exact BK873.out⟩
               have n3_ : Aside0 (((w102.setCell ⟨gb897, 2, none⟩ (.int .i64 t898)).setCell ⟨gb897, 3, none⟩ (.bool t899)).heap[gb897]? = some (.cells #[.int .i64 x898000_45, .bool t894, .int .i64 t898, .bool t899] 54 (0, 0))) := ⟨by (with_reducible repeat first | apply bN_ | apply bD_ | apply bA_); refine blk_put (cs := #[.int .i64 x898000_45, .bool t894, .int .i64 t898, .bool t896]) ?_ 3 _ rfl; (with_reducible repeat first | apply bN_ | apply bD_ | apply bA_); refine blk_put (cs := #[.int .i64 x898000_45, .bool t894, .int .i64 t895, .bool t896]) ?_ 2 _ rfl; (with_reducible repeat first | apply bN_ | apply bD_ | apply bA_); exact BK897.out⟩
               have n4_ : Aside0 (Below w.heap.size w ((w102.setCell ⟨gb897, 2, none⟩ (.int .i64 t898)).setCell ⟨gb897, 3, none⟩ (.bool t899))) := ⟨by repeat (first | (with_reducible first | exact qm_ HB.out | apply qA_ | apply qN_ | apply qD_ | refine below_set ?_ GE871.out | refine below_set ?_ GE872.out | refine below_set ?_ GE873.out | refine below_set ?_ GE897.out) | exact HB.out)⟩
               (try clear BK871)
               (try clear BK872)
               (try clear BK873)
               (try clear BK897)
               (try clear HB)
               generalize ((w102.setCell ⟨gb897, 2, none⟩ (.int .i64 t898)).setCell ⟨gb897, 3, none⟩ (.bool t899)) = w104 at n0_ n1_ n2_ n3_ n4_ ⊢
               have BK871 := n0_
               have BK872 := n1_
               have BK873 := n2_
               have BK897 := n3_
               have HB := n4_
               clear n0_ n1_ n2_ n3_ n4_
               have n0_ := A0_ (blk_drew BK871.out)
               have n1_ := A0_ (blk_drew BK872.out)
               have n2_ := A0_ (blk_drew BK873.out)
               have n3_ := A0_ (blk_drew BK897.out)
               have n4_ := A0_ (below_drew1 HB.out)
               clear BK871
               clear BK872
               clear BK873
               clear BK897
               clear HB
               have BK871 := n0_
               have BK872 := n1_
               have BK873 := n2_
               have BK897 := n3_
               have HB := n4_
               clear n0_ n1_ n2_ n3_ n4_
               refine start_ (n := 9) (S := fun w' => w'.cell? ⟨gb871, 0, none⟩ = some (.int .u64 a2_0) ∧ w'.cell? ⟨gb871, 1, none⟩ = some (.int .u64 a2_1) ∧ w'.cell? ⟨gb897, 0, none⟩ = some (.int .i64 x898000_45) ∧ w'.cell? ⟨gb897, 1, none⟩ = some (.bool t894) ∧ w'.cell? ⟨gb897, 2, none⟩ = some (.int .i64 t898) ∧ w'.cell? ⟨gb897, 3, none⟩ = some (.bool t899)) (ds := []) #[false, false, false, false, false, false, false, false, false] (by kernel_rfl) rfl rfl ⟨(blk_cell BK871.out 0).trans rfl, (blk_cell BK871.out 1).trans rfl, (blk_cell BK897.out 0).trans rfl, (blk_cell BK897.out 1).trans rfl, (blk_cell BK897.out 2).trans rfl, (blk_cell BK897.out 3).trans rfl⟩ (fun hHeld => ?_); refine with_tabW special_Div.tab18 special_Div.bits18 (fun HT_ HW_ => ?_)
               generalize w104.drew = w105 at BK871 BK872 BK873 BK897 HB hHeld ⊢
               refine pure_ (i := 0) (N := some 83) (v := ?_) (a' := ?_) #[true, false, false, false, false, false, false, false, false] rfl rfl (any_of HT_.out (by kernel_rfl)) (fun _ _ _ h => h) (Or.inl ⟨by rfl, ?_⟩) ?_ ?_
               rotate_left
               ·intro w'
                go_simp
                with_reducible rfl
               rotate_left
               ·simp only [Act.put, List.setIfInBounds_toArray, List.set_cons_zero, List.set_cons_succ, i64_w, i32_w]
                rfl
               refine pure_ (i := 2) (N := some 85) (v := ?_) (a' := ?_) #[true, false, true, false, false, false, false, false, false] rfl rfl (any_of HT_.out (by kernel_rfl)) (fun _ _ _ h => h) (Or.inl ⟨by rfl, ?_⟩) ?_ ?_
               rotate_left
               ·intro w'
                go_simp
                with_reducible rfl
               rotate_left
               ·simp only [Act.put, List.setIfInBounds_toArray, List.set_cons_zero, List.set_cons_succ, i64_w, i32_w]
                rfl
               refine pure_ (i := 5) (N := some 88) (v := ?_) (a' := ?_) #[true, false, true, false, false, true, false, false, false] rfl rfl (any_of HT_.out (by kernel_rfl)) (fun _ _ _ h => h) (Or.inl ⟨by rfl, ?_⟩) ?_ ?_
               rotate_left
               ·intro w'
                go_simp
                with_reducible rfl
               rotate_left
               ·simp only [Act.put, List.setIfInBounds_toArray, List.set_cons_zero, List.set_cons_succ, i64_w, i32_w]
                rfl
               refine take_ (i := 1) (N := some 84) (v := ?_) (a' := ?_) #[true, true, true, false, false, true, false, false, false] rfl rfl (take_ofW HT_.out HW_.out (by kernel_rfl)) (fun _ _ _ h => h) (Or.inl ⟨by rfl, ?_⟩) hHeld ?_ ?_
               rotate_left
               ·rintro w' ⟨s0, s1, s2, s3, s4, s5⟩
                go_simp
                with_reducible rfl
               rotate_left
               ·simp only [Act.put, List.setIfInBounds_toArray, List.set_cons_zero, List.set_cons_succ, i64_w, i32_w]
                rfl
               refine take_ (i := 4) (N := some 87) (v := ?_) (a' := ?_) #[true, true, true, false, true, true, false, false, false] rfl rfl (take_ofW HT_.out HW_.out (by kernel_rfl)) (fun _ _ _ h => h) (Or.inl ⟨by rfl, ?_⟩) hHeld ?_ ?_
               rotate_left
               ·rintro w' ⟨s0, s1, s2, s3, s4, s5⟩
                go_simp
                with_reducible rfl
               rotate_left
               ·simp only [Act.put, List.setIfInBounds_toArray, List.set_cons_zero, List.set_cons_succ, i64_w, i32_w]
                rfl
               refine join_ (σ := Nat) 1 #[true, true, true, true, true, true, true, true, false] (fun s_ => [(86, .agg #[.int .i64 t900, .bool t901, .int .i64 t902, .bool t903]), (89, .agg #[.int .i64 t904, .bool t905, .int .i64 t906, .bool t907]), (18, .pointer (some ⟨s_, 0, none⟩))]) (fun s_ w' => (w'.cell? ⟨gb871, 0, none⟩ = some (.int .u64 a2_0) ∧ w'.cell? ⟨gb871, 1, none⟩ = some (.int .u64 a2_1) ∧ w'.cell? ⟨gb897, 0, none⟩ = some (.int .i64 x898000_45) ∧ w'.cell? ⟨gb897, 1, none⟩ = some (.bool t894) ∧ w'.cell? ⟨gb897, 2, none⟩ = some (.int .i64 t898) ∧ w'.cell? ⟨gb897, 3, none⟩ = some (.bool t899)) ∧ (w'.heap[gb871]? = some (.cells #[.int .u64 a2_0, .int .u64 a2_1] 26 (0, 0))) ∧ (w'.heap[gb872]? = some (.cells #[.int .u64 a3_0, .int .u64 a3_1] 26 (0, 0))) ∧ (w'.heap[gb873]? = some (.cells #[.int .u64 0, .int .u64 0, .int .u8 0, .int .u8 0] 29 (0, 0))) ∧ (w'.heap[gb897]? = some (.cells #[.int .i64 x898000_45, .bool t894, .int .i64 t898, .bool t899] 54 (0, 0))) ∧ (w'.heap[s_]? = some (.cells #[.int .i64 0, .bool false, .int .i64 0, .bool false] 54 (0, 0))) ∧ (w.heap.size ≤ s_) ∧ (w.heap.size ≤ s_) ∧ (gb871 ≠ s_) ∧ (s_ ≠ gb871) ∧ (gb872 ≠ s_) ∧ (s_ ≠ gb872) ∧ (gb873 ≠ s_) ∧ (s_ ≠ gb873) ∧ (gb897 ≠ s_) ∧ (s_ ≠ gb897) ∧ (Below w.heap.size w w')) ?_ ?_
               rotate_left
               ·intro hCont
                refine two_ (i := 3) (j := 7) (Ni := some 86) (Nj := some 18) #[true, true, true, true, true, true, false, false, false] #[true, true, true, false, true, true, false, true, false] rfl rfl rfl rfl (two_of HT_.out (by kernel_rfl)) (by decide) (by decide) (fun K hK => ?_) (fun K hK => ?_)
                ·skip
                 refine goes_ Try.func19 (by kernel_rfl) rfl #[.int .u8 a0, .agg #[.int .u64 a2_0, .int .u64 a2_1], .int .u8 (rd t877 0)] (by rfl) rfl rfl (by (try simp only [List.map_toArray, List.map_cons, List.map_nil]); first | done | rfl | (simp only [List.length_drop, List.length_take]; rfl)) ?_
                 with_reducible refine (special_boxOf.calls kj45 a0 a2_0 a2_1 (rd t877 0) t900 t901 t902 t903 _ A67.out).mono ?_
                 rintro e w106 ⟨rfl, hb⟩
                 refine ⟨_, rfl, ?_⟩
                 have n0_ := A0_ (blk_below (bm_ BK871.out) hb)
                 have n1_ := A0_ (blk_below (bm_ BK872.out) hb)
                 have n2_ := A0_ (blk_below (bm_ BK873.out) hb)
                 have n3_ := A0_ (blk_below (bm_ BK897.out) hb)
                 have n4_ := A0_ (below_step (by repeat (first | (with_reducible first | exact qm_ HB.out | apply qA_ | apply qN_ | apply qD_ | refine below_set ?_ GE871.out | refine below_set ?_ GE872.out | refine below_set ?_ GE873.out | refine below_set ?_ GE897.out) | exact HB.out)) hb)
                 clear BK871
                 clear BK872
                 clear BK873
                 clear BK897
                 clear HB
                 have BK871 := n0_
                 have BK872 := n1_
                 have BK873 := n2_
                 have BK897 := n3_
                 have HB := n4_
                 clear n0_ n1_ n2_ n3_ n4_
                 (try clear hb)
                 (try clear hb2)
                 (try clear hk)
                 (try clear hi)
                 refine hK.out _ _ ⟨(blk_cell BK871.out 0).trans rfl, (blk_cell BK871.out 1).trans rfl, (blk_cell BK897.out 0).trans rfl, (blk_cell BK897.out 1).trans rfl, (blk_cell BK897.out 2).trans rfl, (blk_cell BK897.out 3).trans rfl⟩ (fun hHeld => ?_)
                 clear hK K
                 refine norm_ (a' := ?_) ?_ ?_
                 rotate_left
                 ·show Act.put _ (some 86) _ = _
                  simp only [Act.put, List.setIfInBounds_toArray, List.set_cons_zero, List.set_cons_succ, i64_w, i32_w]
                  rfl
                 refine two_ (i := 6) (j := 7) (Ni := some 89) (Nj := some 18) #[true, true, true, true, true, true, true, false, false] #[true, true, true, true, true, true, false, true, false] rfl rfl rfl rfl (two_of HT_.out (by kernel_rfl)) (by decide) (by decide) (fun K hK => ?_) (fun K hK => ?_)
                 ·skip
                  refine goes_ Try.func20 (by kernel_rfl) rfl #[.agg #[.int .i64 t900, .bool t901, .int .i64 t902, .bool t903], .agg #[.int .i64 x898000_45, .bool t894, .int .i64 t898, .bool t899], .int .u8 a1] (by rfl) rfl rfl (by (try simp only [List.map_toArray, List.map_cons, List.map_nil]); first | done | rfl | (simp only [List.length_drop, List.length_take]; rfl)) ?_
                  with_reducible refine (special_box_times.calls t900 t901 t902 t903 x898000_45 t894 t898 t899 a1 t904 t905 t906 t907 _ A68.out).mono ?_
                  rintro e w107 ⟨rfl, hb⟩
                  refine ⟨_, rfl, ?_⟩
                  have n0_ := A0_ (blk_below (bm_ BK871.out) hb)
                  have n1_ := A0_ (blk_below (bm_ BK872.out) hb)
                  have n2_ := A0_ (blk_below (bm_ BK873.out) hb)
                  have n3_ := A0_ (blk_below (bm_ BK897.out) hb)
                  have n4_ := A0_ (below_step (by repeat (first | (with_reducible first | exact qm_ HB.out | apply qA_ | apply qN_ | apply qD_ | refine below_set ?_ GE871.out | refine below_set ?_ GE872.out | refine below_set ?_ GE873.out | refine below_set ?_ GE897.out) | exact HB.out)) hb)
                  clear BK871
                  clear BK872
                  clear BK873
                  clear BK897
                  clear HB
                  have BK871 := n0_
                  have BK872 := n1_
                  have BK873 := n2_
                  have BK897 := n3_
                  have HB := n4_
                  clear n0_ n1_ n2_ n3_ n4_
                  (try clear hb)
                  (try clear hb2)
                  (try clear hk)
                  (try clear hi)
                  refine hK.out _ _ ⟨(blk_cell BK871.out 0).trans rfl, (blk_cell BK871.out 1).trans rfl, (blk_cell BK897.out 0).trans rfl, (blk_cell BK897.out 1).trans rfl, (blk_cell BK897.out 2).trans rfl, (blk_cell BK897.out 3).trans rfl⟩ (fun hHeld => ?_)
                  clear hK K
                  refine norm_ (a' := ?_) ?_ ?_
                  rotate_left
                  ·show Act.put _ (some 89) _ = _
                   simp only [Act.put, List.setIfInBounds_toArray, List.set_cons_zero, List.set_cons_succ, i64_w, i32_w]
                   rfl
                  refine one_ (i := 7) (N := some 18) #[true, true, true, true, true, true, true, true, false] rfl rfl (one_of HT_.out (by kernel_rfl)) (by decide) (fun K hK => ?_)
                  refine box_step ?hg (N := 18) ?hd (cs := #[.int .i64 0, .bool false, .int .i64 0, .bool false]) (t := 54) ?hr ?_; (case hd => rfl); (case hg => rfl); (case hr => first | (go_simp; done) | (go_simp; rfl))
                  intro gb908 hg w108 hbox hb
                  have n0_ := A0_ (blk_below (bm_ BK871.out) hb)
                  have n1_ := A0_ (blk_below (bm_ BK872.out) hb)
                  have n2_ := A0_ (blk_below (bm_ BK873.out) hb)
                  have n3_ := A0_ (blk_below (bm_ BK897.out) hb)
                  have n4_ := A0_ (below_step (by repeat (first | (with_reducible first | exact qm_ HB.out | apply qA_ | apply qN_ | apply qD_ | refine below_set ?_ GE871.out | refine below_set ?_ GE872.out | refine below_set ?_ GE873.out | refine below_set ?_ GE897.out) | exact HB.out)) hb)
                  have n5_ := A0_ (hbox)
                  have n6_ := A0_ ((by rw [hg]; exact (below_size (by repeat (first | (with_reducible first | exact qm_ HB.out | apply qA_ | apply qN_ | apply qD_ | refine below_set ?_ GE871.out | refine below_set ?_ GE872.out | refine below_set ?_ GE873.out | refine below_set ?_ GE897.out) | exact HB.out))) : w.heap.size ≤ gb908))
                  have n7_ := A0_ ((by rw [hg]; exact (below_size (by repeat (first | (with_reducible first | exact qm_ HB.out | apply qA_ | apply qN_ | apply qD_ | refine below_set ?_ GE871.out | refine below_set ?_ GE872.out | refine below_set ?_ GE873.out | refine below_set ?_ GE897.out) | exact HB.out))) : w.heap.size ≤ gb908))
                  have n8_ := A0_ ((by rw [hg]; exact Nat.ne_of_lt (blk_lt (bm_ BK871.out)) : gb871 ≠ gb908))
                  have n9_ := A0_ ((by rw [hg]; exact Nat.ne_of_gt (blk_lt (bm_ BK871.out)) : gb908 ≠ gb871))
                  have n10_ := A0_ ((by rw [hg]; exact Nat.ne_of_lt (blk_lt (bm_ BK872.out)) : gb872 ≠ gb908))
                  have n11_ := A0_ ((by rw [hg]; exact Nat.ne_of_gt (blk_lt (bm_ BK872.out)) : gb908 ≠ gb872))
                  have n12_ := A0_ ((by rw [hg]; exact Nat.ne_of_lt (blk_lt (bm_ BK873.out)) : gb873 ≠ gb908))
                  have n13_ := A0_ ((by rw [hg]; exact Nat.ne_of_gt (blk_lt (bm_ BK873.out)) : gb908 ≠ gb873))
                  have n14_ := A0_ ((by rw [hg]; exact Nat.ne_of_lt (blk_lt (bm_ BK897.out)) : gb897 ≠ gb908))
                  have n15_ := A0_ ((by rw [hg]; exact Nat.ne_of_gt (blk_lt (bm_ BK897.out)) : gb908 ≠ gb897))
                  clear BK871
                  clear BK872
                  clear BK873
                  clear BK897
                  clear HB
                  have BK871 := n0_
                  have BK872 := n1_
                  have BK873 := n2_
                  have BK897 := n3_
                  have HB := n4_
                  have BK908 := n5_
                  have GW908 := n6_
                  have GE908 := n7_
                  have NB871_908 := n8_
                  have NB908_871 := n9_
                  have NB872_908 := n10_
                  have NB908_872 := n11_
                  have NB873_908 := n12_
                  have NB908_873 := n13_
                  have NB897_908 := n14_
                  have NB908_897 := n15_
                  clear n0_ n1_ n2_ n3_ n4_ n5_ n6_ n7_ n8_ n9_ n10_ n11_ n12_ n13_ n14_ n15_
                  clear hb hbox hg
                  refine hK.out _ _ ⟨(blk_cell BK871.out 0).trans rfl, (blk_cell BK871.out 1).trans rfl, (blk_cell BK897.out 0).trans rfl, (blk_cell BK897.out 1).trans rfl, (blk_cell BK897.out 2).trans rfl, (blk_cell BK897.out 3).trans rfl⟩ (fun hHeld => ?_)
                  clear hK K
                  refine norm_ (a' := ?_) ?_ ?_
                  rotate_left
                  ·show Act.put _ (some 18) _ = _
                   simp only [Act.put, List.setIfInBounds_toArray, List.set_cons_zero, List.set_cons_succ, i64_w, i32_w]
                   rfl
                  exact norm_ (by simp only [putAll, Act.put, List.setIfInBounds_toArray, List.set_cons_zero, List.set_cons_succ]) (hCont (gb908) _ ⟨hHeld, (bm_ BK871.out), (bm_ BK872.out), (bm_ BK873.out), (bm_ BK897.out), (bm_ BK908.out), GW908.out, GE908.out, NB871_908.out, NB908_871.out, NB872_908.out, NB908_872.out, NB873_908.out, NB908_873.out, NB897_908.out, NB908_897.out, (by repeat (first | (with_reducible first | exact qm_ HB.out | apply qA_ | apply qN_ | apply qD_ | refine below_set ?_ GE871.out | refine below_set ?_ GE872.out | refine below_set ?_ GE873.out | refine below_set ?_ GE897.out | refine below_set ?_ GE908.out) | exact HB.out))⟩)
                 ·skip
                  refine box_step ?hg (N := 18) ?hd (cs := #[.int .i64 0, .bool false, .int .i64 0, .bool false]) (t := 54) ?hr ?_; (case hd => rfl); (case hg => rfl); (case hr => first | (go_simp; done) | (go_simp; rfl))
                  intro gb908 hg w107 hbox hb
                  have n0_ := A0_ (blk_below (bm_ BK871.out) hb)
                  have n1_ := A0_ (blk_below (bm_ BK872.out) hb)
                  have n2_ := A0_ (blk_below (bm_ BK873.out) hb)
                  have n3_ := A0_ (blk_below (bm_ BK897.out) hb)
                  have n4_ := A0_ (below_step (by repeat (first | (with_reducible first | exact qm_ HB.out | apply qA_ | apply qN_ | apply qD_ | refine below_set ?_ GE871.out | refine below_set ?_ GE872.out | refine below_set ?_ GE873.out | refine below_set ?_ GE897.out) | exact HB.out)) hb)
                  have n5_ := A0_ (hbox)
                  have n6_ := A0_ ((by rw [hg]; exact (below_size (by repeat (first | (with_reducible first | exact qm_ HB.out | apply qA_ | apply qN_ | apply qD_ | refine below_set ?_ GE871.out | refine below_set ?_ GE872.out | refine below_set ?_ GE873.out | refine below_set ?_ GE897.out) | exact HB.out))) : w.heap.size ≤ gb908))
                  have n7_ := A0_ ((by rw [hg]; exact (below_size (by repeat (first | (with_reducible first | exact qm_ HB.out | apply qA_ | apply qN_ | apply qD_ | refine below_set ?_ GE871.out | refine below_set ?_ GE872.out | refine below_set ?_ GE873.out | refine below_set ?_ GE897.out) | exact HB.out))) : w.heap.size ≤ gb908))
                  have n8_ := A0_ ((by rw [hg]; exact Nat.ne_of_lt (blk_lt (bm_ BK871.out)) : gb871 ≠ gb908))
                  have n9_ := A0_ ((by rw [hg]; exact Nat.ne_of_gt (blk_lt (bm_ BK871.out)) : gb908 ≠ gb871))
                  have n10_ := A0_ ((by rw [hg]; exact Nat.ne_of_lt (blk_lt (bm_ BK872.out)) : gb872 ≠ gb908))
                  have n11_ := A0_ ((by rw [hg]; exact Nat.ne_of_gt (blk_lt (bm_ BK872.out)) : gb908 ≠ gb872))
                  have n12_ := A0_ ((by rw [hg]; exact Nat.ne_of_lt (blk_lt (bm_ BK873.out)) : gb873 ≠ gb908))
                  have n13_ := A0_ ((by rw [hg]; exact Nat.ne_of_gt (blk_lt (bm_ BK873.out)) : gb908 ≠ gb873))
                  have n14_ := A0_ ((by rw [hg]; exact Nat.ne_of_lt (blk_lt (bm_ BK897.out)) : gb897 ≠ gb908))
                  have n15_ := A0_ ((by rw [hg]; exact Nat.ne_of_gt (blk_lt (bm_ BK897.out)) : gb908 ≠ gb897))
                  clear BK871
                  clear BK872
                  clear BK873
                  clear BK897
                  clear HB
                  have BK871 := n0_
                  have BK872 := n1_
                  have BK873 := n2_
                  have BK897 := n3_
                  have HB := n4_
                  have BK908 := n5_
                  have GW908 := n6_
                  have GE908 := n7_
                  have NB871_908 := n8_
                  have NB908_871 := n9_
                  have NB872_908 := n10_
                  have NB908_872 := n11_
                  have NB873_908 := n12_
                  have NB908_873 := n13_
                  have NB897_908 := n14_
                  have NB908_897 := n15_
                  clear n0_ n1_ n2_ n3_ n4_ n5_ n6_ n7_ n8_ n9_ n10_ n11_ n12_ n13_ n14_ n15_
                  clear hb hbox hg
                  refine hK.out _ _ ⟨(blk_cell BK871.out 0).trans rfl, (blk_cell BK871.out 1).trans rfl, (blk_cell BK897.out 0).trans rfl, (blk_cell BK897.out 1).trans rfl, (blk_cell BK897.out 2).trans rfl, (blk_cell BK897.out 3).trans rfl⟩ (fun hHeld => ?_)
                  clear hK K
                  refine norm_ (a' := ?_) ?_ ?_
                  rotate_left
                  ·show Act.put _ (some 18) _ = _
                   simp only [Act.put, List.setIfInBounds_toArray, List.set_cons_zero, List.set_cons_succ, i64_w, i32_w]
                   rfl
                  refine one_ (i := 6) (N := some 89) #[true, true, true, true, true, true, true, true, false] rfl rfl (one_of HT_.out (by kernel_rfl)) (by decide) (fun K hK => ?_)
                  refine goes_ Try.func20 (by kernel_rfl) rfl #[.agg #[.int .i64 t900, .bool t901, .int .i64 t902, .bool t903], .agg #[.int .i64 x898000_45, .bool t894, .int .i64 t898, .bool t899], .int .u8 a1] (by rfl) rfl rfl (by (try simp only [List.map_toArray, List.map_cons, List.map_nil]); first | done | rfl | (simp only [List.length_drop, List.length_take]; rfl)) ?_
                  with_reducible refine (special_box_times.calls t900 t901 t902 t903 x898000_45 t894 t898 t899 a1 t904 t905 t906 t907 _ A68.out).mono ?_
                  rintro e w108 ⟨rfl, hb⟩
                  refine ⟨_, rfl, ?_⟩
                  have n0_ := A0_ (blk_below (bm_ BK871.out) hb)
                  have n1_ := A0_ (blk_below (bm_ BK872.out) hb)
                  have n2_ := A0_ (blk_below (bm_ BK873.out) hb)
                  have n3_ := A0_ (blk_below (bm_ BK897.out) hb)
                  have n4_ := A0_ (blk_below (bm_ BK908.out) hb)
                  have n5_ := A0_ (below_step (by repeat (first | (with_reducible first | exact qm_ HB.out | apply qA_ | apply qN_ | apply qD_ | refine below_set ?_ GE871.out | refine below_set ?_ GE872.out | refine below_set ?_ GE873.out | refine below_set ?_ GE897.out | refine below_set ?_ GE908.out) | exact HB.out)) hb)
                  clear BK871
                  clear BK872
                  clear BK873
                  clear BK897
                  clear BK908
                  clear HB
                  have BK871 := n0_
                  have BK872 := n1_
                  have BK873 := n2_
                  have BK897 := n3_
                  have BK908 := n4_
                  have HB := n5_
                  clear n0_ n1_ n2_ n3_ n4_ n5_
                  (try clear hb)
                  (try clear hb2)
                  (try clear hk)
                  (try clear hi)
                  refine hK.out _ _ ⟨(blk_cell BK871.out 0).trans rfl, (blk_cell BK871.out 1).trans rfl, (blk_cell BK897.out 0).trans rfl, (blk_cell BK897.out 1).trans rfl, (blk_cell BK897.out 2).trans rfl, (blk_cell BK897.out 3).trans rfl⟩ (fun hHeld => ?_)
                  clear hK K
                  refine norm_ (a' := ?_) ?_ ?_
                  rotate_left
                  ·show Act.put _ (some 89) _ = _
                   simp only [Act.put, List.setIfInBounds_toArray, List.set_cons_zero, List.set_cons_succ, i64_w, i32_w]
                   rfl
                  exact norm_ (by simp only [putAll, Act.put, List.setIfInBounds_toArray, List.set_cons_zero, List.set_cons_succ]) (hCont (gb908) _ ⟨hHeld, (bm_ BK871.out), (bm_ BK872.out), (bm_ BK873.out), (bm_ BK897.out), (bm_ BK908.out), GW908.out, GE908.out, NB871_908.out, NB908_871.out, NB872_908.out, NB908_872.out, NB873_908.out, NB908_873.out, NB897_908.out, NB908_897.out, (by repeat (first | (with_reducible first | exact qm_ HB.out | apply qA_ | apply qN_ | apply qD_ | refine below_set ?_ GE871.out | refine below_set ?_ GE872.out | refine below_set ?_ GE873.out | refine below_set ?_ GE897.out | refine below_set ?_ GE908.out) | exact HB.out))⟩)
                ·skip
                 refine box_step ?hg (N := 18) ?hd (cs := #[.int .i64 0, .bool false, .int .i64 0, .bool false]) (t := 54) ?hr ?_; (case hd => rfl); (case hg => rfl); (case hr => first | (go_simp; done) | (go_simp; rfl))
                 intro gb908 hg w106 hbox hb
                 have n0_ := A0_ (blk_below (bm_ BK871.out) hb)
                 have n1_ := A0_ (blk_below (bm_ BK872.out) hb)
                 have n2_ := A0_ (blk_below (bm_ BK873.out) hb)
                 have n3_ := A0_ (blk_below (bm_ BK897.out) hb)
                 have n4_ := A0_ (below_step (by repeat (first | (with_reducible first | exact qm_ HB.out | apply qA_ | apply qN_ | apply qD_ | refine below_set ?_ GE871.out | refine below_set ?_ GE872.out | refine below_set ?_ GE873.out | refine below_set ?_ GE897.out) | exact HB.out)) hb)
                 have n5_ := A0_ (hbox)
                 have n6_ := A0_ ((by rw [hg]; exact (below_size (by repeat (first | (with_reducible first | exact qm_ HB.out | apply qA_ | apply qN_ | apply qD_ | refine below_set ?_ GE871.out | refine below_set ?_ GE872.out | refine below_set ?_ GE873.out | refine below_set ?_ GE897.out) | exact HB.out))) : w.heap.size ≤ gb908))
                 have n7_ := A0_ ((by rw [hg]; exact (below_size (by repeat (first | (with_reducible first | exact qm_ HB.out | apply qA_ | apply qN_ | apply qD_ | refine below_set ?_ GE871.out | refine below_set ?_ GE872.out | refine below_set ?_ GE873.out | refine below_set ?_ GE897.out) | exact HB.out))) : w.heap.size ≤ gb908))
                 have n8_ := A0_ ((by rw [hg]; exact Nat.ne_of_lt (blk_lt (bm_ BK871.out)) : gb871 ≠ gb908))
                 have n9_ := A0_ ((by rw [hg]; exact Nat.ne_of_gt (blk_lt (bm_ BK871.out)) : gb908 ≠ gb871))
                 have n10_ := A0_ ((by rw [hg]; exact Nat.ne_of_lt (blk_lt (bm_ BK872.out)) : gb872 ≠ gb908))
                 have n11_ := A0_ ((by rw [hg]; exact Nat.ne_of_gt (blk_lt (bm_ BK872.out)) : gb908 ≠ gb872))
                 have n12_ := A0_ ((by rw [hg]; exact Nat.ne_of_lt (blk_lt (bm_ BK873.out)) : gb873 ≠ gb908))
                 have n13_ := A0_ ((by rw [hg]; exact Nat.ne_of_gt (blk_lt (bm_ BK873.out)) : gb908 ≠ gb873))
                 have n14_ := A0_ ((by rw [hg]; exact Nat.ne_of_lt (blk_lt (bm_ BK897.out)) : gb897 ≠ gb908))
                 have n15_ := A0_ ((by rw [hg]; exact Nat.ne_of_gt (blk_lt (bm_ BK897.out)) : gb908 ≠ gb897))
                 clear BK871
                 clear BK872
                 clear BK873
                 clear BK897
                 clear HB
                 have BK871 := n0_
                 have BK872 := n1_
                 have BK873 := n2_
                 have BK897 := n3_
                 have HB := n4_
                 have BK908 := n5_
                 have GW908 := n6_
                 have GE908 := n7_
                 have NB871_908 := n8_
                 have NB908_871 := n9_
                 have NB872_908 := n10_
                 have NB908_872 := n11_
                 have NB873_908 := n12_
                 have NB908_873 := n13_
                 have NB897_908 := n14_
                 have NB908_897 := n15_
                 clear n0_ n1_ n2_ n3_ n4_ n5_ n6_ n7_ n8_ n9_ n10_ n11_ n12_ n13_ n14_ n15_
                 clear hb hbox hg
                 refine hK.out _ _ ⟨(blk_cell BK871.out 0).trans rfl, (blk_cell BK871.out 1).trans rfl, (blk_cell BK897.out 0).trans rfl, (blk_cell BK897.out 1).trans rfl, (blk_cell BK897.out 2).trans rfl, (blk_cell BK897.out 3).trans rfl⟩ (fun hHeld => ?_)
                 clear hK K
                 refine norm_ (a' := ?_) ?_ ?_
                 rotate_left
                 ·show Act.put _ (some 18) _ = _
                  simp only [Act.put, List.setIfInBounds_toArray, List.set_cons_zero, List.set_cons_succ, i64_w, i32_w]
                  rfl
                 refine one_ (i := 3) (N := some 86) #[true, true, true, true, true, true, false, true, false] rfl rfl (one_of HT_.out (by kernel_rfl)) (by decide) (fun K hK => ?_)
                 refine goes_ Try.func19 (by kernel_rfl) rfl #[.int .u8 a0, .agg #[.int .u64 a2_0, .int .u64 a2_1], .int .u8 (rd t877 0)] (by rfl) rfl rfl (by (try simp only [List.map_toArray, List.map_cons, List.map_nil]); first | done | rfl | (simp only [List.length_drop, List.length_take]; rfl)) ?_
                 with_reducible refine (special_boxOf.calls kj45 a0 a2_0 a2_1 (rd t877 0) t900 t901 t902 t903 _ A67.out).mono ?_
                 rintro e w107 ⟨rfl, hb⟩
                 refine ⟨_, rfl, ?_⟩
                 have n0_ := A0_ (blk_below (bm_ BK871.out) hb)
                 have n1_ := A0_ (blk_below (bm_ BK872.out) hb)
                 have n2_ := A0_ (blk_below (bm_ BK873.out) hb)
                 have n3_ := A0_ (blk_below (bm_ BK897.out) hb)
                 have n4_ := A0_ (blk_below (bm_ BK908.out) hb)
                 have n5_ := A0_ (below_step (by repeat (first | (with_reducible first | exact qm_ HB.out | apply qA_ | apply qN_ | apply qD_ | refine below_set ?_ GE871.out | refine below_set ?_ GE872.out | refine below_set ?_ GE873.out | refine below_set ?_ GE897.out | refine below_set ?_ GE908.out) | exact HB.out)) hb)
                 clear BK871
                 clear BK872
                 clear BK873
                 clear BK897
                 clear BK908
                 clear HB
                 have BK871 := n0_
                 have BK872 := n1_
                 have BK873 := n2_
                 have BK897 := n3_
                 have BK908 := n4_
                 have HB := n5_
                 clear n0_ n1_ n2_ n3_ n4_ n5_
                 (try clear hb)
                 (try clear hb2)
                 (try clear hk)
                 (try clear hi)
                 refine hK.out _ _ ⟨(blk_cell BK871.out 0).trans rfl, (blk_cell BK871.out 1).trans rfl, (blk_cell BK897.out 0).trans rfl, (blk_cell BK897.out 1).trans rfl, (blk_cell BK897.out 2).trans rfl, (blk_cell BK897.out 3).trans rfl⟩ (fun hHeld => ?_)
                 clear hK K
                 refine norm_ (a' := ?_) ?_ ?_
                 rotate_left
                 ·show Act.put _ (some 86) _ = _
                  simp only [Act.put, List.setIfInBounds_toArray, List.set_cons_zero, List.set_cons_succ, i64_w, i32_w]
                  rfl
                 refine one_ (i := 6) (N := some 89) #[true, true, true, true, true, true, true, true, false] rfl rfl (one_of HT_.out (by kernel_rfl)) (by decide) (fun K hK => ?_)
                 refine goes_ Try.func20 (by kernel_rfl) rfl #[.agg #[.int .i64 t900, .bool t901, .int .i64 t902, .bool t903], .agg #[.int .i64 x898000_45, .bool t894, .int .i64 t898, .bool t899], .int .u8 a1] (by rfl) rfl rfl (by (try simp only [List.map_toArray, List.map_cons, List.map_nil]); first | done | rfl | (simp only [List.length_drop, List.length_take]; rfl)) ?_
                 with_reducible refine (special_box_times.calls t900 t901 t902 t903 x898000_45 t894 t898 t899 a1 t904 t905 t906 t907 _ A68.out).mono ?_
                 rintro e w108 ⟨rfl, hb⟩
                 refine ⟨_, rfl, ?_⟩
                 have n0_ := A0_ (blk_below (bm_ BK871.out) hb)
                 have n1_ := A0_ (blk_below (bm_ BK872.out) hb)
                 have n2_ := A0_ (blk_below (bm_ BK873.out) hb)
                 have n3_ := A0_ (blk_below (bm_ BK897.out) hb)
                 have n4_ := A0_ (blk_below (bm_ BK908.out) hb)
                 have n5_ := A0_ (below_step (by repeat (first | (with_reducible first | exact qm_ HB.out | apply qA_ | apply qN_ | apply qD_ | refine below_set ?_ GE871.out | refine below_set ?_ GE872.out | refine below_set ?_ GE873.out | refine below_set ?_ GE897.out | refine below_set ?_ GE908.out) | exact HB.out)) hb)
                 clear BK871
                 clear BK872
                 clear BK873
                 clear BK897
                 clear BK908
                 clear HB
                 have BK871 := n0_
                 have BK872 := n1_
                 have BK873 := n2_
                 have BK897 := n3_
                 have BK908 := n4_
                 have HB := n5_
                 clear n0_ n1_ n2_ n3_ n4_ n5_
                 (try clear hb)
                 (try clear hb2)
                 (try clear hk)
                 (try clear hi)
                 refine hK.out _ _ ⟨(blk_cell BK871.out 0).trans rfl, (blk_cell BK871.out 1).trans rfl, (blk_cell BK897.out 0).trans rfl, (blk_cell BK897.out 1).trans rfl, (blk_cell BK897.out 2).trans rfl, (blk_cell BK897.out 3).trans rfl⟩ (fun hHeld => ?_)
                 clear hK K
                 refine norm_ (a' := ?_) ?_ ?_
                 rotate_left
                 ·show Act.put _ (some 89) _ = _
                  simp only [Act.put, List.setIfInBounds_toArray, List.set_cons_zero, List.set_cons_succ, i64_w, i32_w]
                  rfl
                 exact norm_ (by simp only [putAll, Act.put, List.setIfInBounds_toArray, List.set_cons_zero, List.set_cons_succ]) (hCont (gb908) _ ⟨hHeld, (bm_ BK871.out), (bm_ BK872.out), (bm_ BK873.out), (bm_ BK897.out), (bm_ BK908.out), GW908.out, GE908.out, NB871_908.out, NB908_871.out, NB872_908.out, NB908_872.out, NB873_908.out, NB908_873.out, NB897_908.out, NB908_897.out, (by repeat (first | (with_reducible first | exact qm_ HB.out | apply qA_ | apply qN_ | apply qD_ | refine below_set ?_ GE871.out | refine below_set ?_ GE872.out | refine below_set ?_ GE873.out | refine below_set ?_ GE897.out | refine below_set ?_ GE908.out) | exact HB.out))⟩)
               rintro gb908 w109 ⟨hS_, h0_, h1_, h2_, h3_, h4_, h5_, h6_, h7_, h8_, h9_, h10_, h11_, h12_, h13_, h14_, h15_⟩
               have n0_ : Aside0 (w109.heap[gb871]? = some (.cells #[.int .u64 a2_0, .int .u64 a2_1] 26 (0, 0))) := ⟨h0_⟩
               have n1_ : Aside0 (w109.heap[gb872]? = some (.cells #[.int .u64 a3_0, .int .u64 a3_1] 26 (0, 0))) := ⟨h1_⟩
               have n2_ : Aside0 (w109.heap[gb873]? = some (.cells #[.int .u64 0, .int .u64 0, .int .u8 0, .int .u8 0] 29 (0, 0))) := ⟨h2_⟩
               have n3_ : Aside0 (w109.heap[gb897]? = some (.cells #[.int .i64 x898000_45, .bool t894, .int .i64 t898, .bool t899] 54 (0, 0))) := ⟨h3_⟩
               have n4_ : Aside0 (w109.heap[gb908]? = some (.cells #[.int .i64 0, .bool false, .int .i64 0, .bool false] 54 (0, 0))) := ⟨h4_⟩
               have n5_ : Aside0 (w.heap.size ≤ gb908) := ⟨h5_⟩
               have n6_ : Aside0 (w.heap.size ≤ gb908) := ⟨h6_⟩
               have n7_ : Aside0 (gb871 ≠ gb908) := ⟨h7_⟩
               have n8_ : Aside0 (gb908 ≠ gb871) := ⟨h8_⟩
               have n9_ : Aside0 (gb872 ≠ gb908) := ⟨h9_⟩
               have n10_ : Aside0 (gb908 ≠ gb872) := ⟨h10_⟩
               have n11_ : Aside0 (gb873 ≠ gb908) := ⟨h11_⟩
               have n12_ : Aside0 (gb908 ≠ gb873) := ⟨h12_⟩
               have n13_ : Aside0 (gb897 ≠ gb908) := ⟨h13_⟩
               have n14_ : Aside0 (gb908 ≠ gb897) := ⟨h14_⟩
               have n15_ : Aside0 (Below w.heap.size w w109) := ⟨h15_⟩
               clear BK871
               clear BK872
               clear BK873
               clear BK897
               clear HB
               clear h0_ h1_ h2_ h3_ h4_ h5_ h6_ h7_ h8_ h9_ h10_ h11_ h12_ h13_ h14_ h15_
               have BK871 := n0_
               have BK872 := n1_
               have BK873 := n2_
               have BK897 := n3_
               have BK908 := n4_
               have GW908 := n5_
               have GE908 := n6_
               have NB871_908 := n7_
               have NB908_871 := n8_
               have NB872_908 := n9_
               have NB908_872 := n10_
               have NB873_908 := n11_
               have NB908_873 := n12_
               have NB897_908 := n13_
               have NB908_897 := n14_
               have HB := n15_
               clear n0_ n1_ n2_ n3_ n4_ n5_ n6_ n7_ n8_ n9_ n10_ n11_ n12_ n13_ n14_ n15_
               have hHeld : w109.cell? ⟨gb871, 0, none⟩ = some (.int .u64 a2_0) ∧ w109.cell? ⟨gb871, 1, none⟩ = some (.int .u64 a2_1) ∧ w109.cell? ⟨gb897, 0, none⟩ = some (.int .i64 x898000_45) ∧ w109.cell? ⟨gb897, 1, none⟩ = some (.bool t894) ∧ w109.cell? ⟨gb897, 2, none⟩ = some (.int .i64 t898) ∧ w109.cell? ⟨gb897, 3, none⟩ = some (.bool t899) := hS_
               refine norm_ (a' := ?_) ?_ ?_
               rotate_left
               ·simp only [putAll, Act.put, List.setIfInBounds_toArray, List.set_cons_zero, List.set_cons_succ]
                rfl
               refine one_ (i := 8) (N := none) #[true, true, true, true, true, true, true, true, true] rfl rfl (one_of HT_.out (by kernel_rfl)) (by decide) (fun K hK => ?_)
               have hs110 : w109.cell? ⟨gb908, 0, none⟩ = some (.int .i64 0) := (blk_cell BK908.out 0).trans rfl
               have hfs110 := blk_frozen BK908.out 0
               have hns110_0 := NB871_908.out
               have hns110_1 := NB872_908.out
               have hns110_2 := NB873_908.out
               have hns110_3 := NB897_908.out
               have hms110_0 := NB908_871.out
               have hms110_1 := NB908_872.out
               have hms110_2 := NB908_873.out
               have hms110_3 := NB908_897.out
               have hs111 : w109.cell? ⟨gb908, 1, none⟩ = some (.bool false) := (blk_cell BK908.out 1).trans rfl
               have hfs111 := blk_frozen BK908.out 1
               have hns111_0 := NB871_908.out
               have hns111_1 := NB872_908.out
               have hns111_2 := NB873_908.out
               have hns111_3 := NB897_908.out
               have hms111_0 := NB908_871.out
               have hms111_1 := NB908_872.out
               have hms111_2 := NB908_873.out
               have hms111_3 := NB908_897.out
               have hs112 : w109.cell? ⟨gb908, 2, none⟩ = some (.int .i64 0) := (blk_cell BK908.out 2).trans rfl
               have hfs112 := blk_frozen BK908.out 2
               have hns112_0 := NB871_908.out
               have hns112_1 := NB872_908.out
               have hns112_2 := NB873_908.out
               have hns112_3 := NB897_908.out
               have hms112_0 := NB908_871.out
               have hms112_1 := NB908_872.out
               have hms112_2 := NB908_873.out
               have hms112_3 := NB908_897.out
               have hs113 : w109.cell? ⟨gb908, 3, none⟩ = some (.bool false) := (blk_cell BK908.out 3).trans rfl
               have hfs113 := blk_frozen BK908.out 3
               have hns113_0 := NB871_908.out
               have hns113_1 := NB872_908.out
               have hns113_2 := NB873_908.out
               have hns113_3 := NB897_908.out
               have hms113_0 := NB908_871.out
               have hms113_1 := NB908_872.out
               have hms113_2 := NB908_873.out
               have hms113_3 := NB908_897.out
               refine skip_ (w1 := ?_) (by rfl) rfl ?_ ?_
               rotate_left
               ·go_simp
                rfl
               refine hK.out _ _ ⟨((cell_far (p := ⟨gb908, _, none⟩) NB871_908.out _).trans (((cell_far (p := ⟨gb908, _, none⟩) NB871_908.out _).trans (((cell_far (p := ⟨gb908, _, none⟩) NB871_908.out _).trans (((cell_far (p := ⟨gb908, _, none⟩) NB871_908.out _).trans (hHeld.1)))))))), ((cell_far (p := ⟨gb908, _, none⟩) NB871_908.out _).trans (((cell_far (p := ⟨gb908, _, none⟩) NB871_908.out _).trans (((cell_far (p := ⟨gb908, _, none⟩) NB871_908.out _).trans (((cell_far (p := ⟨gb908, _, none⟩) NB871_908.out _).trans (hHeld.2.1)))))))), ((cell_far (p := ⟨gb908, _, none⟩) NB897_908.out _).trans (((cell_far (p := ⟨gb908, _, none⟩) NB897_908.out _).trans (((cell_far (p := ⟨gb908, _, none⟩) NB897_908.out _).trans (((cell_far (p := ⟨gb908, _, none⟩) NB897_908.out _).trans (hHeld.2.2.1)))))))), ((cell_far (p := ⟨gb908, _, none⟩) NB897_908.out _).trans (((cell_far (p := ⟨gb908, _, none⟩) NB897_908.out _).trans (((cell_far (p := ⟨gb908, _, none⟩) NB897_908.out _).trans (((cell_far (p := ⟨gb908, _, none⟩) NB897_908.out _).trans (hHeld.2.2.2.1)))))))), ((cell_far (p := ⟨gb908, _, none⟩) NB897_908.out _).trans (((cell_far (p := ⟨gb908, _, none⟩) NB897_908.out _).trans (((cell_far (p := ⟨gb908, _, none⟩) NB897_908.out _).trans (((cell_far (p := ⟨gb908, _, none⟩) NB897_908.out _).trans (hHeld.2.2.2.2.1)))))))), ((cell_far (p := ⟨gb908, _, none⟩) NB897_908.out _).trans (((cell_far (p := ⟨gb908, _, none⟩) NB897_908.out _).trans (((cell_far (p := ⟨gb908, _, none⟩) NB897_908.out _).trans (((cell_far (p := ⟨gb908, _, none⟩) NB897_908.out _).trans (hHeld.2.2.2.2.2))))))))⟩ (fun hHeld => ?_)
               clear hK K
               refine done_ (done_of HT_.out (by kernel_rfl)) ?_
               have hnb114 := NB908_871.out
               have hnc114 := NB871_908.out
               have hnb115 := NB908_872.out
               have hnc115 := NB872_908.out
               have hnb116 := NB908_873.out
               have hnc116 := NB873_908.out
               have hnb117 := NB908_897.out
               have hnc117 := NB897_908.out
               have hcz118 := bc4_ BK908.out
               have hfz118 := bf4_ BK908.out
               try go_wp2_with (first | ((with_reducible refine gate_callee (f := 21) rfl ?_); refine goesL_ (some 103) rfl rfl Try.func21 (by kernel_rfl) rfl #[.agg #[.int .i64 t904, .bool t905, .int .i64 t906, .bool t907], .int .u8 a0, .int .u64 t883] rfl (by (try simp only [List.map_toArray, List.map_cons, List.map_nil]); first | done | rfl | (simp only [List.length_drop, List.length_take]; rfl)) ?_; (with_reducible refine (special_box_words.calls kj45 t904 t905 t906 t907 a0 t883 t911 t912 _ A97.out).mono ?_); rintro e w119 ⟨rfl, hb⟩; refine ⟨_, rfl, ?_⟩; have n0_ := A0_ (blk_below (g := gb871) (o := .cells #[.int .u64 a2_0, .int .u64 a2_1] 26 (0, 0)) (by (with_reducible repeat first | apply bN_ | apply bD_ | apply bA_); refine blk_far ?_ NB871_908.out _; (with_reducible repeat first | apply bN_ | apply bD_ | apply bA_); refine blk_far ?_ NB871_908.out _; (with_reducible repeat first | apply bN_ | apply bD_ | apply bA_); refine blk_far ?_ NB871_908.out _; (with_reducible repeat first | apply bN_ | apply bD_ | apply bA_); refine blk_far ?_ NB871_908.out _; (with_reducible repeat first | apply bN_ | apply bD_ | apply bA_); exact BK871.out) hb); have n1_ := A0_ (blk_below (g := gb872) (o := .cells #[.int .u64 a3_0, .int .u64 a3_1] 26 (0, 0)) (by (with_reducible repeat first | apply bN_ | apply bD_ | apply bA_); refine blk_far ?_ NB872_908.out _; (with_reducible repeat first | apply bN_ | apply bD_ | apply bA_); refine blk_far ?_ NB872_908.out _; (with_reducible repeat first | apply bN_ | apply bD_ | apply bA_); refine blk_far ?_ NB872_908.out _; (with_reducible repeat first | apply bN_ | apply bD_ | apply bA_); refine blk_far ?_ NB872_908.out _; (with_reducible repeat first | apply bN_ | apply bD_ | apply bA_); exact BK872.out) hb); have n2_ := A0_ (blk_below (g := gb873) (o := .cells #[.int .u64 0, .int .u64 0, .int .u8 0, .int .u8 0] 29 (0, 0)) (by (with_reducible repeat first | apply bN_ | apply bD_ | apply bA_); refine blk_far ?_ NB873_908.out _; (with_reducible repeat first | apply bN_ | apply bD_ | apply bA_); refine blk_far ?_ NB873_908.out _; (with_reducible repeat first | apply bN_ | apply bD_ | apply bA_); refine blk_far ?_ NB873_908.out _; (with_reducible repeat first | apply bN_ | apply bD_ | apply bA_); refine blk_far ?_ NB873_908.out _; (with_reducible repeat first | apply bN_ | apply bD_ | apply bA_); exact BK873.out) hb); have n3_ := A0_ (blk_below (g := gb897) (o := .cells #[.int .i64 x898000_45, .bool t894, .int .i64 t898, .bool t899] 54 (0, 0)) (by (with_reducible repeat first | apply bN_ | apply bD_ | apply bA_); refine blk_far ?_ NB897_908.out _; (with_reducible repeat first | apply bN_ | apply bD_ | apply bA_); refine blk_far ?_ NB897_908.out _; (with_reducible repeat first | apply bN_ | apply bD_ | apply bA_); refine blk_far ?_ NB897_908.out _; (with_reducible repeat first | apply bN_ | apply bD_ | apply bA_); refine blk_far ?_ NB897_908.out _; (with_reducible repeat first | apply bN_ | apply bD_ | apply bA_); exact BK897.out) hb); have n4_ := A0_ (blk_below (g := gb908) (o := .cells #[.int .i64 t904, .bool t905, .int .i64 t906, .bool t907] 54 (0, 0)) (by (with_reducible repeat first | apply bN_ | apply bD_ | apply bA_); refine blk_put (cs := #[.int .i64 t904, .bool t905, .int .i64 t906, .bool false]) ?_ 3 _ rfl; (with_reducible repeat first | apply bN_ | apply bD_ | apply bA_); refine blk_put (cs := #[.int .i64 t904, .bool t905, .int .i64 0, .bool false]) ?_ 2 _ rfl; (with_reducible repeat first | apply bN_ | apply bD_ | apply bA_); refine blk_put (cs := #[.int .i64 t904, .bool false, .int .i64 0, .bool false]) ?_ 1 _ rfl; (with_reducible repeat first | apply bN_ | apply bD_ | apply bA_); refine blk_put (cs := #[.int .i64 0, .bool false, .int .i64 0, .bool false]) ?_ 0 _ rfl; (with_reducible repeat first | apply bN_ | apply bD_ | apply bA_); exact BK908.out) hb); have n5_ := A0_ (below_step (by repeat (first | (with_reducible first | exact qm_ HB.out | apply qA_ | apply qN_ | apply qD_ | refine below_set ?_ GE871.out | refine below_set ?_ GE872.out | refine below_set ?_ GE873.out | refine below_set ?_ GE897.out | refine below_set ?_ GE908.out) | exact HB.out)) hb); clear BK871; clear BK872; clear BK873; clear BK897; clear BK908; clear HB; have BK871 := n0_; have BK872 := n1_; have BK873 := n2_; have BK897 := n3_; have BK908 := n4_; have HB := n5_; clear n0_ n1_ n2_ n3_ n4_ n5_; (try clear hb); (try clear hb2); (try clear hk); (try clear hi); have hnb120 := NB873_871.out; have hnc120 := NB871_873.out; have hnb121 := NB873_872.out; have hnc121 := NB872_873.out; have hcz122 := bc4_ BK873.out; have hfz122 := bf4_ BK873.out))
               refine bodyPost_ret (results_ctt rfl _ _ gb873 29 #[.int .u64 t911, .int .u64 t912, .int .u8 0, .int .u8 0] (0, 0) _ rfl (by (with_reducible repeat first | apply bN_ | apply bD_ | apply bA_); refine blk_put (cs := #[.int .u64 t911, .int .u64 t912, .int .u8 0, .int .u8 0]) ?_ 3 _ rfl; (with_reducible repeat first | apply bN_ | apply bD_ | apply bA_); refine blk_put (cs := #[.int .u64 t911, .int .u64 t912, .int .u8 0, .int .u8 0]) ?_ 2 _ rfl; (with_reducible repeat first | apply bN_ | apply bD_ | apply bA_); refine blk_put (cs := #[.int .u64 t911, .int .u64 0, .int .u8 0, .int .u8 0]) ?_ 1 _ rfl; (with_reducible repeat first | apply bN_ | apply bD_ | apply bA_); refine blk_put (cs := #[.int .u64 0, .int .u64 0, .int .u8 0, .int .u8 0]) ?_ 0 _ rfl; (with_reducible repeat first | apply bN_ | apply bD_ | apply bA_); exact BK873.out) Try.underlying29 rfl (by kernel_rfl)) rfl ?_
               exact ⟨by first | rfl | (simp [errW_none, errW_some] <;> rfl) | (simp [*, errW_none, errW_some] <;> rfl), by repeat (first | (with_reducible first | exact qm_ HB.out | apply qA_ | apply qN_ | apply qD_ | refine below_set ?_ GE871.out | refine below_set ?_ GE872.out | refine below_set ?_ GE873.out | refine below_set ?_ GE897.out | refine below_set ?_ GE908.out) | exact HB.out)⟩
              ·rw [if_neg c96] at H
               have c96b0 : ((rd t877 0) == 3) = false := beq_eq_false_iff_ne.mpr c96
               have c96b1 : ((rd t877 0) != 3) = true := bne_iff_ne.mpr c96
               replace H := Option.bind_eq_some_iff.mp H
               obtain ⟨⟨t913, t914⟩, A1230, H⟩ := H
               replace H : (some (t913, t914, 2, 2, true, 0)) = some (r1, r2, r3, r4, r5, r6) := H
               have A123 := A0_ A1230
               clear A1230
               simp only [Option.some.injEq, Prod.mk.injEq] at H
               obtain ⟨rfl, rfl, rfl, rfl, rfl, rfl⟩ := H
               have hnb124 := NB897_871.out
               have hnc124 := NB871_897.out
               have hnb125 := NB897_872.out
               have hnc125 := NB872_897.out
               have hnb126 := NB897_873.out
               have hnc126 := NB873_897.out
               have hcz127 := bc4_ BK897.out
               have hfz127 := bf4_ BK897.out
               try go_wp2_with (first | ((with_reducible refine gate_callee (f := 33) rfl ?_); refine goesL_ (some 81) rfl rfl Try.func33 (by kernel_rfl) rfl #[.agg #[.int .i64 t895, .bool t896]] rfl (by (try simp only [List.map_toArray, List.map_cons, List.map_nil]); first | done | rfl | (simp only [List.length_drop, List.length_take]; rfl)) ?_; (with_reducible refine (special_side_minus.calls t895 t896 t898 t899 _ A66.out).mono ?_); rintro e w128 ⟨rfl, hb⟩; refine ⟨_, rfl, ?_⟩; have n0_ := A0_ (blk_below (bm_ BK871.out) hb); have n1_ := A0_ (blk_below (bm_ BK872.out) hb); have n2_ := A0_ (blk_below (bm_ BK873.out) hb); have n3_ := A0_ (blk_below (bm_ BK897.out) hb); have n4_ := A0_ (below_step (by repeat (first | (with_reducible first | exact qm_ HB.out | apply qA_ | apply qN_ | apply qD_ | refine below_set ?_ GE871.out | refine below_set ?_ GE872.out | refine below_set ?_ GE873.out | refine below_set ?_ GE897.out) | exact HB.out)) hb); clear BK871; clear BK872; clear BK873; clear BK897; clear HB; have BK871 := n0_; have BK872 := n1_; have BK873 := n2_; have BK897 := n3_; have HB := n4_; clear n0_ n1_ n2_ n3_ n4_; (try clear hb); (try clear hb2); (try clear hk); (try clear hi); have hcz129 := bc4_ BK897.out; have hfz129 := bf4_ BK897.out))
               have n0_ : Aside0 (((w128.setCell ⟨gb897, 2, none⟩ (.int .i64 t898)).setCell ⟨gb897, 3, none⟩ (.bool t899)).heap[gb871]? = some (.cells #[.int .u64 a2_0, .int .u64 a2_1] 26 (0, 0))) := ⟨by (with_reducible repeat first | apply bN_ | apply bD_ | apply bA_); refine blk_far ?_ NB871_897.out _; (with_reducible repeat first | apply bN_ | apply bD_ | apply bA_); refine blk_far ?_ NB871_897.out _; (with_reducible repeat first | apply bN_ | apply bD_ | apply bA_); exact BK871.out⟩
               have n1_ : Aside0 (((w128.setCell ⟨gb897, 2, none⟩ (.int .i64 t898)).setCell ⟨gb897, 3, none⟩ (.bool t899)).heap[gb872]? = some (.cells #[.int .u64 a3_0, .int .u64 a3_1] 26 (0, 0))) := ⟨by (with_reducible repeat first | apply bN_ | apply bD_ | apply bA_); refine blk_far ?_ NB872_897.out _; (with_reducible repeat first | apply bN_ | apply bD_ | apply bA_); refine blk_far ?_ NB872_897.out _; (with_reducible repeat first | apply bN_ | apply bD_ | apply bA_); exact BK872.out⟩
               have n2_ : Aside0 (((w128.setCell ⟨gb897, 2, none⟩ (.int .i64 t898)).setCell ⟨gb897, 3, none⟩ (.bool t899)).heap[gb873]? = some (.cells #[.int .u64 0, .int .u64 0, .int .u8 0, .int .u8 0] 29 (0, 0))) := ⟨by (with_reducible repeat first | apply bN_ | apply bD_ | apply bA_); refine blk_far ?_ NB873_897.out _; (with_reducible repeat first | apply bN_ | apply bD_ | apply bA_); refine blk_far ?_ NB873_897.out _; (with_reducible repeat first | apply bN_ | apply bD_ | apply bA_); exact BK873.out⟩
               have n3_ : Aside0 (((w128.setCell ⟨gb897, 2, none⟩ (.int .i64 t898)).setCell ⟨gb897, 3, none⟩ (.bool t899)).heap[gb897]? = some (.cells #[.int .i64 x898000_45, .bool t894, .int .i64 t898, .bool t899] 54 (0, 0))) := ⟨by (with_reducible repeat first | apply bN_ | apply bD_ | apply bA_); refine blk_put (cs := #[.int .i64 x898000_45, .bool t894, .int .i64 t898, .bool t896]) ?_ 3 _ rfl; (with_reducible repeat first | apply bN_ | apply bD_ | apply bA_); refine blk_put (cs := #[.int .i64 x898000_45, .bool t894, .int .i64 t895, .bool t896]) ?_ 2 _ rfl; (with_reducible repeat first | apply bN_ | apply bD_ | apply bA_); exact BK897.out⟩
               have n4_ : Aside0 (Below w.heap.size w ((w128.setCell ⟨gb897, 2, none⟩ (.int .i64 t898)).setCell ⟨gb897, 3, none⟩ (.bool t899))) := ⟨by repeat (first | (with_reducible first | exact qm_ HB.out | apply qA_ | apply qN_ | apply qD_ | refine below_set ?_ GE871.out | refine below_set ?_ GE872.out | refine below_set ?_ GE873.out | refine below_set ?_ GE897.out) | exact HB.out)⟩
               (try clear BK871)
               (try clear BK872)
               (try clear BK873)
               (try clear BK897)
               (try clear HB)
               generalize ((w128.setCell ⟨gb897, 2, none⟩ (.int .i64 t898)).setCell ⟨gb897, 3, none⟩ (.bool t899)) = w130 at n0_ n1_ n2_ n3_ n4_ ⊢
               have BK871 := n0_
               have BK872 := n1_
               have BK873 := n2_
               have BK897 := n3_
               have HB := n4_
               clear n0_ n1_ n2_ n3_ n4_
               have n0_ := A0_ (blk_drew BK871.out)
               have n1_ := A0_ (blk_drew BK872.out)
               have n2_ := A0_ (blk_drew BK873.out)
               have n3_ := A0_ (blk_drew BK897.out)
               have n4_ := A0_ (below_drew1 HB.out)
               clear BK871
               clear BK872
               clear BK873
               clear BK897
               clear HB
               have BK871 := n0_
               have BK872 := n1_
               have BK873 := n2_
               have BK897 := n3_
               have HB := n4_
               clear n0_ n1_ n2_ n3_ n4_
               refine start_ (n := 9) (S := fun w' => w'.cell? ⟨gb871, 0, none⟩ = some (.int .u64 a2_0) ∧ w'.cell? ⟨gb871, 1, none⟩ = some (.int .u64 a2_1) ∧ w'.cell? ⟨gb897, 0, none⟩ = some (.int .i64 x898000_45) ∧ w'.cell? ⟨gb897, 1, none⟩ = some (.bool t894) ∧ w'.cell? ⟨gb897, 2, none⟩ = some (.int .i64 t898) ∧ w'.cell? ⟨gb897, 3, none⟩ = some (.bool t899)) (ds := []) #[false, false, false, false, false, false, false, false, false] (by kernel_rfl) rfl rfl ⟨(blk_cell BK871.out 0).trans rfl, (blk_cell BK871.out 1).trans rfl, (blk_cell BK897.out 0).trans rfl, (blk_cell BK897.out 1).trans rfl, (blk_cell BK897.out 2).trans rfl, (blk_cell BK897.out 3).trans rfl⟩ (fun hHeld => ?_); refine with_tabW special_Div.tab18 special_Div.bits18 (fun HT_ HW_ => ?_)
               generalize w130.drew = w131 at BK871 BK872 BK873 BK897 HB hHeld ⊢
               refine pure_ (i := 0) (N := some 83) (v := ?_) (a' := ?_) #[true, false, false, false, false, false, false, false, false] rfl rfl (any_of HT_.out (by kernel_rfl)) (fun _ _ _ h => h) (Or.inl ⟨by rfl, ?_⟩) ?_ ?_
               rotate_left
               ·intro w'
                go_simp
                with_reducible rfl
               rotate_left
               ·simp only [Act.put, List.setIfInBounds_toArray, List.set_cons_zero, List.set_cons_succ, i64_w, i32_w]
                rfl
               refine pure_ (i := 2) (N := some 85) (v := ?_) (a' := ?_) #[true, false, true, false, false, false, false, false, false] rfl rfl (any_of HT_.out (by kernel_rfl)) (fun _ _ _ h => h) (Or.inl ⟨by rfl, ?_⟩) ?_ ?_
               rotate_left
               ·intro w'
                go_simp
                with_reducible rfl
               rotate_left
               ·simp only [Act.put, List.setIfInBounds_toArray, List.set_cons_zero, List.set_cons_succ, i64_w, i32_w]
                rfl
               refine pure_ (i := 5) (N := some 88) (v := ?_) (a' := ?_) #[true, false, true, false, false, true, false, false, false] rfl rfl (any_of HT_.out (by kernel_rfl)) (fun _ _ _ h => h) (Or.inl ⟨by rfl, ?_⟩) ?_ ?_
               rotate_left
               ·intro w'
                go_simp
                with_reducible rfl
               rotate_left
               ·simp only [Act.put, List.setIfInBounds_toArray, List.set_cons_zero, List.set_cons_succ, i64_w, i32_w]
                rfl
               refine take_ (i := 1) (N := some 84) (v := ?_) (a' := ?_) #[true, true, true, false, false, true, false, false, false] rfl rfl (take_ofW HT_.out HW_.out (by kernel_rfl)) (fun _ _ _ h => h) (Or.inl ⟨by rfl, ?_⟩) hHeld ?_ ?_
               rotate_left
               ·rintro w' ⟨s0, s1, s2, s3, s4, s5⟩
                go_simp
                with_reducible rfl
               rotate_left
               ·simp only [Act.put, List.setIfInBounds_toArray, List.set_cons_zero, List.set_cons_succ, i64_w, i32_w]
                rfl
               refine take_ (i := 4) (N := some 87) (v := ?_) (a' := ?_) #[true, true, true, false, true, true, false, false, false] rfl rfl (take_ofW HT_.out HW_.out (by kernel_rfl)) (fun _ _ _ h => h) (Or.inl ⟨by rfl, ?_⟩) hHeld ?_ ?_
               rotate_left
               ·rintro w' ⟨s0, s1, s2, s3, s4, s5⟩
                go_simp
                with_reducible rfl
               rotate_left
               ·simp only [Act.put, List.setIfInBounds_toArray, List.set_cons_zero, List.set_cons_succ, i64_w, i32_w]
                rfl
               refine join_ (σ := Nat) 1 #[true, true, true, true, true, true, true, true, false] (fun s_ => [(86, .agg #[.int .i64 t900, .bool t901, .int .i64 t902, .bool t903]), (89, .agg #[.int .i64 t904, .bool t905, .int .i64 t906, .bool t907]), (18, .pointer (some ⟨s_, 0, none⟩))]) (fun s_ w' => (w'.cell? ⟨gb871, 0, none⟩ = some (.int .u64 a2_0) ∧ w'.cell? ⟨gb871, 1, none⟩ = some (.int .u64 a2_1) ∧ w'.cell? ⟨gb897, 0, none⟩ = some (.int .i64 x898000_45) ∧ w'.cell? ⟨gb897, 1, none⟩ = some (.bool t894) ∧ w'.cell? ⟨gb897, 2, none⟩ = some (.int .i64 t898) ∧ w'.cell? ⟨gb897, 3, none⟩ = some (.bool t899)) ∧ (w'.heap[gb871]? = some (.cells #[.int .u64 a2_0, .int .u64 a2_1] 26 (0, 0))) ∧ (w'.heap[gb872]? = some (.cells #[.int .u64 a3_0, .int .u64 a3_1] 26 (0, 0))) ∧ (w'.heap[gb873]? = some (.cells #[.int .u64 0, .int .u64 0, .int .u8 0, .int .u8 0] 29 (0, 0))) ∧ (w'.heap[gb897]? = some (.cells #[.int .i64 x898000_45, .bool t894, .int .i64 t898, .bool t899] 54 (0, 0))) ∧ (w'.heap[s_]? = some (.cells #[.int .i64 0, .bool false, .int .i64 0, .bool false] 54 (0, 0))) ∧ (w.heap.size ≤ s_) ∧ (w.heap.size ≤ s_) ∧ (gb871 ≠ s_) ∧ (s_ ≠ gb871) ∧ (gb872 ≠ s_) ∧ (s_ ≠ gb872) ∧ (gb873 ≠ s_) ∧ (s_ ≠ gb873) ∧ (gb897 ≠ s_) ∧ (s_ ≠ gb897) ∧ (Below w.heap.size w w')) ?_ ?_
               rotate_left
               ·intro hCont
                refine two_ (i := 3) (j := 7) (Ni := some 86) (Nj := some 18) #[true, true, true, true, true, true, false, false, false] #[true, true, true, false, true, true, false, true, false] rfl rfl rfl rfl (two_of HT_.out (by kernel_rfl)) (by decide) (by decide) (fun K hK => ?_) (fun K hK => ?_)
                ·skip
                 refine goes_ Try.func19 (by kernel_rfl) rfl #[.int .u8 a0, .agg #[.int .u64 a2_0, .int .u64 a2_1], .int .u8 (rd t877 0)] (by rfl) rfl rfl (by (try simp only [List.map_toArray, List.map_cons, List.map_nil]); first | done | rfl | (simp only [List.length_drop, List.length_take]; rfl)) ?_
                 with_reducible refine (special_boxOf.calls kj45 a0 a2_0 a2_1 (rd t877 0) t900 t901 t902 t903 _ A67.out).mono ?_
                 rintro e w132 ⟨rfl, hb⟩
                 refine ⟨_, rfl, ?_⟩
                 have n0_ := A0_ (blk_below (bm_ BK871.out) hb)
                 have n1_ := A0_ (blk_below (bm_ BK872.out) hb)
                 have n2_ := A0_ (blk_below (bm_ BK873.out) hb)
                 have n3_ := A0_ (blk_below (bm_ BK897.out) hb)
                 have n4_ := A0_ (below_step (by repeat (first | (with_reducible first | exact qm_ HB.out | apply qA_ | apply qN_ | apply qD_ | refine below_set ?_ GE871.out | refine below_set ?_ GE872.out | refine below_set ?_ GE873.out | refine below_set ?_ GE897.out) | exact HB.out)) hb)
                 clear BK871
                 clear BK872
                 clear BK873
                 clear BK897
                 clear HB
                 have BK871 := n0_
                 have BK872 := n1_
                 have BK873 := n2_
                 have BK897 := n3_
                 have HB := n4_
                 clear n0_ n1_ n2_ n3_ n4_
                 (try clear hb)
                 (try clear hb2)
                 (try clear hk)
                 (try clear hi)
                 refine hK.out _ _ ⟨(blk_cell BK871.out 0).trans rfl, (blk_cell BK871.out 1).trans rfl, (blk_cell BK897.out 0).trans rfl, (blk_cell BK897.out 1).trans rfl, (blk_cell BK897.out 2).trans rfl, (blk_cell BK897.out 3).trans rfl⟩ (fun hHeld => ?_)
                 clear hK K
                 refine norm_ (a' := ?_) ?_ ?_
                 rotate_left
                 ·show Act.put _ (some 86) _ = _
                  simp only [Act.put, List.setIfInBounds_toArray, List.set_cons_zero, List.set_cons_succ, i64_w, i32_w]
                  rfl
                 refine two_ (i := 6) (j := 7) (Ni := some 89) (Nj := some 18) #[true, true, true, true, true, true, true, false, false] #[true, true, true, true, true, true, false, true, false] rfl rfl rfl rfl (two_of HT_.out (by kernel_rfl)) (by decide) (by decide) (fun K hK => ?_) (fun K hK => ?_)
                 ·skip
                  refine goes_ Try.func20 (by kernel_rfl) rfl #[.agg #[.int .i64 t900, .bool t901, .int .i64 t902, .bool t903], .agg #[.int .i64 x898000_45, .bool t894, .int .i64 t898, .bool t899], .int .u8 a1] (by rfl) rfl rfl (by (try simp only [List.map_toArray, List.map_cons, List.map_nil]); first | done | rfl | (simp only [List.length_drop, List.length_take]; rfl)) ?_
                  with_reducible refine (special_box_times.calls t900 t901 t902 t903 x898000_45 t894 t898 t899 a1 t904 t905 t906 t907 _ A68.out).mono ?_
                  rintro e w133 ⟨rfl, hb⟩
                  refine ⟨_, rfl, ?_⟩
                  have n0_ := A0_ (blk_below (bm_ BK871.out) hb)
                  have n1_ := A0_ (blk_below (bm_ BK872.out) hb)
                  have n2_ := A0_ (blk_below (bm_ BK873.out) hb)
                  have n3_ := A0_ (blk_below (bm_ BK897.out) hb)
                  have n4_ := A0_ (below_step (by repeat (first | (with_reducible first | exact qm_ HB.out | apply qA_ | apply qN_ | apply qD_ | refine below_set ?_ GE871.out | refine below_set ?_ GE872.out | refine below_set ?_ GE873.out | refine below_set ?_ GE897.out) | exact HB.out)) hb)
                  clear BK871
                  clear BK872
                  clear BK873
                  clear BK897
                  clear HB
                  have BK871 := n0_
                  have BK872 := n1_
                  have BK873 := n2_
                  have BK897 := n3_
                  have HB := n4_
                  clear n0_ n1_ n2_ n3_ n4_
                  (try clear hb)
                  (try clear hb2)
                  (try clear hk)
                  (try clear hi)
                  refine hK.out _ _ ⟨(blk_cell BK871.out 0).trans rfl, (blk_cell BK871.out 1).trans rfl, (blk_cell BK897.out 0).trans rfl, (blk_cell BK897.out 1).trans rfl, (blk_cell BK897.out 2).trans rfl, (blk_cell BK897.out 3).trans rfl⟩ (fun hHeld => ?_)
                  clear hK K
                  refine norm_ (a' := ?_) ?_ ?_
                  rotate_left
                  ·show Act.put _ (some 89) _ = _
                   simp only [Act.put, List.setIfInBounds_toArray, List.set_cons_zero, List.set_cons_succ, i64_w, i32_w]
                   rfl
                  refine one_ (i := 7) (N := some 18) #[true, true, true, true, true, true, true, true, false] rfl rfl (one_of HT_.out (by kernel_rfl)) (by decide) (fun K hK => ?_)
                  refine box_step ?hg (N := 18) ?hd (cs := #[.int .i64 0, .bool false, .int .i64 0, .bool false]) (t := 54) ?hr ?_; (case hd => rfl); (case hg => rfl); (case hr => first | (go_simp; done) | (go_simp; rfl))
                  intro gb908 hg w134 hbox hb
                  have n0_ := A0_ (blk_below (bm_ BK871.out) hb)
                  have n1_ := A0_ (blk_below (bm_ BK872.out) hb)
                  have n2_ := A0_ (blk_below (bm_ BK873.out) hb)
                  have n3_ := A0_ (blk_below (bm_ BK897.out) hb)
                  have n4_ := A0_ (below_step (by repeat (first | (with_reducible first | exact qm_ HB.out | apply qA_ | apply qN_ | apply qD_ | refine below_set ?_ GE871.out | refine below_set ?_ GE872.out | refine below_set ?_ GE873.out | refine below_set ?_ GE897.out) | exact HB.out)) hb)
                  have n5_ := A0_ (hbox)
                  have n6_ := A0_ ((by rw [hg]; exact (below_size (by repeat (first | (with_reducible first | exact qm_ HB.out | apply qA_ | apply qN_ | apply qD_ | refine below_set ?_ GE871.out | refine below_set ?_ GE872.out | refine below_set ?_ GE873.out | refine below_set ?_ GE897.out) | exact HB.out))) : w.heap.size ≤ gb908))
                  have n7_ := A0_ ((by rw [hg]; exact (below_size (by repeat (first | (with_reducible first | exact qm_ HB.out | apply qA_ | apply qN_ | apply qD_ | refine below_set ?_ GE871.out | refine below_set ?_ GE872.out | refine below_set ?_ GE873.out | refine below_set ?_ GE897.out) | exact HB.out))) : w.heap.size ≤ gb908))
                  have n8_ := A0_ ((by rw [hg]; exact Nat.ne_of_lt (blk_lt (bm_ BK871.out)) : gb871 ≠ gb908))
                  have n9_ := A0_ ((by rw [hg]; exact Nat.ne_of_gt (blk_lt (bm_ BK871.out)) : gb908 ≠ gb871))
                  have n10_ := A0_ ((by rw [hg]; exact Nat.ne_of_lt (blk_lt (bm_ BK872.out)) : gb872 ≠ gb908))
                  have n11_ := A0_ ((by rw [hg]; exact Nat.ne_of_gt (blk_lt (bm_ BK872.out)) : gb908 ≠ gb872))
                  have n12_ := A0_ ((by rw [hg]; exact Nat.ne_of_lt (blk_lt (bm_ BK873.out)) : gb873 ≠ gb908))
                  have n13_ := A0_ ((by rw [hg]; exact Nat.ne_of_gt (blk_lt (bm_ BK873.out)) : gb908 ≠ gb873))
                  have n14_ := A0_ ((by rw [hg]; exact Nat.ne_of_lt (blk_lt (bm_ BK897.out)) : gb897 ≠ gb908))
                  have n15_ := A0_ ((by rw [hg]; exact Nat.ne_of_gt (blk_lt (bm_ BK897.out)) : gb908 ≠ gb897))
                  clear BK871
                  clear BK872
                  clear BK873
                  clear BK897
                  clear HB
                  have BK871 := n0_
                  have BK872 := n1_
                  have BK873 := n2_
                  have BK897 := n3_
                  have HB := n4_
                  have BK908 := n5_
                  have GW908 := n6_
                  have GE908 := n7_
                  have NB871_908 := n8_
                  have NB908_871 := n9_
                  have NB872_908 := n10_
                  have NB908_872 := n11_
                  have NB873_908 := n12_
                  have NB908_873 := n13_
                  have NB897_908 := n14_
                  have NB908_897 := n15_
                  clear n0_ n1_ n2_ n3_ n4_ n5_ n6_ n7_ n8_ n9_ n10_ n11_ n12_ n13_ n14_ n15_
                  clear hb hbox hg
                  refine hK.out _ _ ⟨(blk_cell BK871.out 0).trans rfl, (blk_cell BK871.out 1).trans rfl, (blk_cell BK897.out 0).trans rfl, (blk_cell BK897.out 1).trans rfl, (blk_cell BK897.out 2).trans rfl, (blk_cell BK897.out 3).trans rfl⟩ (fun hHeld => ?_)
                  clear hK K
                  refine norm_ (a' := ?_) ?_ ?_
                  rotate_left
                  ·show Act.put _ (some 18) _ = _
                   simp only [Act.put, List.setIfInBounds_toArray, List.set_cons_zero, List.set_cons_succ, i64_w, i32_w]
                   rfl
                  exact norm_ (by simp only [putAll, Act.put, List.setIfInBounds_toArray, List.set_cons_zero, List.set_cons_succ]) (hCont (gb908) _ ⟨hHeld, (bm_ BK871.out), (bm_ BK872.out), (bm_ BK873.out), (bm_ BK897.out), (bm_ BK908.out), GW908.out, GE908.out, NB871_908.out, NB908_871.out, NB872_908.out, NB908_872.out, NB873_908.out, NB908_873.out, NB897_908.out, NB908_897.out, (by repeat (first | (with_reducible first | exact qm_ HB.out | apply qA_ | apply qN_ | apply qD_ | refine below_set ?_ GE871.out | refine below_set ?_ GE872.out | refine below_set ?_ GE873.out | refine below_set ?_ GE897.out | refine below_set ?_ GE908.out) | exact HB.out))⟩)
                 ·skip
                  refine box_step ?hg (N := 18) ?hd (cs := #[.int .i64 0, .bool false, .int .i64 0, .bool false]) (t := 54) ?hr ?_; (case hd => rfl); (case hg => rfl); (case hr => first | (go_simp; done) | (go_simp; rfl))
                  intro gb908 hg w133 hbox hb
                  have n0_ := A0_ (blk_below (bm_ BK871.out) hb)
                  have n1_ := A0_ (blk_below (bm_ BK872.out) hb)
                  have n2_ := A0_ (blk_below (bm_ BK873.out) hb)
                  have n3_ := A0_ (blk_below (bm_ BK897.out) hb)
                  have n4_ := A0_ (below_step (by repeat (first | (with_reducible first | exact qm_ HB.out | apply qA_ | apply qN_ | apply qD_ | refine below_set ?_ GE871.out | refine below_set ?_ GE872.out | refine below_set ?_ GE873.out | refine below_set ?_ GE897.out) | exact HB.out)) hb)
                  have n5_ := A0_ (hbox)
                  have n6_ := A0_ ((by rw [hg]; exact (below_size (by repeat (first | (with_reducible first | exact qm_ HB.out | apply qA_ | apply qN_ | apply qD_ | refine below_set ?_ GE871.out | refine below_set ?_ GE872.out | refine below_set ?_ GE873.out | refine below_set ?_ GE897.out) | exact HB.out))) : w.heap.size ≤ gb908))
                  have n7_ := A0_ ((by rw [hg]; exact (below_size (by repeat (first | (with_reducible first | exact qm_ HB.out | apply qA_ | apply qN_ | apply qD_ | refine below_set ?_ GE871.out | refine below_set ?_ GE872.out | refine below_set ?_ GE873.out | refine below_set ?_ GE897.out) | exact HB.out))) : w.heap.size ≤ gb908))
                  have n8_ := A0_ ((by rw [hg]; exact Nat.ne_of_lt (blk_lt (bm_ BK871.out)) : gb871 ≠ gb908))
                  have n9_ := A0_ ((by rw [hg]; exact Nat.ne_of_gt (blk_lt (bm_ BK871.out)) : gb908 ≠ gb871))
                  have n10_ := A0_ ((by rw [hg]; exact Nat.ne_of_lt (blk_lt (bm_ BK872.out)) : gb872 ≠ gb908))
                  have n11_ := A0_ ((by rw [hg]; exact Nat.ne_of_gt (blk_lt (bm_ BK872.out)) : gb908 ≠ gb872))
                  have n12_ := A0_ ((by rw [hg]; exact Nat.ne_of_lt (blk_lt (bm_ BK873.out)) : gb873 ≠ gb908))
                  have n13_ := A0_ ((by rw [hg]; exact Nat.ne_of_gt (blk_lt (bm_ BK873.out)) : gb908 ≠ gb873))
                  have n14_ := A0_ ((by rw [hg]; exact Nat.ne_of_lt (blk_lt (bm_ BK897.out)) : gb897 ≠ gb908))
                  have n15_ := A0_ ((by rw [hg]; exact Nat.ne_of_gt (blk_lt (bm_ BK897.out)) : gb908 ≠ gb897))
                  clear BK871
                  clear BK872
                  clear BK873
                  clear BK897
                  clear HB
                  have BK871 := n0_
                  have BK872 := n1_
                  have BK873 := n2_
                  have BK897 := n3_
                  have HB := n4_
                  have BK908 := n5_
                  have GW908 := n6_
                  have GE908 := n7_
                  have NB871_908 := n8_
                  have NB908_871 := n9_
                  have NB872_908 := n10_
                  have NB908_872 := n11_
                  have NB873_908 := n12_
                  have NB908_873 := n13_
                  have NB897_908 := n14_
                  have NB908_897 := n15_
                  clear n0_ n1_ n2_ n3_ n4_ n5_ n6_ n7_ n8_ n9_ n10_ n11_ n12_ n13_ n14_ n15_
                  clear hb hbox hg
                  refine hK.out _ _ ⟨(blk_cell BK871.out 0).trans rfl, (blk_cell BK871.out 1).trans rfl, (blk_cell BK897.out 0).trans rfl, (blk_cell BK897.out 1).trans rfl, (blk_cell BK897.out 2).trans rfl, (blk_cell BK897.out 3).trans rfl⟩ (fun hHeld => ?_)
                  clear hK K
                  refine norm_ (a' := ?_) ?_ ?_
                  rotate_left
                  ·show Act.put _ (some 18) _ = _
                   simp only [Act.put, List.setIfInBounds_toArray, List.set_cons_zero, List.set_cons_succ, i64_w, i32_w]
                   rfl
                  refine one_ (i := 6) (N := some 89) #[true, true, true, true, true, true, true, true, false] rfl rfl (one_of HT_.out (by kernel_rfl)) (by decide) (fun K hK => ?_)
                  refine goes_ Try.func20 (by kernel_rfl) rfl #[.agg #[.int .i64 t900, .bool t901, .int .i64 t902, .bool t903], .agg #[.int .i64 x898000_45, .bool t894, .int .i64 t898, .bool t899], .int .u8 a1] (by rfl) rfl rfl (by (try simp only [List.map_toArray, List.map_cons, List.map_nil]); first | done | rfl | (simp only [List.length_drop, List.length_take]; rfl)) ?_
                  with_reducible refine (special_box_times.calls t900 t901 t902 t903 x898000_45 t894 t898 t899 a1 t904 t905 t906 t907 _ A68.out).mono ?_
                  rintro e w134 ⟨rfl, hb⟩
                  refine ⟨_, rfl, ?_⟩
                  have n0_ := A0_ (blk_below (bm_ BK871.out) hb)
                  have n1_ := A0_ (blk_below (bm_ BK872.out) hb)
                  have n2_ := A0_ (blk_below (bm_ BK873.out) hb)
                  have n3_ := A0_ (blk_below (bm_ BK897.out) hb)
                  have n4_ := A0_ (blk_below (bm_ BK908.out) hb)
                  have n5_ := A0_ (below_step (by repeat (first | (with_reducible first | exact qm_ HB.out | apply qA_ | apply qN_ | apply qD_ | refine below_set ?_ GE871.out | refine below_set ?_ GE872.out | refine below_set ?_ GE873.out | refine below_set ?_ GE897.out | refine below_set ?_ GE908.out) | exact HB.out)) hb)
                  clear BK871
                  clear BK872
                  clear BK873
                  clear BK897
                  clear BK908
                  clear HB
                  have BK871 := n0_
                  have BK872 := n1_
                  have BK873 := n2_
                  have BK897 := n3_
                  have BK908 := n4_
                  have HB := n5_
                  clear n0_ n1_ n2_ n3_ n4_ n5_
                  (try clear hb)
                  (try clear hb2)
                  (try clear hk)
                  (try clear hi)
                  refine hK.out _ _ ⟨(blk_cell BK871.out 0).trans rfl, (blk_cell BK871.out 1).trans rfl, (blk_cell BK897.out 0).trans rfl, (blk_cell BK897.out 1).trans rfl, (blk_cell BK897.out 2).trans rfl, (blk_cell BK897.out 3).trans rfl⟩ (fun hHeld => ?_)
                  clear hK K
                  refine norm_ (a' := ?_) ?_ ?_
                  rotate_left
                  ·show Act.put _ (some 89) _ = _
                   simp only [Act.put, List.setIfInBounds_toArray, List.set_cons_zero, List.set_cons_succ, i64_w, i32_w]
                   rfl
                  exact norm_ (by simp only [putAll, Act.put, List.setIfInBounds_toArray, List.set_cons_zero, List.set_cons_succ]) (hCont (gb908) _ ⟨hHeld, (bm_ BK871.out), (bm_ BK872.out), (bm_ BK873.out), (bm_ BK897.out), (bm_ BK908.out), GW908.out, GE908.out, NB871_908.out, NB908_871.out, NB872_908.out, NB908_872.out, NB873_908.out, NB908_873.out, NB897_908.out, NB908_897.out, (by repeat (first | (with_reducible first | exact qm_ HB.out | apply qA_ | apply qN_ | apply qD_ | refine below_set ?_ GE871.out | refine below_set ?_ GE872.out | refine below_set ?_ GE873.out | refine below_set ?_ GE897.out | refine below_set ?_ GE908.out) | exact HB.out))⟩)
                ·skip
                 refine box_step ?hg (N := 18) ?hd (cs := #[.int .i64 0, .bool false, .int .i64 0, .bool false]) (t := 54) ?hr ?_; (case hd => rfl); (case hg => rfl); (case hr => first | (go_simp; done) | (go_simp; rfl))
                 intro gb908 hg w132 hbox hb
                 have n0_ := A0_ (blk_below (bm_ BK871.out) hb)
                 have n1_ := A0_ (blk_below (bm_ BK872.out) hb)
                 have n2_ := A0_ (blk_below (bm_ BK873.out) hb)
                 have n3_ := A0_ (blk_below (bm_ BK897.out) hb)
                 have n4_ := A0_ (below_step (by repeat (first | (with_reducible first | exact qm_ HB.out | apply qA_ | apply qN_ | apply qD_ | refine below_set ?_ GE871.out | refine below_set ?_ GE872.out | refine below_set ?_ GE873.out | refine below_set ?_ GE897.out) | exact HB.out)) hb)
                 have n5_ := A0_ (hbox)
                 have n6_ := A0_ ((by rw [hg]; exact (below_size (by repeat (first | (with_reducible first | exact qm_ HB.out | apply qA_ | apply qN_ | apply qD_ | refine below_set ?_ GE871.out | refine below_set ?_ GE872.out | refine below_set ?_ GE873.out | refine below_set ?_ GE897.out) | exact HB.out))) : w.heap.size ≤ gb908))
                 have n7_ := A0_ ((by rw [hg]; exact (below_size (by repeat (first | (with_reducible first | exact qm_ HB.out | apply qA_ | apply qN_ | apply qD_ | refine below_set ?_ GE871.out | refine below_set ?_ GE872.out | refine below_set ?_ GE873.out | refine below_set ?_ GE897.out) | exact HB.out))) : w.heap.size ≤ gb908))
                 have n8_ := A0_ ((by rw [hg]; exact Nat.ne_of_lt (blk_lt (bm_ BK871.out)) : gb871 ≠ gb908))
                 have n9_ := A0_ ((by rw [hg]; exact Nat.ne_of_gt (blk_lt (bm_ BK871.out)) : gb908 ≠ gb871))
                 have n10_ := A0_ ((by rw [hg]; exact Nat.ne_of_lt (blk_lt (bm_ BK872.out)) : gb872 ≠ gb908))
                 have n11_ := A0_ ((by rw [hg]; exact Nat.ne_of_gt (blk_lt (bm_ BK872.out)) : gb908 ≠ gb872))
                 have n12_ := A0_ ((by rw [hg]; exact Nat.ne_of_lt (blk_lt (bm_ BK873.out)) : gb873 ≠ gb908))
                 have n13_ := A0_ ((by rw [hg]; exact Nat.ne_of_gt (blk_lt (bm_ BK873.out)) : gb908 ≠ gb873))
                 have n14_ := A0_ ((by rw [hg]; exact Nat.ne_of_lt (blk_lt (bm_ BK897.out)) : gb897 ≠ gb908))
                 have n15_ := A0_ ((by rw [hg]; exact Nat.ne_of_gt (blk_lt (bm_ BK897.out)) : gb908 ≠ gb897))
                 clear BK871
                 clear BK872
                 clear BK873
                 clear BK897
                 clear HB
                 have BK871 := n0_
                 have BK872 := n1_
                 have BK873 := n2_
                 have BK897 := n3_
                 have HB := n4_
                 have BK908 := n5_
                 have GW908 := n6_
                 have GE908 := n7_
                 have NB871_908 := n8_
                 have NB908_871 := n9_
                 have NB872_908 := n10_
                 have NB908_872 := n11_
                 have NB873_908 := n12_
                 have NB908_873 := n13_
                 have NB897_908 := n14_
                 have NB908_897 := n15_
                 clear n0_ n1_ n2_ n3_ n4_ n5_ n6_ n7_ n8_ n9_ n10_ n11_ n12_ n13_ n14_ n15_
                 clear hb hbox hg
                 refine hK.out _ _ ⟨(blk_cell BK871.out 0).trans rfl, (blk_cell BK871.out 1).trans rfl, (blk_cell BK897.out 0).trans rfl, (blk_cell BK897.out 1).trans rfl, (blk_cell BK897.out 2).trans rfl, (blk_cell BK897.out 3).trans rfl⟩ (fun hHeld => ?_)
                 clear hK K
                 refine norm_ (a' := ?_) ?_ ?_
                 rotate_left
                 ·show Act.put _ (some 18) _ = _
                  simp only [Act.put, List.setIfInBounds_toArray, List.set_cons_zero, List.set_cons_succ, i64_w, i32_w]
                  rfl
                 refine one_ (i := 3) (N := some 86) #[true, true, true, true, true, true, false, true, false] rfl rfl (one_of HT_.out (by kernel_rfl)) (by decide) (fun K hK => ?_)
                 refine goes_ Try.func19 (by kernel_rfl) rfl #[.int .u8 a0, .agg #[.int .u64 a2_0, .int .u64 a2_1], .int .u8 (rd t877 0)] (by rfl) rfl rfl (by (try simp only [List.map_toArray, List.map_cons, List.map_nil]); first | done | rfl | (simp only [List.length_drop, List.length_take]; rfl)) ?_
                 with_reducible refine (special_boxOf.calls kj45 a0 a2_0 a2_1 (rd t877 0) t900 t901 t902 t903 _ A67.out).mono ?_
                 rintro e w133 ⟨rfl, hb⟩
                 refine ⟨_, rfl, ?_⟩
                 have n0_ := A0_ (blk_below (bm_ BK871.out) hb)
                 have n1_ := A0_ (blk_below (bm_ BK872.out) hb)
                 have n2_ := A0_ (blk_below (bm_ BK873.out) hb)
                 have n3_ := A0_ (blk_below (bm_ BK897.out) hb)
                 have n4_ := A0_ (blk_below (bm_ BK908.out) hb)
                 have n5_ := A0_ (below_step (by repeat (first | (with_reducible first | exact qm_ HB.out | apply qA_ | apply qN_ | apply qD_ | refine below_set ?_ GE871.out | refine below_set ?_ GE872.out | refine below_set ?_ GE873.out | refine below_set ?_ GE897.out | refine below_set ?_ GE908.out) | exact HB.out)) hb)
                 clear BK871
                 clear BK872
                 clear BK873
                 clear BK897
                 clear BK908
                 clear HB
                 have BK871 := n0_
                 have BK872 := n1_
                 have BK873 := n2_
                 have BK897 := n3_
                 have BK908 := n4_
                 have HB := n5_
                 clear n0_ n1_ n2_ n3_ n4_ n5_
                 (try clear hb)
                 (try clear hb2)
                 (try clear hk)
                 (try clear hi)
                 refine hK.out _ _ ⟨(blk_cell BK871.out 0).trans rfl, (blk_cell BK871.out 1).trans rfl, (blk_cell BK897.out 0).trans rfl, (blk_cell BK897.out 1).trans rfl, (blk_cell BK897.out 2).trans rfl, (blk_cell BK897.out 3).trans rfl⟩ (fun hHeld => ?_)
                 clear hK K
                 refine norm_ (a' := ?_) ?_ ?_
                 rotate_left
                 ·show Act.put _ (some 86) _ = _
                  simp only [Act.put, List.setIfInBounds_toArray, List.set_cons_zero, List.set_cons_succ, i64_w, i32_w]
                  rfl
                 refine one_ (i := 6) (N := some 89) #[true, true, true, true, true, true, true, true, false] rfl rfl (one_of HT_.out (by kernel_rfl)) (by decide) (fun K hK => ?_)
                 refine goes_ Try.func20 (by kernel_rfl) rfl #[.agg #[.int .i64 t900, .bool t901, .int .i64 t902, .bool t903], .agg #[.int .i64 x898000_45, .bool t894, .int .i64 t898, .bool t899], .int .u8 a1] (by rfl) rfl rfl (by (try simp only [List.map_toArray, List.map_cons, List.map_nil]); first | done | rfl | (simp only [List.length_drop, List.length_take]; rfl)) ?_
                 with_reducible refine (special_box_times.calls t900 t901 t902 t903 x898000_45 t894 t898 t899 a1 t904 t905 t906 t907 _ A68.out).mono ?_
                 rintro e w134 ⟨rfl, hb⟩
                 refine ⟨_, rfl, ?_⟩
                 have n0_ := A0_ (blk_below (bm_ BK871.out) hb)
                 have n1_ := A0_ (blk_below (bm_ BK872.out) hb)
                 have n2_ := A0_ (blk_below (bm_ BK873.out) hb)
                 have n3_ := A0_ (blk_below (bm_ BK897.out) hb)
                 have n4_ := A0_ (blk_below (bm_ BK908.out) hb)
                 have n5_ := A0_ (below_step (by repeat (first | (with_reducible first | exact qm_ HB.out | apply qA_ | apply qN_ | apply qD_ | refine below_set ?_ GE871.out | refine below_set ?_ GE872.out | refine below_set ?_ GE873.out | refine below_set ?_ GE897.out | refine below_set ?_ GE908.out) | exact HB.out)) hb)
                 clear BK871
                 clear BK872
                 clear BK873
                 clear BK897
                 clear BK908
                 clear HB
                 have BK871 := n0_
                 have BK872 := n1_
                 have BK873 := n2_
                 have BK897 := n3_
                 have BK908 := n4_
                 have HB := n5_
                 clear n0_ n1_ n2_ n3_ n4_ n5_
                 (try clear hb)
                 (try clear hb2)
                 (try clear hk)
                 (try clear hi)
                 refine hK.out _ _ ⟨(blk_cell BK871.out 0).trans rfl, (blk_cell BK871.out 1).trans rfl, (blk_cell BK897.out 0).trans rfl, (blk_cell BK897.out 1).trans rfl, (blk_cell BK897.out 2).trans rfl, (blk_cell BK897.out 3).trans rfl⟩ (fun hHeld => ?_)
                 clear hK K
                 refine norm_ (a' := ?_) ?_ ?_
                 rotate_left
                 ·show Act.put _ (some 89) _ = _
                  simp only [Act.put, List.setIfInBounds_toArray, List.set_cons_zero, List.set_cons_succ, i64_w, i32_w]
                  rfl
                 exact norm_ (by simp only [putAll, Act.put, List.setIfInBounds_toArray, List.set_cons_zero, List.set_cons_succ]) (hCont (gb908) _ ⟨hHeld, (bm_ BK871.out), (bm_ BK872.out), (bm_ BK873.out), (bm_ BK897.out), (bm_ BK908.out), GW908.out, GE908.out, NB871_908.out, NB908_871.out, NB872_908.out, NB908_872.out, NB873_908.out, NB908_873.out, NB897_908.out, NB908_897.out, (by repeat (first | (with_reducible first | exact qm_ HB.out | apply qA_ | apply qN_ | apply qD_ | refine below_set ?_ GE871.out | refine below_set ?_ GE872.out | refine below_set ?_ GE873.out | refine below_set ?_ GE897.out | refine below_set ?_ GE908.out) | exact HB.out))⟩)
               rintro gb908 w135 ⟨hS_, h0_, h1_, h2_, h3_, h4_, h5_, h6_, h7_, h8_, h9_, h10_, h11_, h12_, h13_, h14_, h15_⟩
               have n0_ : Aside0 (w135.heap[gb871]? = some (.cells #[.int .u64 a2_0, .int .u64 a2_1] 26 (0, 0))) := ⟨h0_⟩
               have n1_ : Aside0 (w135.heap[gb872]? = some (.cells #[.int .u64 a3_0, .int .u64 a3_1] 26 (0, 0))) := ⟨h1_⟩
               have n2_ : Aside0 (w135.heap[gb873]? = some (.cells #[.int .u64 0, .int .u64 0, .int .u8 0, .int .u8 0] 29 (0, 0))) := ⟨h2_⟩
               have n3_ : Aside0 (w135.heap[gb897]? = some (.cells #[.int .i64 x898000_45, .bool t894, .int .i64 t898, .bool t899] 54 (0, 0))) := ⟨h3_⟩
               have n4_ : Aside0 (w135.heap[gb908]? = some (.cells #[.int .i64 0, .bool false, .int .i64 0, .bool false] 54 (0, 0))) := ⟨h4_⟩
               have n5_ : Aside0 (w.heap.size ≤ gb908) := ⟨h5_⟩
               have n6_ : Aside0 (w.heap.size ≤ gb908) := ⟨h6_⟩
               have n7_ : Aside0 (gb871 ≠ gb908) := ⟨h7_⟩
               have n8_ : Aside0 (gb908 ≠ gb871) := ⟨h8_⟩
               have n9_ : Aside0 (gb872 ≠ gb908) := ⟨h9_⟩
               have n10_ : Aside0 (gb908 ≠ gb872) := ⟨h10_⟩
               have n11_ : Aside0 (gb873 ≠ gb908) := ⟨h11_⟩
               have n12_ : Aside0 (gb908 ≠ gb873) := ⟨h12_⟩
               have n13_ : Aside0 (gb897 ≠ gb908) := ⟨h13_⟩
               have n14_ : Aside0 (gb908 ≠ gb897) := ⟨h14_⟩
               have n15_ : Aside0 (Below w.heap.size w w135) := ⟨h15_⟩
               clear BK871
               clear BK872
               clear BK873
               clear BK897
               clear HB
               clear h0_ h1_ h2_ h3_ h4_ h5_ h6_ h7_ h8_ h9_ h10_ h11_ h12_ h13_ h14_ h15_
               have BK871 := n0_
               have BK872 := n1_
               have BK873 := n2_
               have BK897 := n3_
               have BK908 := n4_
               have GW908 := n5_
               have GE908 := n6_
               have NB871_908 := n7_
               have NB908_871 := n8_
               have NB872_908 := n9_
               have NB908_872 := n10_
               have NB873_908 := n11_
               have NB908_873 := n12_
               have NB897_908 := n13_
               have NB908_897 := n14_
               have HB := n15_
               clear n0_ n1_ n2_ n3_ n4_ n5_ n6_ n7_ n8_ n9_ n10_ n11_ n12_ n13_ n14_ n15_
               have hHeld : w135.cell? ⟨gb871, 0, none⟩ = some (.int .u64 a2_0) ∧ w135.cell? ⟨gb871, 1, none⟩ = some (.int .u64 a2_1) ∧ w135.cell? ⟨gb897, 0, none⟩ = some (.int .i64 x898000_45) ∧ w135.cell? ⟨gb897, 1, none⟩ = some (.bool t894) ∧ w135.cell? ⟨gb897, 2, none⟩ = some (.int .i64 t898) ∧ w135.cell? ⟨gb897, 3, none⟩ = some (.bool t899) := hS_
               refine norm_ (a' := ?_) ?_ ?_
               rotate_left
               ·simp only [putAll, Act.put, List.setIfInBounds_toArray, List.set_cons_zero, List.set_cons_succ]
                rfl
               refine one_ (i := 8) (N := none) #[true, true, true, true, true, true, true, true, true] rfl rfl (one_of HT_.out (by kernel_rfl)) (by decide) (fun K hK => ?_)
               have hs136 : w135.cell? ⟨gb908, 0, none⟩ = some (.int .i64 0) := (blk_cell BK908.out 0).trans rfl
               have hfs136 := blk_frozen BK908.out 0
               have hns136_0 := NB871_908.out
               have hns136_1 := NB872_908.out
               have hns136_2 := NB873_908.out
               have hns136_3 := NB897_908.out
               have hms136_0 := NB908_871.out
               have hms136_1 := NB908_872.out
               have hms136_2 := NB908_873.out
               have hms136_3 := NB908_897.out
               have hs137 : w135.cell? ⟨gb908, 1, none⟩ = some (.bool false) := (blk_cell BK908.out 1).trans rfl
               have hfs137 := blk_frozen BK908.out 1
               have hns137_0 := NB871_908.out
               have hns137_1 := NB872_908.out
               have hns137_2 := NB873_908.out
               have hns137_3 := NB897_908.out
               have hms137_0 := NB908_871.out
               have hms137_1 := NB908_872.out
               have hms137_2 := NB908_873.out
               have hms137_3 := NB908_897.out
               have hs138 : w135.cell? ⟨gb908, 2, none⟩ = some (.int .i64 0) := (blk_cell BK908.out 2).trans rfl
               have hfs138 := blk_frozen BK908.out 2
               have hns138_0 := NB871_908.out
               have hns138_1 := NB872_908.out
               have hns138_2 := NB873_908.out
               have hns138_3 := NB897_908.out
               have hms138_0 := NB908_871.out
               have hms138_1 := NB908_872.out
               have hms138_2 := NB908_873.out
               have hms138_3 := NB908_897.out
               have hs139 : w135.cell? ⟨gb908, 3, none⟩ = some (.bool false) := (blk_cell BK908.out 3).trans rfl
               have hfs139 := blk_frozen BK908.out 3
               have hns139_0 := NB871_908.out
               have hns139_1 := NB872_908.out
               have hns139_2 := NB873_908.out
               have hns139_3 := NB897_908.out
               have hms139_0 := NB908_871.out
               have hms139_1 := NB908_872.out
               have hms139_2 := NB908_873.out
               have hms139_3 := NB908_897.out
               refine skip_ (w1 := ?_) (by rfl) rfl ?_ ?_
               rotate_left
               ·go_simp
                rfl
               refine hK.out _ _ ⟨((cell_far (p := ⟨gb908, _, none⟩) NB871_908.out _).trans (((cell_far (p := ⟨gb908, _, none⟩) NB871_908.out _).trans (((cell_far (p := ⟨gb908, _, none⟩) NB871_908.out _).trans (((cell_far (p := ⟨gb908, _, none⟩) NB871_908.out _).trans (hHeld.1)))))))), ((cell_far (p := ⟨gb908, _, none⟩) NB871_908.out _).trans (((cell_far (p := ⟨gb908, _, none⟩) NB871_908.out _).trans (((cell_far (p := ⟨gb908, _, none⟩) NB871_908.out _).trans (((cell_far (p := ⟨gb908, _, none⟩) NB871_908.out _).trans (hHeld.2.1)))))))), ((cell_far (p := ⟨gb908, _, none⟩) NB897_908.out _).trans (((cell_far (p := ⟨gb908, _, none⟩) NB897_908.out _).trans (((cell_far (p := ⟨gb908, _, none⟩) NB897_908.out _).trans (((cell_far (p := ⟨gb908, _, none⟩) NB897_908.out _).trans (hHeld.2.2.1)))))))), ((cell_far (p := ⟨gb908, _, none⟩) NB897_908.out _).trans (((cell_far (p := ⟨gb908, _, none⟩) NB897_908.out _).trans (((cell_far (p := ⟨gb908, _, none⟩) NB897_908.out _).trans (((cell_far (p := ⟨gb908, _, none⟩) NB897_908.out _).trans (hHeld.2.2.2.1)))))))), ((cell_far (p := ⟨gb908, _, none⟩) NB897_908.out _).trans (((cell_far (p := ⟨gb908, _, none⟩) NB897_908.out _).trans (((cell_far (p := ⟨gb908, _, none⟩) NB897_908.out _).trans (((cell_far (p := ⟨gb908, _, none⟩) NB897_908.out _).trans (hHeld.2.2.2.2.1)))))))), ((cell_far (p := ⟨gb908, _, none⟩) NB897_908.out _).trans (((cell_far (p := ⟨gb908, _, none⟩) NB897_908.out _).trans (((cell_far (p := ⟨gb908, _, none⟩) NB897_908.out _).trans (((cell_far (p := ⟨gb908, _, none⟩) NB897_908.out _).trans (hHeld.2.2.2.2.2))))))))⟩ (fun hHeld => ?_)
               clear hK K
               refine done_ (done_of HT_.out (by kernel_rfl)) ?_
               have hnb140 := NB908_871.out
               have hnc140 := NB871_908.out
               have hnb141 := NB908_872.out
               have hnc141 := NB872_908.out
               have hnb142 := NB908_873.out
               have hnc142 := NB873_908.out
               have hnb143 := NB908_897.out
               have hnc143 := NB897_908.out
               have hcz144 := bc4_ BK908.out
               have hfz144 := bf4_ BK908.out
               try go_wp2_with (first | ((with_reducible refine gate_callee (f := 21) rfl ?_); refine goesL_ (some 108) rfl rfl Try.func21 (by kernel_rfl) rfl #[.agg #[.int .i64 t904, .bool t905, .int .i64 t906, .bool t907], .int .u8 a0, .int .u64 t883] rfl (by (try simp only [List.map_toArray, List.map_cons, List.map_nil]); first | done | rfl | (simp only [List.length_drop, List.length_take]; rfl)) ?_; (with_reducible refine (special_box_words.calls kj45 t904 t905 t906 t907 a0 t883 t913 t914 _ A123.out).mono ?_); rintro e w145 ⟨rfl, hb⟩; refine ⟨_, rfl, ?_⟩; have n0_ := A0_ (blk_below (g := gb871) (o := .cells #[.int .u64 a2_0, .int .u64 a2_1] 26 (0, 0)) (by (with_reducible repeat first | apply bN_ | apply bD_ | apply bA_); refine blk_far ?_ NB871_908.out _; (with_reducible repeat first | apply bN_ | apply bD_ | apply bA_); refine blk_far ?_ NB871_908.out _; (with_reducible repeat first | apply bN_ | apply bD_ | apply bA_); refine blk_far ?_ NB871_908.out _; (with_reducible repeat first | apply bN_ | apply bD_ | apply bA_); refine blk_far ?_ NB871_908.out _; (with_reducible repeat first | apply bN_ | apply bD_ | apply bA_); exact BK871.out) hb); have n1_ := A0_ (blk_below (g := gb872) (o := .cells #[.int .u64 a3_0, .int .u64 a3_1] 26 (0, 0)) (by (with_reducible repeat first | apply bN_ | apply bD_ | apply bA_); refine blk_far ?_ NB872_908.out _; (with_reducible repeat first | apply bN_ | apply bD_ | apply bA_); refine blk_far ?_ NB872_908.out _; (with_reducible repeat first | apply bN_ | apply bD_ | apply bA_); refine blk_far ?_ NB872_908.out _; (with_reducible repeat first | apply bN_ | apply bD_ | apply bA_); refine blk_far ?_ NB872_908.out _; (with_reducible repeat first | apply bN_ | apply bD_ | apply bA_); exact BK872.out) hb); have n2_ := A0_ (blk_below (g := gb873) (o := .cells #[.int .u64 0, .int .u64 0, .int .u8 0, .int .u8 0] 29 (0, 0)) (by (with_reducible repeat first | apply bN_ | apply bD_ | apply bA_); refine blk_far ?_ NB873_908.out _; (with_reducible repeat first | apply bN_ | apply bD_ | apply bA_); refine blk_far ?_ NB873_908.out _; (with_reducible repeat first | apply bN_ | apply bD_ | apply bA_); refine blk_far ?_ NB873_908.out _; (with_reducible repeat first | apply bN_ | apply bD_ | apply bA_); refine blk_far ?_ NB873_908.out _; (with_reducible repeat first | apply bN_ | apply bD_ | apply bA_); exact BK873.out) hb); have n3_ := A0_ (blk_below (g := gb897) (o := .cells #[.int .i64 x898000_45, .bool t894, .int .i64 t898, .bool t899] 54 (0, 0)) (by (with_reducible repeat first | apply bN_ | apply bD_ | apply bA_); refine blk_far ?_ NB897_908.out _; (with_reducible repeat first | apply bN_ | apply bD_ | apply bA_); refine blk_far ?_ NB897_908.out _; (with_reducible repeat first | apply bN_ | apply bD_ | apply bA_); refine blk_far ?_ NB897_908.out _; (with_reducible repeat first | apply bN_ | apply bD_ | apply bA_); refine blk_far ?_ NB897_908.out _; (with_reducible repeat first | apply bN_ | apply bD_ | apply bA_); exact BK897.out) hb); have n4_ := A0_ (blk_below (g := gb908) (o := .cells #[.int .i64 t904, .bool t905, .int .i64 t906, .bool t907] 54 (0, 0)) (by (with_reducible repeat first | apply bN_ | apply bD_ | apply bA_); refine blk_put (cs := #[.int .i64 t904, .bool t905, .int .i64 t906, .bool false]) ?_ 3 _ rfl; (with_reducible repeat first | apply bN_ | apply bD_ | apply bA_); refine blk_put (cs := #[.int .i64 t904, .bool t905, .int .i64 0, .bool false]) ?_ 2 _ rfl; (with_reducible repeat first | apply bN_ | apply bD_ | apply bA_); refine blk_put (cs := #[.int .i64 t904, .bool false, .int .i64 0, .bool false]) ?_ 1 _ rfl; (with_reducible repeat first | apply bN_ | apply bD_ | apply bA_); refine blk_put (cs := #[.int .i64 0, .bool false, .int .i64 0, .bool false]) ?_ 0 _ rfl; (with_reducible repeat first | apply bN_ | apply bD_ | apply bA_); exact BK908.out) hb); have n5_ := A0_ (below_step (by repeat (first | (with_reducible first | exact qm_ HB.out | apply qA_ | apply qN_ | apply qD_ | refine below_set ?_ GE871.out | refine below_set ?_ GE872.out | refine below_set ?_ GE873.out | refine below_set ?_ GE897.out | refine below_set ?_ GE908.out) | exact HB.out)) hb); clear BK871; clear BK872; clear BK873; clear BK897; clear BK908; clear HB; have BK871 := n0_; have BK872 := n1_; have BK873 := n2_; have BK897 := n3_; have BK908 := n4_; have HB := n5_; clear n0_ n1_ n2_ n3_ n4_ n5_; (try clear hb); (try clear hb2); (try clear hk); (try clear hi); have hnb146 := NB873_871.out; have hnc146 := NB871_873.out; have hnb147 := NB873_872.out; have hnc147 := NB872_873.out; have hcz148 := bc4_ BK873.out; have hfz148 := bf4_ BK873.out))
               refine bodyPost_ret (results_ctt rfl _ _ gb873 29 #[.int .u64 t913, .int .u64 t914, .int .u8 2, .int .u8 2] (0, 0) _ rfl (by (with_reducible repeat first | apply bN_ | apply bD_ | apply bA_); refine blk_put (cs := #[.int .u64 t913, .int .u64 t914, .int .u8 2, .int .u8 0]) ?_ 3 _ rfl; (with_reducible repeat first | apply bN_ | apply bD_ | apply bA_); refine blk_put (cs := #[.int .u64 t913, .int .u64 t914, .int .u8 0, .int .u8 0]) ?_ 2 _ rfl; (with_reducible repeat first | apply bN_ | apply bD_ | apply bA_); refine blk_put (cs := #[.int .u64 t913, .int .u64 0, .int .u8 0, .int .u8 0]) ?_ 1 _ rfl; (with_reducible repeat first | apply bN_ | apply bD_ | apply bA_); refine blk_put (cs := #[.int .u64 0, .int .u64 0, .int .u8 0, .int .u8 0]) ?_ 0 _ rfl; (with_reducible repeat first | apply bN_ | apply bD_ | apply bA_); exact BK873.out) Try.underlying29 rfl (by kernel_rfl)) rfl ?_
               exact ⟨by first | rfl | (simp [errW_none, errW_some] <;> rfl) | (simp [*, errW_none, errW_some] <;> rfl), by repeat (first | (with_reducible first | exact qm_ HB.out | apply qA_ | apply qN_ | apply qD_ | refine below_set ?_ GE871.out | refine below_set ?_ GE872.out | refine below_set ?_ GE873.out | refine below_set ?_ GE897.out | refine below_set ?_ GE908.out) | exact HB.out)⟩
   ·rw [if_neg c8] at H
    exact absurd H (by simp)
  ·rw [if_neg c7] at H
   exact absurd H (by simp)
 ·rw [if_neg c6] at H
  have c6b0 : (t878 == 0) = false := beq_eq_false_iff_ne.mpr c6
  have c6b1 : (t878 != 0) = true := bne_iff_ne.mpr c6
  simp only [Option.some.injEq, Prod.mk.injEq] at H
  obtain ⟨rfl, rfl, rfl, rfl, rfl, rfl⟩ := H
  go_enter Try.func14, Try.ntmps14
  go_wp2_with (first | ((with_reducible refine gate_dst (N := 6) rfl ?_); refine box_event ?hg (N := 6) ?hd (cs := #[.int .u64 a2_0, .int .u64 a2_1]) (t := 26) ?hr ?_; (case hd => rfl); (case hg => rfl); (case hr => first | (go_simp; done) | (go_simp; rfl)); intro gb871 hg w149 hbox hb; have n0_ := A0_ (below_step (qm_ HB.out) hb); have n1_ := A0_ (hbox); have n2_ := A0_ ((by rw [hg]; exact (below_size (qm_ HB.out)) : w.heap.size ≤ gb871)); have n3_ := A0_ ((by rw [hg]; exact (below_size (qm_ HB.out)) : w.heap.size ≤ gb871)); clear HB; have HB := n0_; have BK871 := n1_; have GW871 := n2_; have GE871 := n3_; clear n0_ n1_ n2_ n3_; clear hb hbox hg) | ((with_reducible refine gate_dst (N := 7) rfl ?_); refine box_event ?hg (N := 7) ?hd (cs := #[.int .u64 a3_0, .int .u64 a3_1]) (t := 26) ?hr ?_; (case hd => rfl); (case hg => rfl); (case hr => first | (go_simp; done) | (go_simp; rfl)); intro gb872 hg w150 hbox hb; have n0_ := A0_ (blk_below (bm_ BK871.out) hb); have n1_ := A0_ (below_step (by repeat (first | (with_reducible first | exact qm_ HB.out | apply qA_ | apply qN_ | apply qD_ | refine below_set ?_ GE871.out) | exact HB.out)) hb); have n2_ := A0_ (hbox); have n3_ := A0_ ((by rw [hg]; exact (below_size (by repeat (first | (with_reducible first | exact qm_ HB.out | apply qA_ | apply qN_ | apply qD_ | refine below_set ?_ GE871.out) | exact HB.out))) : w.heap.size ≤ gb872)); have n4_ := A0_ ((by rw [hg]; exact (below_size (by repeat (first | (with_reducible first | exact qm_ HB.out | apply qA_ | apply qN_ | apply qD_ | refine below_set ?_ GE871.out) | exact HB.out))) : w.heap.size ≤ gb872)); have n5_ := A0_ ((by rw [hg]; exact Nat.ne_of_lt (blk_lt (bm_ BK871.out)) : gb871 ≠ gb872)); have n6_ := A0_ ((by rw [hg]; exact Nat.ne_of_gt (blk_lt (bm_ BK871.out)) : gb872 ≠ gb871)); clear BK871; clear HB; have BK871 := n0_; have HB := n1_; have BK872 := n2_; have GW872 := n3_; have GE872 := n4_; have NB871_872 := n5_; have NB872_871 := n6_; clear n0_ n1_ n2_ n3_ n4_ n5_ n6_; clear hb hbox hg) | ((with_reducible refine gate_dst (N := 8) rfl ?_); refine box_event ?hg (N := 8) ?hd (cs := #[.int .u64 0, .int .u64 0, .int .u8 0, .int .u8 0]) (t := 29) ?hr ?_; (case hd => rfl); (case hg => rfl); (case hr => first | (go_simp; done) | (go_simp; rfl)); intro gb873 hg w151 hbox hb; have n0_ := A0_ (blk_below (bm_ BK871.out) hb); have n1_ := A0_ (blk_below (bm_ BK872.out) hb); have n2_ := A0_ (below_step (by repeat (first | (with_reducible first | exact qm_ HB.out | apply qA_ | apply qN_ | apply qD_ | refine below_set ?_ GE871.out | refine below_set ?_ GE872.out) | exact HB.out)) hb); have n3_ := A0_ (hbox); have n4_ := A0_ ((by rw [hg]; exact (below_size (by repeat (first | (with_reducible first | exact qm_ HB.out | apply qA_ | apply qN_ | apply qD_ | refine below_set ?_ GE871.out | refine below_set ?_ GE872.out) | exact HB.out))) : w.heap.size ≤ gb873)); have n5_ := A0_ ((by rw [hg]; exact (below_size (by repeat (first | (with_reducible first | exact qm_ HB.out | apply qA_ | apply qN_ | apply qD_ | refine below_set ?_ GE871.out | refine below_set ?_ GE872.out) | exact HB.out))) : w.heap.size ≤ gb873)); have n6_ := A0_ ((by rw [hg]; exact Nat.ne_of_lt (blk_lt (bm_ BK871.out)) : gb871 ≠ gb873)); have n7_ := A0_ ((by rw [hg]; exact Nat.ne_of_gt (blk_lt (bm_ BK871.out)) : gb873 ≠ gb871)); have n8_ := A0_ ((by rw [hg]; exact Nat.ne_of_lt (blk_lt (bm_ BK872.out)) : gb872 ≠ gb873)); have n9_ := A0_ ((by rw [hg]; exact Nat.ne_of_gt (blk_lt (bm_ BK872.out)) : gb873 ≠ gb872)); clear BK871; clear BK872; clear HB; have BK871 := n0_; have BK872 := n1_; have HB := n2_; have BK873 := n3_; have GW873 := n4_; have GE873 := n5_; have NB871_873 := n6_; have NB873_871 := n7_; have NB872_873 := n8_; have NB873_872 := n9_; clear n0_ n1_ n2_ n3_ n4_ n5_ n6_ n7_ n8_ n9_; clear hb hbox hg; have hnb152 := NB871_872.out; have hnc152 := NB872_871.out; have hnb153 := NB871_873.out; have hnc153 := NB873_871.out; have hcz154 := bc2_ BK871.out; have hfz154 := bf2_ BK871.out; have hnb155 := NB872_873.out; have hnc155 := NB873_872.out; have hcz156 := bc2_ BK872.out; have hfz156 := bf2_ BK872.out) | ((with_reducible refine gate_dst (N := 24) rfl ?_); refine Kd.R_lit k26 _ 26 ?hg (N := 24) ?hd (xs := ([(⟨a2_0, a2_1⟩ : S26), (⟨a3_0, a3_1⟩ : S26)] : List (S26))) (inner := [.int .u64 a2_0, .int .u64 a2_1, .int .u64 a3_0, .int .u64 a3_1]) (ok := fun _ => True) (okp := fun _ => True) ?hr ?hp (fun _ hk => hk) trivial (Below.refl _ _) (Nat.le_refl _) (by simp) ?_; (case hd => rfl); (case hg => rfl); (case hr => first | (go_simp; done) | (go_simp; rfl)); (case hp => exact (Reps.c2 (show Kd.M k26 _ _ _ (⟨a2_0, a2_1⟩ : S26) [.int .u64 a2_0, .int .u64 a2_1] from (k26_mkM _ _ _ (⟨a2_0, a2_1⟩ : S26) )) (Reps.c2 (show Kd.M k26 _ _ _ (⟨a3_0, a3_1⟩ : S26) [.int .u64 a3_0, .int .u64 a3_1] from (k26_mkM _ _ _ (⟨a3_0, a3_1⟩ : S26) )) (Reps.none _ _)))); intro v875 w157 ho158 hb hg_ hnew_; clear hg_ hnew_; (first | rw [← Ny874.out] at ho158 | (simp only [Int.reduceToNat] at ho158; rw [← Ny874.out] at ho158)); have n0_ := A0_ (Kd.R_lower (Kd.R_newB (Kd.R_newB ho158 (bm_ BK871.out)) (bm_ BK872.out)) (below_size (by repeat (first | (with_reducible first | exact qm_ HB.out | apply qA_ | apply qN_ | apply qD_ | refine below_set ?_ GE871.out | refine below_set ?_ GE872.out | refine below_set ?_ GE873.out) | exact HB.out)))); have n1_ := A0_ (blk_below (bm_ BK871.out) hb); have n2_ := A0_ (blk_below (bm_ BK872.out) hb); have n3_ := A0_ (blk_below (bm_ BK873.out) hb); have n4_ := A0_ (below_step (by repeat (first | (with_reducible first | exact qm_ HB.out | apply qA_ | apply qN_ | apply qD_ | refine below_set ?_ GE871.out | refine below_set ?_ GE872.out | refine below_set ?_ GE873.out) | exact HB.out)) hb); clear BK871; clear BK872; clear BK873; clear HB; have HO876 := n0_; have BK871 := n1_; have BK872 := n2_; have BK873 := n3_; have HB := n4_; clear n0_ n1_ n2_ n3_ n4_; clear hb ho158; obtain ⟨Ao159, co159, eo159⟩ := Kd.R_slice HO876.out; subst eo159) | ((with_reducible refine gate_callee (f := 16) rfl ?_); refine goesL_ (some 25) rfl rfl Try.func16 (by kernel_rfl) rfl #[.int .u8 a0, .int .u8 a1, .slice Ao159 y874.length co159] rfl (by (try simp only [List.map_toArray, List.map_cons, List.map_nil]); first | done | rfl | (simp only [List.length_drop, List.length_take]; rfl)) ?_; (with_reducible refine (special_open.calls k a0 a1 _ _ y874 t877 t878 _ ?side1 ?side2 A5.out).mono ?_); (case side1 => repeat (first | exact (Kd.R_reads' HO876.out).2.2 | (with_reducible refine Kd.C_alloc ?_ _) | (with_reducible refine Kd.C_drewN ?_ _) | (with_reducible refine Kd.C_drew ?_))); (case side2 => exact (Kd.R_reads' HO876.out).2.1); rintro e w160 ⟨v879, rfl, ho0, hb⟩; refine ⟨_, rfl, ?_⟩; have n0_ := A0_ (Kd.R_below (by exact rm_ HO876.out) hb); have n1_ := A0_ (Kd.R_lower ho0 (below_size (by repeat (first | (with_reducible first | exact qm_ HB.out | apply qA_ | apply qN_ | apply qD_ | refine below_set ?_ GE871.out | refine below_set ?_ GE872.out | refine below_set ?_ GE873.out) | exact HB.out)))); have n2_ := A0_ (blk_below (bm_ BK871.out) hb); have n3_ := A0_ (blk_below (bm_ BK872.out) hb); have n4_ := A0_ (blk_below (bm_ BK873.out) hb); have n5_ := A0_ (below_step (by repeat (first | (with_reducible first | exact qm_ HB.out | apply qA_ | apply qN_ | apply qD_ | refine below_set ?_ GE871.out | refine below_set ?_ GE872.out | refine below_set ?_ GE873.out) | exact HB.out)) hb); clear HO876; clear BK871; clear BK872; clear BK873; clear HB; have HO876 := n0_; have HO880 := n1_; have BK871 := n2_; have BK872 := n3_; have BK873 := n4_; have HB := n5_; clear n0_ n1_ n2_ n3_ n4_ n5_; (try clear hb); (try clear hb2); (try clear hk); (try clear hi); (try clear ho0); have hcz161 := bc4_ BK873.out; have hfz161 := bf4_ BK873.out))
  refine bodyPost_ret (results_ctt rfl _ _ gb873 29 #[.int .u64 0, .int .u64 0, .int .u8 0, .int .u8 0] (0, 0) _ rfl (by (with_reducible repeat first | apply bN_ | apply bD_ | apply bA_); refine blk_put (cs := #[.int .u64 0, .int .u64 0, .int .u8 0, .int .u8 0]) ?_ 3 _ rfl; (with_reducible repeat first | apply bN_ | apply bD_ | apply bA_); refine blk_put (cs := #[.int .u64 0, .int .u64 0, .int .u8 0, .int .u8 0]) ?_ 2 _ rfl; (with_reducible repeat first | apply bN_ | apply bD_ | apply bA_); refine blk_put (cs := #[.int .u64 0, .int .u64 0, .int .u8 0, .int .u8 0]) ?_ 1 _ rfl; (with_reducible repeat first | apply bN_ | apply bD_ | apply bA_); refine blk_put (cs := #[.int .u64 0, .int .u64 0, .int .u8 0, .int .u8 0]) ?_ 0 _ rfl; (with_reducible repeat first | apply bN_ | apply bD_ | apply bA_); exact BK873.out) Try.underlying29 rfl (by kernel_rfl)) rfl ?_
  exact ⟨by first | rfl | (simp [errW_none, errW_some] <;> rfl) | (simp [*, errW_none, errW_some] <;> rfl), by repeat (first | (with_reducible first | exact qm_ HB.out | apply qA_ | apply qN_ | apply qD_ | refine below_set ?_ GE871.out | refine below_set ?_ GE872.out | refine below_set ?_ GE873.out) | exact HB.out)⟩
end Go.Proofs.Ytlgapmhjaaajfaa.PA
end
