/- Steps of Go functions that the law PairProjects uses, told as plain Lean functions, each with the proof that its call comes to what it tells; words on memory; plain facts. No condition beyond those that each text names. -/
import Derived.Test.YtgaabjjenlbmhaaProg
import Derived.Below
import Derived.Deep.Draws
import Derived.Deep.AppendLies
import Derived.Maps.AppendAt
import Derived.OwnWalk
import Derived.Laws.BytesArg
import Derived.Laws.MakeOwn
import Derived.Laws.OwnMore
import Derived.Deep.OwnRows
import Derived.Tactics
import Derived.Lib.ConvBytes
import Derived.Laws.Slices
import Derived.WalkKit
import Derived.KernelRfl
import Derived.RowKit3
import Derived.Deep.LoopGhost
import Derived.Deep.QuietTactic
import Derived.BigQuiet
import Derived.WideLaws
import Derived.Deep.DeepCutAuto
import Derived.Deep.CutBlock
import Derived.Deep.RegionHeld3
import Derived.Laws.Rows
import Derived.Lib.AppendStr
import Derived.ArgAppend
import Derived.Laws.IdiomCopy
import Derived.OrdersHeld
import Derived.Laws.BitsLemmas
import Derived.RowKit
import Derived.Laws.StructEq
import Derived.Laws.BitsAllLaws
import Derived.OpenShut
import Derived.Test.YtgaabjjenlbmhaaSPairProjects0
import Derived.Test.YtgaabjjenlbmhaaSPairProjects1
import Derived.Test.YtgaabjjenlbmhaaSPairProjects2
import Derived.Test.YtgaabjjenlbmhaaSPairProjects3
import Derived.Test.YtgaabjjenlbmhaaSPairProjects4
section
namespace Go.Proofs.Ytgaabjjenlbmhaa.PA
open Go.RowKit Go.Proofs.YtgaabjjenlbmhaaW.PrintWords Go.Proofs.YtgaabjjenlbmhaaW.PrintLast Go.Proofs.YtgaabjjenlbmhaaW.PrintMore
attribute [local go_sem] max2_int min2_int max_two min_two max_three min_three max_four min_four   -- for this text's walks alone
set_option linter.unusedVariables false
set_option linter.unusedSimpArgs false
def cutplaneref10_Proj.f (k : Nat) (a0 : Int) (a1_0 : Int) (a1_1 : Int) : Option (Int × Int) := (cutplaneref10_Class.f k a0 a1_0 a1_1).bind fun t396 => (if t396 = 3 then ((cutplaneref03_Class.f k a0 a1_1).bind fun t399 => (if t399 = 5 then ((cutplaneref03_Inf.f a0 false).bind fun t400 => ((cutplaneref03_Signed.f a0 0 false).bind fun t401 => (some (t400, t401)))) else ((cutplaneref03_Split.f a0 a1_1).bind fun bt402 => ((cutplaneref03_Inf.f a0 false).bind fun t405 => ((cutplaneref03_Signed.f a0 0 bt402.1).bind fun t406 => (some (t405, t406))))))) else ((cutplaneref10_Canon.f k a0 a1_0 a1_1).bind fun bt397 => (some (bt397.1, bt397.2))))
set_option maxHeartbeats 2000000 in
set_option maxRecDepth 100000 in
theorem cutplaneref10_Proj.calls (k : Nat) (a0 : Int) (a1_0 : Int) (a1_1 : Int) (r1 : Int) (r2 : Int) (w : World) (h : cutplaneref10_Proj.f k a0 a1_0 a1_1 = some (r1, r2)) :
    Calls Try.prog 28 #[.int .u8 a0, .agg #[.int .u64 a1_0, .int .u64 a1_1]] w fun e w' => e = .returned (.agg #[.int .u64 r1, .int .u64 r2]) ∧ Below w.heap.size w w' := by
  have hfd84_0 : ∀ (v0_ v1_ v2_ : Value) (w : World), (Instr.field 84 (.agg #[v0_, v1_, v2_]) 0).run Try.prog w = .ok v0_ w := fun _ _ _ _ => by kernel_rfl
  have hu25 := Try.underlying25
  have HB := Aside0.mk (Below.refl w.heap.size w)
  have H : ((cutplaneref10_Class.f k a0 a1_0 a1_1).bind fun t396 => (if t396 = 3 then ((cutplaneref03_Class.f k a0 a1_1).bind fun t399 => (if t399 = 5 then ((cutplaneref03_Inf.f a0 false).bind fun t400 => ((cutplaneref03_Signed.f a0 0 false).bind fun t401 => (some (t400, t401)))) else ((cutplaneref03_Split.f a0 a1_1).bind fun bt402 => ((cutplaneref03_Inf.f a0 false).bind fun t405 => ((cutplaneref03_Signed.f a0 0 bt402.1).bind fun t406 => (some (t405, t406))))))) else ((cutplaneref10_Canon.f k a0 a1_0 a1_1).bind fun bt397 => (some (bt397.1, bt397.2))))) = some (r1, r2) := h
  clear h
  replace H := Option.bind_eq_some_iff.mp H
  obtain ⟨t396, A30, H⟩ := H
  replace H : (if t396 = 3 then ((cutplaneref03_Class.f k a0 a1_1).bind fun t399 => (if t399 = 5 then ((cutplaneref03_Inf.f a0 false).bind fun t400 => ((cutplaneref03_Signed.f a0 0 false).bind fun t401 => (some (t400, t401)))) else ((cutplaneref03_Split.f a0 a1_1).bind fun bt402 => ((cutplaneref03_Inf.f a0 false).bind fun t405 => ((cutplaneref03_Signed.f a0 0 bt402.1).bind fun t406 => (some (t405, t406))))))) else ((cutplaneref10_Canon.f k a0 a1_0 a1_1).bind fun bt397 => (some (bt397.1, bt397.2)))) = some (r1, r2) := H
  have A3 := Aside0.mk A30
  clear A30
  by_cases c4 : t396 = 3
  · rw [if_pos c4] at H
    have c4b0 : (t396 == 3) = true := beq_iff_eq.mpr c4
    have c4b1 : (t396 != 3) = false := bne_eq_false_iff_eq.mpr c4
    clear c4
    replace H := Option.bind_eq_some_iff.mp H
    obtain ⟨t399, A50, H⟩ := H
    replace H : (if t399 = 5 then ((cutplaneref03_Inf.f a0 false).bind fun t400 => ((cutplaneref03_Signed.f a0 0 false).bind fun t401 => (some (t400, t401)))) else ((cutplaneref03_Split.f a0 a1_1).bind fun bt402 => ((cutplaneref03_Inf.f a0 false).bind fun t405 => ((cutplaneref03_Signed.f a0 0 bt402.1).bind fun t406 => (some (t405, t406)))))) = some (r1, r2) := H
    have A5 := Aside0.mk A50
    clear A50
    by_cases c6 : t399 = 5
    · rw [if_pos c6] at H
      have c6b0 : (t399 == 5) = true := beq_iff_eq.mpr c6
      have c6b1 : (t399 != 5) = false := bne_eq_false_iff_eq.mpr c6
      clear c6
      replace H := Option.bind_eq_some_iff.mp H
      obtain ⟨t400, A70, H⟩ := H
      replace H : ((cutplaneref03_Signed.f a0 0 false).bind fun t401 => (some (t400, t401))) = some (r1, r2) := H
      have A7 := Aside0.mk A70
      clear A70
      replace H := Option.bind_eq_some_iff.mp H
      obtain ⟨t401, A80, H⟩ := H
      replace H : (some (t400, t401)) = some (r1, r2) := H
      have A8 := Aside0.mk A80
      clear A80
      simp only [Option.some.injEq, Prod.mk.injEq] at H
      obtain ⟨rfl, rfl⟩ := H
      go_enter Try.func28, Try.ntmps28
      go_wp2_with (first | ((with_reducible refine gate_dst (N := 3) rfl ?_); refine box_event ?hg (N := 3) ?hd (cs := #[.int .u64 a1_0, .int .u64 a1_1]) (t := 25) ?hr ?_; (case hd => rfl); (case hg => rfl); (case hr => first | (go_simp; done) | (go_simp; rfl)); intro gb394 hg w9 hbox hb; have n0_ := Aside0.mk (below_step (by repeat (first | (with_reducible first | exact HB.out | apply below_alloc | apply pw_below_drewN | apply below_drew1) | exact HB.out)) hb); have n1_ := Aside0.mk (hbox); have n2_ := Aside0.mk ((by rw [hg]; exact (below_size (by repeat (first | (with_reducible first | exact HB.out | apply below_alloc | apply pw_below_drewN | apply below_drew1) | exact HB.out))) : w.heap.size ≤ gb394)); have n3_ := Aside0.mk ((by rw [hg]; exact (below_size (by repeat (first | (with_reducible first | exact HB.out | apply below_alloc | apply pw_below_drewN | apply below_drew1) | exact HB.out))) : w.heap.size ≤ gb394)); clear HB; have HB := n0_; have BK394 := n1_; have GW394 := n2_; have GE394 := n3_; clear n0_ n1_ n2_ n3_; clear hb hbox hg) | ((with_reducible refine gate_dst (N := 4) rfl ?_); refine box_event ?hg (N := 4) ?hd (cs := #[.int .u64 0, .int .u64 0]) (t := 25) ?hr ?_; (case hd => rfl); (case hg => rfl); (case hr => first | (go_simp; done) | (go_simp; rfl)); intro gb395 hg w10 hbox hb; have n0_ := Aside0.mk (blk_below (g := gb394) (o := .cells #[.int .u64 a1_0, .int .u64 a1_1] 25 (0, 0)) (by (with_reducible repeat (first | refine blk_drewN ?_ _ | refine blk_drew ?_ | refine blk_alloc ?_ _)); exact BK394.out) hb); have n1_ := Aside0.mk (below_step (by repeat (first | (with_reducible first | exact HB.out | apply below_alloc | apply pw_below_drewN | apply below_drew1 | refine below_set ?_ GE394.out) | exact HB.out)) hb); have n2_ := Aside0.mk (hbox); have n3_ := Aside0.mk ((by rw [hg]; exact (below_size (by repeat (first | (with_reducible first | exact HB.out | apply below_alloc | apply pw_below_drewN | apply below_drew1 | refine below_set ?_ GE394.out) | exact HB.out))) : w.heap.size ≤ gb395)); have n4_ := Aside0.mk ((by rw [hg]; exact (below_size (by repeat (first | (with_reducible first | exact HB.out | apply below_alloc | apply pw_below_drewN | apply below_drew1 | refine below_set ?_ GE394.out) | exact HB.out))) : w.heap.size ≤ gb395)); have n5_ := Aside0.mk ((by rw [hg]; exact Nat.ne_of_lt (blk_lt (g := gb394) (o := .cells #[.int .u64 a1_0, .int .u64 a1_1] 25 (0, 0)) (by (with_reducible repeat (first | refine blk_drewN ?_ _ | refine blk_drew ?_ | refine blk_alloc ?_ _)); exact BK394.out)) : gb394 ≠ gb395)); have n6_ := Aside0.mk ((by rw [hg]; exact Nat.ne_of_gt (blk_lt (g := gb394) (o := .cells #[.int .u64 a1_0, .int .u64 a1_1] 25 (0, 0)) (by (with_reducible repeat (first | refine blk_drewN ?_ _ | refine blk_drew ?_ | refine blk_alloc ?_ _)); exact BK394.out)) : gb395 ≠ gb394)); clear BK394; clear HB; have BK394 := n0_; have HB := n1_; have BK395 := n2_; have GW395 := n3_; have GE395 := n4_; have NB394_395 := n5_; have NB395_394 := n6_; clear n0_ n1_ n2_ n3_ n4_ n5_ n6_; clear hb hbox hg; have hnb11 := NB394_395.out; have hnc11 := NB395_394.out; have hcz12_0 : w10.cell? ⟨gb394, 0, none⟩ = some (.int .u64 a1_0) := (blk_cell BK394.out 0).trans rfl; have hcz12_1 : w10.cell? ⟨gb394, 1, none⟩ = some (.int .u64 a1_1) := (blk_cell BK394.out 1).trans rfl; have hfz12_0 := blk_frozen BK394.out 0; have hfz12_1 := blk_frozen BK394.out 1) | ((with_reducible refine gate_callee (f := 26) rfl ?_); refine goesL_ (some 8) rfl rfl Try.func26 (by kernel_rfl) rfl #[.int .u8 a0, .agg #[.int .u64 a1_0, .int .u64 a1_1]] rfl (by (try simp only [List.map_toArray, List.map_cons, List.map_nil]); first | done | rfl | (simp only [List.length_drop, List.length_take]; rfl)) ?_; (with_reducible refine (cutplaneref10_Class.calls k a0 a1_0 a1_1 t396 _ A3.out).mono ?_); rintro e w13 ⟨rfl, hb⟩; refine ⟨_, rfl, ?_⟩; have n0_ := Aside0.mk (blk_below (g := gb394) (o := .cells #[.int .u64 a1_0, .int .u64 a1_1] 25 (0, 0)) (by (with_reducible repeat (first | refine blk_drewN ?_ _ | refine blk_drew ?_ | refine blk_alloc ?_ _)); exact BK394.out) hb); have n1_ := Aside0.mk (blk_below (g := gb395) (o := .cells #[.int .u64 0, .int .u64 0] 25 (0, 0)) (by (with_reducible repeat (first | refine blk_drewN ?_ _ | refine blk_drew ?_ | refine blk_alloc ?_ _)); exact BK395.out) hb); have n2_ := Aside0.mk (below_step (by repeat (first | (with_reducible first | exact HB.out | apply below_alloc | apply pw_below_drewN | apply below_drew1 | refine below_set ?_ GE394.out | refine below_set ?_ GE395.out) | exact HB.out)) hb); clear BK394; clear BK395; clear HB; have BK394 := n0_; have BK395 := n1_; have HB := n2_; clear n0_ n1_ n2_; (try clear hb); (try clear hb2); (try clear hk); (try clear hi); have hcz14_0 : w13.cell? ⟨gb394, 0, none⟩ = some (.int .u64 a1_0) := (blk_cell BK394.out 0).trans rfl; have hcz14_1 : w13.cell? ⟨gb394, 1, none⟩ = some (.int .u64 a1_1) := (blk_cell BK394.out 1).trans rfl; have hfz14_0 := blk_frozen BK394.out 0; have hfz14_1 := blk_frozen BK394.out 1) | ((with_reducible refine gate_callee (f := 41) rfl ?_); refine goesL_ (some 16) rfl rfl Try.func41 (by kernel_rfl) rfl #[.int .u8 a0, .int .u64 a1_1] rfl (by (try simp only [List.map_toArray, List.map_cons, List.map_nil]); first | done | rfl | (simp only [List.length_drop, List.length_take]; rfl)) ?_; (with_reducible refine (cutplaneref03_Class.calls k a0 a1_1 t399 _ A5.out).mono ?_); rintro e w15 ⟨rfl, hb⟩; refine ⟨_, rfl, ?_⟩; have n0_ := Aside0.mk (blk_below (g := gb394) (o := .cells #[.int .u64 a1_0, .int .u64 a1_1] 25 (0, 0)) (by (with_reducible repeat (first | refine blk_drewN ?_ _ | refine blk_drew ?_ | refine blk_alloc ?_ _)); exact BK394.out) hb); have n1_ := Aside0.mk (blk_below (g := gb395) (o := .cells #[.int .u64 0, .int .u64 0] 25 (0, 0)) (by (with_reducible repeat (first | refine blk_drewN ?_ _ | refine blk_drew ?_ | refine blk_alloc ?_ _)); exact BK395.out) hb); have n2_ := Aside0.mk (below_step (by repeat (first | (with_reducible first | exact HB.out | apply below_alloc | apply pw_below_drewN | apply below_drew1 | refine below_set ?_ GE394.out | refine below_set ?_ GE395.out) | exact HB.out)) hb); clear BK394; clear BK395; clear HB; have BK394 := n0_; have BK395 := n1_; have HB := n2_; clear n0_ n1_ n2_; (try clear hb); (try clear hb2); (try clear hk); (try clear hi)) | ((with_reducible refine gate_callee (f := 59) rfl ?_); refine goesL_ (some 26) rfl rfl Try.func59 (by kernel_rfl) rfl #[.int .u8 a0, .bool false] rfl (by (try simp only [List.map_toArray, List.map_cons, List.map_nil]); first | done | rfl | (simp only [List.length_drop, List.length_take]; rfl)) ?_; (with_reducible refine (cutplaneref03_Inf.calls a0 false t400 _ A7.out).mono ?_); rintro e w16 ⟨rfl, hb⟩; refine ⟨_, rfl, ?_⟩; have n0_ := Aside0.mk (blk_below (g := gb394) (o := .cells #[.int .u64 a1_0, .int .u64 a1_1] 25 (0, 0)) (by (with_reducible repeat (first | refine blk_drewN ?_ _ | refine blk_drew ?_ | refine blk_alloc ?_ _)); exact BK394.out) hb); have n1_ := Aside0.mk (blk_below (g := gb395) (o := .cells #[.int .u64 0, .int .u64 0] 25 (0, 0)) (by (with_reducible repeat (first | refine blk_drewN ?_ _ | refine blk_drew ?_ | refine blk_alloc ?_ _)); exact BK395.out) hb); have n2_ := Aside0.mk (below_step (by repeat (first | (with_reducible first | exact HB.out | apply below_alloc | apply pw_below_drewN | apply below_drew1 | refine below_set ?_ GE394.out | refine below_set ?_ GE395.out) | exact HB.out)) hb); clear BK394; clear BK395; clear HB; have BK394 := n0_; have BK395 := n1_; have HB := n2_; clear n0_ n1_ n2_; (try clear hb); (try clear hb2); (try clear hk); (try clear hi)) | ((with_reducible refine gate_callee (f := 60) rfl ?_); refine goesL_ (some 29) rfl rfl Try.func60 (by kernel_rfl) rfl #[.int .u8 a0, .int .u64 0, .bool false] rfl (by (try simp only [List.map_toArray, List.map_cons, List.map_nil]); first | done | rfl | (simp only [List.length_drop, List.length_take]; rfl)) ?_; (with_reducible refine (cutplaneref03_Signed.calls a0 0 false t401 _ A8.out).mono ?_); rintro e w' ⟨rfl, ⟨nd, rfl⟩⟩; refine ⟨_, rfl, ?_⟩; (try (rw [drewN_self w16]; generalize hq_ : World.drewN w16 _ = w16; have n0_ : Aside0 (w16.heap[gb394]? = some (.cells #[.int .u64 a1_0, .int .u64 a1_1] 25 (0, 0))) := ⟨by rw [← hq_]; exact (by (with_reducible repeat (first | refine blk_drewN ?_ _ | refine blk_drew ?_ | refine blk_alloc ?_ _)); exact BK394.out)⟩; have n1_ : Aside0 (w16.heap[gb395]? = some (.cells #[.int .u64 0, .int .u64 0] 25 (0, 0))) := ⟨by rw [← hq_]; exact (by (with_reducible repeat (first | refine blk_drewN ?_ _ | refine blk_drew ?_ | refine blk_alloc ?_ _)); exact BK395.out)⟩; have n2_ : Aside0 (Below w.heap.size w w16) := ⟨by rw [← hq_]; exact (by repeat (first | (with_reducible first | exact HB.out | apply below_alloc | apply pw_below_drewN | apply below_drew1 | refine below_set ?_ GE394.out | refine below_set ?_ GE395.out) | exact HB.out))⟩; clear BK394 BK395 HB hq_; have BK394 := n0_; have BK395 := n1_; have HB := n2_; clear n0_ n1_ n2_)); have hcz17_0 : w16.cell? ⟨gb395, 0, none⟩ = some (.int .u64 0) := (blk_cell BK395.out 0).trans rfl; have hcz17_1 : w16.cell? ⟨gb395, 1, none⟩ = some (.int .u64 0) := (blk_cell BK395.out 1).trans rfl; have hfz17_0 := blk_frozen BK395.out 0; have hfz17_1 := blk_frozen BK395.out 1))
      refine bodyPost_ret (results_cell_row rfl _ _ gb395 25 #[.int .u64 t400, .int .u64 t401] (0, 0) _ rfl (by (with_reducible repeat (first | refine blk_drewN ?_ _ | refine blk_drew ?_ | refine blk_alloc ?_ _)); refine blk_put (cs := #[.int .u64 t400, .int .u64 0]) ?_ 1 _ rfl; (with_reducible repeat (first | refine blk_drewN ?_ _ | refine blk_drew ?_ | refine blk_alloc ?_ _)); refine blk_put (cs := #[.int .u64 0, .int .u64 0]) ?_ 0 _ rfl; (with_reducible repeat (first | refine blk_drewN ?_ _ | refine blk_drew ?_ | refine blk_alloc ?_ _)); exact BK395.out) Try.underlying25 rfl (by kernel_rfl)) rfl ?_
      exact ⟨by first | rfl | (simp [errW_none, errW_some] <;> rfl) | (simp [*, errW_none, errW_some] <;> rfl), by repeat (first | (with_reducible first | exact HB.out | apply below_alloc | apply pw_below_drewN | apply below_drew1 | refine below_set ?_ GE394.out | refine below_set ?_ GE395.out) | exact HB.out)⟩
    · rw [if_neg c6] at H
      have c6b0 : (t399 == 5) = false := beq_eq_false_iff_ne.mpr c6
      have c6b1 : (t399 != 5) = true := bne_iff_ne.mpr c6
      replace H := Option.bind_eq_some_iff.mp H
      obtain ⟨⟨t402, t403, t404⟩, A180, H⟩ := H
      replace H : ((cutplaneref03_Inf.f a0 false).bind fun t405 => ((cutplaneref03_Signed.f a0 0 t402).bind fun t406 => (some (t405, t406)))) = some (r1, r2) := H
      have A18 := Aside0.mk A180
      clear A180
      replace H := Option.bind_eq_some_iff.mp H
      obtain ⟨t405, A190, H⟩ := H
      replace H : ((cutplaneref03_Signed.f a0 0 t402).bind fun t406 => (some (t405, t406))) = some (r1, r2) := H
      have A19 := Aside0.mk A190
      clear A190
      replace H := Option.bind_eq_some_iff.mp H
      obtain ⟨t406, A200, H⟩ := H
      replace H : (some (t405, t406)) = some (r1, r2) := H
      have A20 := Aside0.mk A200
      clear A200
      simp only [Option.some.injEq, Prod.mk.injEq] at H
      obtain ⟨rfl, rfl⟩ := H
      go_enter Try.func28, Try.ntmps28
      go_wp2_with (first | ((with_reducible refine gate_dst (N := 3) rfl ?_); refine box_event ?hg (N := 3) ?hd (cs := #[.int .u64 a1_0, .int .u64 a1_1]) (t := 25) ?hr ?_; (case hd => rfl); (case hg => rfl); (case hr => first | (go_simp; done) | (go_simp; rfl)); intro gb394 hg w21 hbox hb; have n0_ := Aside0.mk (below_step (by repeat (first | (with_reducible first | exact HB.out | apply below_alloc | apply pw_below_drewN | apply below_drew1) | exact HB.out)) hb); have n1_ := Aside0.mk (hbox); have n2_ := Aside0.mk ((by rw [hg]; exact (below_size (by repeat (first | (with_reducible first | exact HB.out | apply below_alloc | apply pw_below_drewN | apply below_drew1) | exact HB.out))) : w.heap.size ≤ gb394)); have n3_ := Aside0.mk ((by rw [hg]; exact (below_size (by repeat (first | (with_reducible first | exact HB.out | apply below_alloc | apply pw_below_drewN | apply below_drew1) | exact HB.out))) : w.heap.size ≤ gb394)); clear HB; have HB := n0_; have BK394 := n1_; have GW394 := n2_; have GE394 := n3_; clear n0_ n1_ n2_ n3_; clear hb hbox hg) | ((with_reducible refine gate_dst (N := 4) rfl ?_); refine box_event ?hg (N := 4) ?hd (cs := #[.int .u64 0, .int .u64 0]) (t := 25) ?hr ?_; (case hd => rfl); (case hg => rfl); (case hr => first | (go_simp; done) | (go_simp; rfl)); intro gb395 hg w22 hbox hb; have n0_ := Aside0.mk (blk_below (g := gb394) (o := .cells #[.int .u64 a1_0, .int .u64 a1_1] 25 (0, 0)) (by (with_reducible repeat (first | refine blk_drewN ?_ _ | refine blk_drew ?_ | refine blk_alloc ?_ _)); exact BK394.out) hb); have n1_ := Aside0.mk (below_step (by repeat (first | (with_reducible first | exact HB.out | apply below_alloc | apply pw_below_drewN | apply below_drew1 | refine below_set ?_ GE394.out) | exact HB.out)) hb); have n2_ := Aside0.mk (hbox); have n3_ := Aside0.mk ((by rw [hg]; exact (below_size (by repeat (first | (with_reducible first | exact HB.out | apply below_alloc | apply pw_below_drewN | apply below_drew1 | refine below_set ?_ GE394.out) | exact HB.out))) : w.heap.size ≤ gb395)); have n4_ := Aside0.mk ((by rw [hg]; exact (below_size (by repeat (first | (with_reducible first | exact HB.out | apply below_alloc | apply pw_below_drewN | apply below_drew1 | refine below_set ?_ GE394.out) | exact HB.out))) : w.heap.size ≤ gb395)); have n5_ := Aside0.mk ((by rw [hg]; exact Nat.ne_of_lt (blk_lt (g := gb394) (o := .cells #[.int .u64 a1_0, .int .u64 a1_1] 25 (0, 0)) (by (with_reducible repeat (first | refine blk_drewN ?_ _ | refine blk_drew ?_ | refine blk_alloc ?_ _)); exact BK394.out)) : gb394 ≠ gb395)); have n6_ := Aside0.mk ((by rw [hg]; exact Nat.ne_of_gt (blk_lt (g := gb394) (o := .cells #[.int .u64 a1_0, .int .u64 a1_1] 25 (0, 0)) (by (with_reducible repeat (first | refine blk_drewN ?_ _ | refine blk_drew ?_ | refine blk_alloc ?_ _)); exact BK394.out)) : gb395 ≠ gb394)); clear BK394; clear HB; have BK394 := n0_; have HB := n1_; have BK395 := n2_; have GW395 := n3_; have GE395 := n4_; have NB394_395 := n5_; have NB395_394 := n6_; clear n0_ n1_ n2_ n3_ n4_ n5_ n6_; clear hb hbox hg; have hnb23 := NB394_395.out; have hnc23 := NB395_394.out; have hcz24_0 : w22.cell? ⟨gb394, 0, none⟩ = some (.int .u64 a1_0) := (blk_cell BK394.out 0).trans rfl; have hcz24_1 : w22.cell? ⟨gb394, 1, none⟩ = some (.int .u64 a1_1) := (blk_cell BK394.out 1).trans rfl; have hfz24_0 := blk_frozen BK394.out 0; have hfz24_1 := blk_frozen BK394.out 1) | ((with_reducible refine gate_callee (f := 26) rfl ?_); refine goesL_ (some 8) rfl rfl Try.func26 (by kernel_rfl) rfl #[.int .u8 a0, .agg #[.int .u64 a1_0, .int .u64 a1_1]] rfl (by (try simp only [List.map_toArray, List.map_cons, List.map_nil]); first | done | rfl | (simp only [List.length_drop, List.length_take]; rfl)) ?_; (with_reducible refine (cutplaneref10_Class.calls k a0 a1_0 a1_1 t396 _ A3.out).mono ?_); rintro e w25 ⟨rfl, hb⟩; refine ⟨_, rfl, ?_⟩; have n0_ := Aside0.mk (blk_below (g := gb394) (o := .cells #[.int .u64 a1_0, .int .u64 a1_1] 25 (0, 0)) (by (with_reducible repeat (first | refine blk_drewN ?_ _ | refine blk_drew ?_ | refine blk_alloc ?_ _)); exact BK394.out) hb); have n1_ := Aside0.mk (blk_below (g := gb395) (o := .cells #[.int .u64 0, .int .u64 0] 25 (0, 0)) (by (with_reducible repeat (first | refine blk_drewN ?_ _ | refine blk_drew ?_ | refine blk_alloc ?_ _)); exact BK395.out) hb); have n2_ := Aside0.mk (below_step (by repeat (first | (with_reducible first | exact HB.out | apply below_alloc | apply pw_below_drewN | apply below_drew1 | refine below_set ?_ GE394.out | refine below_set ?_ GE395.out) | exact HB.out)) hb); clear BK394; clear BK395; clear HB; have BK394 := n0_; have BK395 := n1_; have HB := n2_; clear n0_ n1_ n2_; (try clear hb); (try clear hb2); (try clear hk); (try clear hi); have hcz26_0 : w25.cell? ⟨gb394, 0, none⟩ = some (.int .u64 a1_0) := (blk_cell BK394.out 0).trans rfl; have hcz26_1 : w25.cell? ⟨gb394, 1, none⟩ = some (.int .u64 a1_1) := (blk_cell BK394.out 1).trans rfl; have hfz26_0 := blk_frozen BK394.out 0; have hfz26_1 := blk_frozen BK394.out 1) | ((with_reducible refine gate_callee (f := 41) rfl ?_); refine goesL_ (some 16) rfl rfl Try.func41 (by kernel_rfl) rfl #[.int .u8 a0, .int .u64 a1_1] rfl (by (try simp only [List.map_toArray, List.map_cons, List.map_nil]); first | done | rfl | (simp only [List.length_drop, List.length_take]; rfl)) ?_; (with_reducible refine (cutplaneref03_Class.calls k a0 a1_1 t399 _ A5.out).mono ?_); rintro e w27 ⟨rfl, hb⟩; refine ⟨_, rfl, ?_⟩; have n0_ := Aside0.mk (blk_below (g := gb394) (o := .cells #[.int .u64 a1_0, .int .u64 a1_1] 25 (0, 0)) (by (with_reducible repeat (first | refine blk_drewN ?_ _ | refine blk_drew ?_ | refine blk_alloc ?_ _)); exact BK394.out) hb); have n1_ := Aside0.mk (blk_below (g := gb395) (o := .cells #[.int .u64 0, .int .u64 0] 25 (0, 0)) (by (with_reducible repeat (first | refine blk_drewN ?_ _ | refine blk_drew ?_ | refine blk_alloc ?_ _)); exact BK395.out) hb); have n2_ := Aside0.mk (below_step (by repeat (first | (with_reducible first | exact HB.out | apply below_alloc | apply pw_below_drewN | apply below_drew1 | refine below_set ?_ GE394.out | refine below_set ?_ GE395.out) | exact HB.out)) hb); clear BK394; clear BK395; clear HB; have BK394 := n0_; have BK395 := n1_; have HB := n2_; clear n0_ n1_ n2_; (try clear hb); (try clear hb2); (try clear hk); (try clear hi); have hcz28_0 : w27.cell? ⟨gb394, 0, none⟩ = some (.int .u64 a1_0) := (blk_cell BK394.out 0).trans rfl; have hcz28_1 : w27.cell? ⟨gb394, 1, none⟩ = some (.int .u64 a1_1) := (blk_cell BK394.out 1).trans rfl; have hfz28_0 := blk_frozen BK394.out 0; have hfz28_1 := blk_frozen BK394.out 1) | (go_at_call 58; (with_reducible refine (cutplaneref03_Split.calls a0 a1_1 t402 t403 t404 _ A18.out).mono ?_); rintro e w29 ⟨rfl, hb⟩; have n0_ := Aside0.mk (blk_below (g := gb394) (o := .cells #[.int .u64 a1_0, .int .u64 a1_1] 25 (0, 0)) (by (with_reducible repeat (first | refine blk_drewN ?_ _ | refine blk_drew ?_ | refine blk_alloc ?_ _)); exact BK394.out) hb); have n1_ := Aside0.mk (blk_below (g := gb395) (o := .cells #[.int .u64 0, .int .u64 0] 25 (0, 0)) (by (with_reducible repeat (first | refine blk_drewN ?_ _ | refine blk_drew ?_ | refine blk_alloc ?_ _)); exact BK395.out) hb); have n2_ := Aside0.mk (below_step (by repeat (first | (with_reducible first | exact HB.out | apply below_alloc | apply pw_below_drewN | apply below_drew1 | refine below_set ?_ GE394.out | refine below_set ?_ GE395.out) | exact HB.out)) hb); clear BK394; clear BK395; clear HB; have BK394 := n0_; have BK395 := n1_; have HB := n2_; clear n0_ n1_ n2_; (try clear hb); (try clear hb2); (try clear hk); (try clear hi)) | ((with_reducible refine gate_callee (f := 59) rfl ?_); refine goesL_ (some 26) rfl rfl Try.func59 (by kernel_rfl) rfl #[.int .u8 a0, .bool false] rfl (by (try simp only [List.map_toArray, List.map_cons, List.map_nil]); first | done | rfl | (simp only [List.length_drop, List.length_take]; rfl)) ?_; (with_reducible refine (cutplaneref03_Inf.calls a0 false t405 _ A19.out).mono ?_); rintro e w30 ⟨rfl, hb⟩; refine ⟨_, rfl, ?_⟩; have n0_ := Aside0.mk (blk_below (g := gb394) (o := .cells #[.int .u64 a1_0, .int .u64 a1_1] 25 (0, 0)) (by (with_reducible repeat (first | refine blk_drewN ?_ _ | refine blk_drew ?_ | refine blk_alloc ?_ _)); exact BK394.out) hb); have n1_ := Aside0.mk (blk_below (g := gb395) (o := .cells #[.int .u64 0, .int .u64 0] 25 (0, 0)) (by (with_reducible repeat (first | refine blk_drewN ?_ _ | refine blk_drew ?_ | refine blk_alloc ?_ _)); exact BK395.out) hb); have n2_ := Aside0.mk (below_step (by repeat (first | (with_reducible first | exact HB.out | apply below_alloc | apply pw_below_drewN | apply below_drew1 | refine below_set ?_ GE394.out | refine below_set ?_ GE395.out) | exact HB.out)) hb); clear BK394; clear BK395; clear HB; have BK394 := n0_; have BK395 := n1_; have HB := n2_; clear n0_ n1_ n2_; (try clear hb); (try clear hb2); (try clear hk); (try clear hi)) | ((with_reducible refine gate_callee (f := 60) rfl ?_); refine goesL_ (some 29) rfl rfl Try.func60 (by kernel_rfl) rfl #[.int .u8 a0, .int .u64 0, .bool t402] rfl (by (try simp only [List.map_toArray, List.map_cons, List.map_nil]); first | done | rfl | (simp only [List.length_drop, List.length_take]; rfl)) ?_; (with_reducible refine (cutplaneref03_Signed.calls a0 0 t402 t406 _ A20.out).mono ?_); rintro e w' ⟨rfl, ⟨nd, rfl⟩⟩; refine ⟨_, rfl, ?_⟩; (try (rw [drewN_self w30]; generalize hq_ : World.drewN w30 _ = w30; have n0_ : Aside0 (w30.heap[gb394]? = some (.cells #[.int .u64 a1_0, .int .u64 a1_1] 25 (0, 0))) := ⟨by rw [← hq_]; exact (by (with_reducible repeat (first | refine blk_drewN ?_ _ | refine blk_drew ?_ | refine blk_alloc ?_ _)); exact BK394.out)⟩; have n1_ : Aside0 (w30.heap[gb395]? = some (.cells #[.int .u64 0, .int .u64 0] 25 (0, 0))) := ⟨by rw [← hq_]; exact (by (with_reducible repeat (first | refine blk_drewN ?_ _ | refine blk_drew ?_ | refine blk_alloc ?_ _)); exact BK395.out)⟩; have n2_ : Aside0 (Below w.heap.size w w30) := ⟨by rw [← hq_]; exact (by repeat (first | (with_reducible first | exact HB.out | apply below_alloc | apply pw_below_drewN | apply below_drew1 | refine below_set ?_ GE394.out | refine below_set ?_ GE395.out) | exact HB.out))⟩; clear BK394 BK395 HB hq_; have BK394 := n0_; have BK395 := n1_; have HB := n2_; clear n0_ n1_ n2_)); have hcz31_0 : w30.cell? ⟨gb395, 0, none⟩ = some (.int .u64 0) := (blk_cell BK395.out 0).trans rfl; have hcz31_1 : w30.cell? ⟨gb395, 1, none⟩ = some (.int .u64 0) := (blk_cell BK395.out 1).trans rfl; have hfz31_0 := blk_frozen BK395.out 0; have hfz31_1 := blk_frozen BK395.out 1))
      refine bodyPost_ret (results_cell_row rfl _ _ gb395 25 #[.int .u64 t405, .int .u64 t406] (0, 0) _ rfl (by (with_reducible repeat (first | refine blk_drewN ?_ _ | refine blk_drew ?_ | refine blk_alloc ?_ _)); refine blk_put (cs := #[.int .u64 t405, .int .u64 0]) ?_ 1 _ rfl; (with_reducible repeat (first | refine blk_drewN ?_ _ | refine blk_drew ?_ | refine blk_alloc ?_ _)); refine blk_put (cs := #[.int .u64 0, .int .u64 0]) ?_ 0 _ rfl; (with_reducible repeat (first | refine blk_drewN ?_ _ | refine blk_drew ?_ | refine blk_alloc ?_ _)); exact BK395.out) Try.underlying25 rfl (by kernel_rfl)) rfl ?_
      exact ⟨by first | rfl | (simp [errW_none, errW_some] <;> rfl) | (simp [*, errW_none, errW_some] <;> rfl), by repeat (first | (with_reducible first | exact HB.out | apply below_alloc | apply pw_below_drewN | apply below_drew1 | refine below_set ?_ GE394.out | refine below_set ?_ GE395.out) | exact HB.out)⟩
  · rw [if_neg c4] at H
    have c4b0 : (t396 == 3) = false := beq_eq_false_iff_ne.mpr c4
    have c4b1 : (t396 != 3) = true := bne_iff_ne.mpr c4
    replace H := Option.bind_eq_some_iff.mp H
    obtain ⟨⟨t397, t398⟩, A320, H⟩ := H
    replace H : (some (t397, t398)) = some (r1, r2) := H
    have A32 := Aside0.mk A320
    clear A320
    simp only [Option.some.injEq, Prod.mk.injEq] at H
    obtain ⟨rfl, rfl⟩ := H
    go_enter Try.func28, Try.ntmps28
    go_wp2_with (first | ((with_reducible refine gate_dst (N := 3) rfl ?_); refine box_event ?hg (N := 3) ?hd (cs := #[.int .u64 a1_0, .int .u64 a1_1]) (t := 25) ?hr ?_; (case hd => rfl); (case hg => rfl); (case hr => first | (go_simp; done) | (go_simp; rfl)); intro gb394 hg w33 hbox hb; have n0_ := Aside0.mk (below_step (by repeat (first | (with_reducible first | exact HB.out | apply below_alloc | apply pw_below_drewN | apply below_drew1) | exact HB.out)) hb); have n1_ := Aside0.mk (hbox); have n2_ := Aside0.mk ((by rw [hg]; exact (below_size (by repeat (first | (with_reducible first | exact HB.out | apply below_alloc | apply pw_below_drewN | apply below_drew1) | exact HB.out))) : w.heap.size ≤ gb394)); have n3_ := Aside0.mk ((by rw [hg]; exact (below_size (by repeat (first | (with_reducible first | exact HB.out | apply below_alloc | apply pw_below_drewN | apply below_drew1) | exact HB.out))) : w.heap.size ≤ gb394)); clear HB; have HB := n0_; have BK394 := n1_; have GW394 := n2_; have GE394 := n3_; clear n0_ n1_ n2_ n3_; clear hb hbox hg) | ((with_reducible refine gate_dst (N := 4) rfl ?_); refine box_event ?hg (N := 4) ?hd (cs := #[.int .u64 0, .int .u64 0]) (t := 25) ?hr ?_; (case hd => rfl); (case hg => rfl); (case hr => first | (go_simp; done) | (go_simp; rfl)); intro gb395 hg w34 hbox hb; have n0_ := Aside0.mk (blk_below (g := gb394) (o := .cells #[.int .u64 a1_0, .int .u64 a1_1] 25 (0, 0)) (by (with_reducible repeat (first | refine blk_drewN ?_ _ | refine blk_drew ?_ | refine blk_alloc ?_ _)); exact BK394.out) hb); have n1_ := Aside0.mk (below_step (by repeat (first | (with_reducible first | exact HB.out | apply below_alloc | apply pw_below_drewN | apply below_drew1 | refine below_set ?_ GE394.out) | exact HB.out)) hb); have n2_ := Aside0.mk (hbox); have n3_ := Aside0.mk ((by rw [hg]; exact (below_size (by repeat (first | (with_reducible first | exact HB.out | apply below_alloc | apply pw_below_drewN | apply below_drew1 | refine below_set ?_ GE394.out) | exact HB.out))) : w.heap.size ≤ gb395)); have n4_ := Aside0.mk ((by rw [hg]; exact (below_size (by repeat (first | (with_reducible first | exact HB.out | apply below_alloc | apply pw_below_drewN | apply below_drew1 | refine below_set ?_ GE394.out) | exact HB.out))) : w.heap.size ≤ gb395)); have n5_ := Aside0.mk ((by rw [hg]; exact Nat.ne_of_lt (blk_lt (g := gb394) (o := .cells #[.int .u64 a1_0, .int .u64 a1_1] 25 (0, 0)) (by (with_reducible repeat (first | refine blk_drewN ?_ _ | refine blk_drew ?_ | refine blk_alloc ?_ _)); exact BK394.out)) : gb394 ≠ gb395)); have n6_ := Aside0.mk ((by rw [hg]; exact Nat.ne_of_gt (blk_lt (g := gb394) (o := .cells #[.int .u64 a1_0, .int .u64 a1_1] 25 (0, 0)) (by (with_reducible repeat (first | refine blk_drewN ?_ _ | refine blk_drew ?_ | refine blk_alloc ?_ _)); exact BK394.out)) : gb395 ≠ gb394)); clear BK394; clear HB; have BK394 := n0_; have HB := n1_; have BK395 := n2_; have GW395 := n3_; have GE395 := n4_; have NB394_395 := n5_; have NB395_394 := n6_; clear n0_ n1_ n2_ n3_ n4_ n5_ n6_; clear hb hbox hg; have hnb35 := NB394_395.out; have hnc35 := NB395_394.out; have hcz36_0 : w34.cell? ⟨gb394, 0, none⟩ = some (.int .u64 a1_0) := (blk_cell BK394.out 0).trans rfl; have hcz36_1 : w34.cell? ⟨gb394, 1, none⟩ = some (.int .u64 a1_1) := (blk_cell BK394.out 1).trans rfl; have hfz36_0 := blk_frozen BK394.out 0; have hfz36_1 := blk_frozen BK394.out 1) | ((with_reducible refine gate_callee (f := 26) rfl ?_); refine goesL_ (some 8) rfl rfl Try.func26 (by kernel_rfl) rfl #[.int .u8 a0, .agg #[.int .u64 a1_0, .int .u64 a1_1]] rfl (by (try simp only [List.map_toArray, List.map_cons, List.map_nil]); first | done | rfl | (simp only [List.length_drop, List.length_take]; rfl)) ?_; (with_reducible refine (cutplaneref10_Class.calls k a0 a1_0 a1_1 t396 _ A3.out).mono ?_); rintro e w37 ⟨rfl, hb⟩; refine ⟨_, rfl, ?_⟩; have n0_ := Aside0.mk (blk_below (g := gb394) (o := .cells #[.int .u64 a1_0, .int .u64 a1_1] 25 (0, 0)) (by (with_reducible repeat (first | refine blk_drewN ?_ _ | refine blk_drew ?_ | refine blk_alloc ?_ _)); exact BK394.out) hb); have n1_ := Aside0.mk (blk_below (g := gb395) (o := .cells #[.int .u64 0, .int .u64 0] 25 (0, 0)) (by (with_reducible repeat (first | refine blk_drewN ?_ _ | refine blk_drew ?_ | refine blk_alloc ?_ _)); exact BK395.out) hb); have n2_ := Aside0.mk (below_step (by repeat (first | (with_reducible first | exact HB.out | apply below_alloc | apply pw_below_drewN | apply below_drew1 | refine below_set ?_ GE394.out | refine below_set ?_ GE395.out) | exact HB.out)) hb); clear BK394; clear BK395; clear HB; have BK394 := n0_; have BK395 := n1_; have HB := n2_; clear n0_ n1_ n2_; (try clear hb); (try clear hb2); (try clear hk); (try clear hi); have hcz38_0 : w37.cell? ⟨gb394, 0, none⟩ = some (.int .u64 a1_0) := (blk_cell BK394.out 0).trans rfl; have hcz38_1 : w37.cell? ⟨gb394, 1, none⟩ = some (.int .u64 a1_1) := (blk_cell BK394.out 1).trans rfl; have hfz38_0 := blk_frozen BK394.out 0; have hfz38_1 := blk_frozen BK394.out 1) | ((with_reducible refine gate_callee (f := 20) rfl ?_); refine goesL_ (some 12) rfl rfl Try.func20 (by kernel_rfl) rfl #[.int .u8 a0, .agg #[.int .u64 a1_0, .int .u64 a1_1]] rfl (by (try simp only [List.map_toArray, List.map_cons, List.map_nil]); first | done | rfl | (simp only [List.length_drop, List.length_take]; rfl)) ?_; (with_reducible refine (cutplaneref10_Canon.calls k a0 a1_0 a1_1 t397 t398 _ A32.out).mono ?_); rintro e w39 ⟨rfl, hb⟩; refine ⟨_, rfl, ?_⟩; have n0_ := Aside0.mk (blk_below (g := gb394) (o := .cells #[.int .u64 a1_0, .int .u64 a1_1] 25 (0, 0)) (by (with_reducible repeat (first | refine blk_drewN ?_ _ | refine blk_drew ?_ | refine blk_alloc ?_ _)); exact BK394.out) hb); have n1_ := Aside0.mk (blk_below (g := gb395) (o := .cells #[.int .u64 0, .int .u64 0] 25 (0, 0)) (by (with_reducible repeat (first | refine blk_drewN ?_ _ | refine blk_drew ?_ | refine blk_alloc ?_ _)); exact BK395.out) hb); have n2_ := Aside0.mk (below_step (by repeat (first | (with_reducible first | exact HB.out | apply below_alloc | apply pw_below_drewN | apply below_drew1 | refine below_set ?_ GE394.out | refine below_set ?_ GE395.out) | exact HB.out)) hb); clear BK394; clear BK395; clear HB; have BK394 := n0_; have BK395 := n1_; have HB := n2_; clear n0_ n1_ n2_; (try clear hb); (try clear hb2); (try clear hk); (try clear hi); have hcz40_0 : w39.cell? ⟨gb395, 0, none⟩ = some (.int .u64 0) := (blk_cell BK395.out 0).trans rfl; have hcz40_1 : w39.cell? ⟨gb395, 1, none⟩ = some (.int .u64 0) := (blk_cell BK395.out 1).trans rfl; have hfz40_0 := blk_frozen BK395.out 0; have hfz40_1 := blk_frozen BK395.out 1))
    refine bodyPost_ret (results_cell_row rfl _ _ gb395 25 #[.int .u64 t397, .int .u64 t398] (0, 0) _ rfl (by (with_reducible repeat (first | refine blk_drewN ?_ _ | refine blk_drew ?_ | refine blk_alloc ?_ _)); refine blk_put (cs := #[.int .u64 t397, .int .u64 0]) ?_ 1 _ rfl; (with_reducible repeat (first | refine blk_drewN ?_ _ | refine blk_drew ?_ | refine blk_alloc ?_ _)); refine blk_put (cs := #[.int .u64 0, .int .u64 0]) ?_ 0 _ rfl; (with_reducible repeat (first | refine blk_drewN ?_ _ | refine blk_drew ?_ | refine blk_alloc ?_ _)); exact BK395.out) Try.underlying25 rfl (by kernel_rfl)) rfl ?_
    exact ⟨by first | rfl | (simp [errW_none, errW_some] <;> rfl) | (simp [*, errW_none, errW_some] <;> rfl), by repeat (first | (with_reducible first | exact HB.out | apply below_alloc | apply pw_below_drewN | apply below_drew1 | refine below_set ?_ GE394.out | refine below_set ?_ GE395.out) | exact HB.out)⟩
end Go.Proofs.Ytgaabjjenlbmhaa.PA
end

section
namespace Go.Proofs.Ytgaabjjenlbmhaa.PA
open Go.RowKit Go.Proofs.YtgaabjjenlbmhaaW.PrintWords Go.Proofs.YtgaabjjenlbmhaaW.PrintLast Go.Proofs.YtgaabjjenlbmhaaW.PrintMore
attribute [local go_sem] max2_int min2_int max_two min_two max_three min_three max_four min_four   -- for this text's walks alone
set_option linter.unusedVariables false
set_option linter.unusedSimpArgs false
def cutplanelaw10_PairProjects.f (k : Nat) (a0 : Int) (a1_0 : Int) (a1_1 : Int) : Option (Bool) := (cutplaneref10_Good.f k a0 (([(⟨a1_0, a1_1⟩ : S25)] : List (S25)))).bind fun t411 => ((pair_Proj.f k a0 a1_0 a1_1).bind fun bt412 => (if t411 = 0 then ((cutplaneref10_Proj.f k a0 a1_0 a1_1).bind fun bt416 => ((cutplanelaw10_is.f bt412.1 bt412.2.1 bt412.2.2 bt416.1 bt416.2 t411).bind fun t418 => (if t418 = true then ((cutplanelaw10_known.f k).bind fun t419 => (some t419)) else (none)))) else ((cutplanelaw10_is.f bt412.1 bt412.2.1 bt412.2.2 bt412.1 bt412.2.1 t411).bind fun t420 => (if t420 = true then ((cutplanelaw10_known.f k).bind fun t421 => (some t421)) else (none)))))
def cutplanelaw10_PairProjects.T5 : Bool × List (List Nat × List Nat) := (true, [([], []), ([], []), ([], []), ([], []), ([2, 3], [2, 3]), ([], []), ([0, 1, 4, 5, 4], [0, 1, 4, 5]), ([6, 6], [6]), ([7, 7], [7]), ([7, 8], [7, 8]), ([9, 8, 0, 1, 2, 3, 4, 5, 6, 7, 8, 9], [9])])
def cutplanelaw10_PairProjects.B5 : List Nat := [0, 0, 0, 0, 12, 0, 63, 127, 255, 511, 1023]
theorem cutplanelaw10_PairProjects.tab5 : rtab .any (opsOf Try.f6 5) = cutplanelaw10_PairProjects.T5 := by kernel_rfl
theorem cutplanelaw10_PairProjects.bits5 : waitsOk cutplanelaw10_PairProjects.T5.2 cutplanelaw10_PairProjects.B5 = true := by kernel_rfl
set_option maxHeartbeats 2000000 in
set_option maxRecDepth 100000 in
theorem cutplanelaw10_PairProjects.calls (k : Nat) (a0 : Int) (a1_0 : Int) (a1_1 : Int) (r : Bool) (w : World) (h : cutplanelaw10_PairProjects.f k a0 a1_0 a1_1 = some r) :
    Calls Try.prog 6 #[.int .u8 a0, .agg #[.int .u64 a1_0, .int .u64 a1_1]] w fun e w' => e = .returned (.bool r) ∧ Below w.heap.size w w' := by
  have hu25 := Try.underlying25
  have HB := Aside0.mk (Below.refl w.heap.size w)
  have H : ((cutplaneref10_Good.f k a0 (([(⟨a1_0, a1_1⟩ : S25)] : List (S25)))).bind fun t411 => ((pair_Proj.f k a0 a1_0 a1_1).bind fun bt412 => (if t411 = 0 then ((cutplaneref10_Proj.f k a0 a1_0 a1_1).bind fun bt416 => ((cutplanelaw10_is.f bt412.1 bt412.2.1 bt412.2.2 bt416.1 bt416.2 t411).bind fun t418 => (if t418 = true then ((cutplanelaw10_known.f k).bind fun t419 => (some t419)) else (none)))) else ((cutplanelaw10_is.f bt412.1 bt412.2.1 bt412.2.2 bt412.1 bt412.2.1 t411).bind fun t420 => (if t420 = true then ((cutplanelaw10_known.f k).bind fun t421 => (some t421)) else (none)))))) = some r := h
  clear h
  obtain ⟨y408, hy408⟩ : ∃ y_ : List (S25), y_ = (([(⟨a1_0, a1_1⟩ : S25)] : List (S25))) := ⟨_, rfl⟩
  replace H : ((cutplaneref10_Good.f k a0 y408).bind fun t411 => ((pair_Proj.f k a0 a1_0 a1_1).bind fun bt412 => (if t411 = 0 then ((cutplaneref10_Proj.f k a0 a1_0 a1_1).bind fun bt416 => ((cutplanelaw10_is.f bt412.1 bt412.2.1 bt412.2.2 bt416.1 bt416.2 t411).bind fun t418 => (if t418 = true then ((cutplanelaw10_known.f k).bind fun t419 => (some t419)) else (none)))) else ((cutplanelaw10_is.f bt412.1 bt412.2.1 bt412.2.2 bt412.1 bt412.2.1 t411).bind fun t420 => (if t420 = true then ((cutplanelaw10_known.f k).bind fun t421 => (some t421)) else (none)))))) = some r := by first | (rw [hy408]; with_reducible exact H) | (have H2_ := (Option.bind_some _ _).symm.trans H; rw [hy408]; with_reducible exact H2_) | (have H2_ := (Option.bind_some _ _).symm.trans H; with_reducible exact H2_) | with_reducible exact H | (rw [hy408]; exact H) | exact H
  have Ny408 := Aside0.mk hy408
  clear hy408
  replace H := Option.bind_eq_some_iff.mp H
  obtain ⟨t411, A30, H⟩ := H
  replace H : ((pair_Proj.f k a0 a1_0 a1_1).bind fun bt412 => (if t411 = 0 then ((cutplaneref10_Proj.f k a0 a1_0 a1_1).bind fun bt416 => ((cutplanelaw10_is.f bt412.1 bt412.2.1 bt412.2.2 bt416.1 bt416.2 t411).bind fun t418 => (if t418 = true then ((cutplanelaw10_known.f k).bind fun t419 => (some t419)) else (none)))) else ((cutplanelaw10_is.f bt412.1 bt412.2.1 bt412.2.2 bt412.1 bt412.2.1 t411).bind fun t420 => (if t420 = true then ((cutplanelaw10_known.f k).bind fun t421 => (some t421)) else (none))))) = some r := H
  have A3 := Aside0.mk A30
  clear A30
  replace H := Option.bind_eq_some_iff.mp H
  obtain ⟨⟨t412, t413, t414⟩, A40, H⟩ := H
  replace H : (if t411 = 0 then ((cutplaneref10_Proj.f k a0 a1_0 a1_1).bind fun bt416 => ((cutplanelaw10_is.f t412 t413 t414 bt416.1 bt416.2 t411).bind fun t418 => (if t418 = true then ((cutplanelaw10_known.f k).bind fun t419 => (some t419)) else (none)))) else ((cutplanelaw10_is.f t412 t413 t414 t412 t413 t411).bind fun t420 => (if t420 = true then ((cutplanelaw10_known.f k).bind fun t421 => (some t421)) else (none)))) = some r := H
  have A4 := Aside0.mk A40
  clear A40
  by_cases c5 : t411 = 0
  · rw [if_pos c5] at H
    have c5b0 : (t411 == 0) = true := beq_iff_eq.mpr c5
    have c5b1 : (t411 != 0) = false := bne_eq_false_iff_eq.mpr c5
    clear c5
    replace H := Option.bind_eq_some_iff.mp H
    obtain ⟨⟨t416, t417⟩, A60, H⟩ := H
    replace H : ((cutplanelaw10_is.f t412 t413 t414 t416 t417 t411).bind fun t418 => (if t418 = true then ((cutplanelaw10_known.f k).bind fun t419 => (some t419)) else (none))) = some r := H
    have A6 := Aside0.mk A60
    clear A60
    replace H := Option.bind_eq_some_iff.mp H
    obtain ⟨t418, A70, H⟩ := H
    replace H : (if t418 = true then ((cutplanelaw10_known.f k).bind fun t419 => (some t419)) else (none)) = some r := H
    have A7 := Aside0.mk A70
    clear A70
    by_cases c8 : t418 = true
    · subst c8
      have H1 : ((cutplanelaw10_known.f k).bind fun t419 => (some t419)) = some r := by rw [if_pos rfl] at H; exact H
      clear H
      have H := H1
      clear H1
      replace H := Option.bind_eq_some_iff.mp H
      obtain ⟨t419, A90, H⟩ := H
      replace H : (some t419) = some r := H
      have A9 := Aside0.mk A90
      clear A90
      obtain rfl := Option.some.inj H
      go_enter Try.func6, Try.ntmps6
      try go_wp2_with (first | ((with_reducible refine gate_dst (N := 3) rfl ?_); refine box_event ?hg (N := 3) ?hd (cs := #[.int .u64 a1_0, .int .u64 a1_1]) (t := 25) ?hr ?_; (case hd => rfl); (case hg => rfl); (case hr => first | (go_simp; done) | (go_simp; rfl)); intro gb407 hg w10 hbox hb; have n0_ := Aside0.mk (below_step (by repeat (first | (with_reducible first | exact HB.out | apply below_alloc | apply pw_below_drewN | apply below_drew1) | exact HB.out)) hb); have n1_ := Aside0.mk (hbox); have n2_ := Aside0.mk ((by rw [hg]; exact (below_size (by repeat (first | (with_reducible first | exact HB.out | apply below_alloc | apply pw_below_drewN | apply below_drew1) | exact HB.out))) : w.heap.size ≤ gb407)); have n3_ := Aside0.mk ((by rw [hg]; exact (below_size (by repeat (first | (with_reducible first | exact HB.out | apply below_alloc | apply pw_below_drewN | apply below_drew1) | exact HB.out))) : w.heap.size ≤ gb407)); clear HB; have HB := n0_; have BK407 := n1_; have GW407 := n2_; have GE407 := n3_; clear n0_ n1_ n2_ n3_; clear hb hbox hg; have hcz11_0 : w10.cell? ⟨gb407, 0, none⟩ = some (.int .u64 a1_0) := (blk_cell BK407.out 0).trans rfl; have hcz11_1 : w10.cell? ⟨gb407, 1, none⟩ = some (.int .u64 a1_1) := (blk_cell BK407.out 1).trans rfl; have hfz11_0 := blk_frozen BK407.out 0; have hfz11_1 := blk_frozen BK407.out 1) | ((with_reducible refine gate_dst (N := 10) rfl ?_); refine Kd.R_lit k25 _ 25 ?hg (N := 10) ?hd (xs := ([(⟨a1_0, a1_1⟩ : S25)] : List (S25))) (inner := [.int .u64 a1_0, .int .u64 a1_1]) (ok := fun _ => True) (okp := fun _ => True) ?hr ?hp (fun _ hk => hk) trivial (Below.refl _ _) (Nat.le_refl _) (by simp) ?_; (case hd => rfl); (case hg => rfl); (case hr => first | (go_simp; done) | (go_simp; rfl)); (case hp => exact (Reps.c2 (show Kd.M k25 _ _ _ (⟨a1_0, a1_1⟩ : S25) [.int .u64 a1_0, .int .u64 a1_1] from (k25_mkM _ _ _ (⟨a1_0, a1_1⟩ : S25) )) (Reps.none _ _))); intro v409 w12 ho13 hb hg_ hnew_; clear hg_ hnew_; (first | rw [← Ny408.out] at ho13 | (simp only [Int.reduceToNat] at ho13; rw [← Ny408.out] at ho13)); have n0_ := Aside0.mk (Kd.R_lower (Kd.R_newB ho13 (g := gb407) (o := .cells #[.int .u64 a1_0, .int .u64 a1_1] 25 (0, 0)) (by (with_reducible repeat (first | refine blk_drewN ?_ _ | refine blk_drew ?_ | refine blk_alloc ?_ _)); exact BK407.out)) (below_size (by repeat (first | (with_reducible first | exact HB.out | apply below_alloc | apply pw_below_drewN | apply below_drew1 | refine below_set ?_ GE407.out) | exact HB.out)))); have n1_ := Aside0.mk (blk_below (g := gb407) (o := .cells #[.int .u64 a1_0, .int .u64 a1_1] 25 (0, 0)) (by (with_reducible repeat (first | refine blk_drewN ?_ _ | refine blk_drew ?_ | refine blk_alloc ?_ _)); exact BK407.out) hb); have n2_ := Aside0.mk (below_step (by repeat (first | (with_reducible first | exact HB.out | apply below_alloc | apply pw_below_drewN | apply below_drew1 | refine below_set ?_ GE407.out) | exact HB.out)) hb); clear BK407; clear HB; have HO410 := n0_; have BK407 := n1_; have HB := n2_; clear n0_ n1_ n2_; clear hb ho13; obtain ⟨Ao14, co14, eo14⟩ := Kd.R_slice HO410.out; subst eo14) | ((with_reducible refine gate_callee (f := 12) rfl ?_); refine goesL_ (some 11) rfl rfl Try.func12 (by kernel_rfl) rfl #[.int .u8 a0, .slice Ao14 y408.length co14] rfl (by (try simp only [List.map_toArray, List.map_cons, List.map_nil]); first | done | rfl | (simp only [List.length_drop, List.length_take]; rfl)) ?_; (with_reducible refine (cutplaneref10_Good.calls k a0 _ _ y408 t411 _ ?side1 ?side2 A3.out).mono ?_); (case side1 => repeat (first | exact (Kd.R_reads' HO410.out).2.2 | (with_reducible refine Kd.C_alloc ?_ _) | (with_reducible refine Kd.C_drewN ?_ _) | (with_reducible refine Kd.C_drew ?_))); (case side2 => exact (Kd.R_reads' HO410.out).2.1); rintro e w' ⟨rfl, ⟨nd, rfl⟩⟩; refine ⟨_, rfl, ?_⟩; (try (rw [drewN_self w12]; generalize hq_ : World.drewN w12 _ = w12; have n0_ : Aside0 (Kd.R k25 25 w12 w.heap.size (fun k_ => k_ ≠ gb407) (.slice Ao14 y408.length co14) y408) := ⟨by rw [← hq_]; exact (by (with_reducible repeat (first | apply Kd.R_alloc | apply Kd.R_drewN | apply Kd.R_drew)); exact Kd.R_mono HO410.out (fun _ hk => hk.2))⟩; have n1_ : Aside0 (w12.heap[gb407]? = some (.cells #[.int .u64 a1_0, .int .u64 a1_1] 25 (0, 0))) := ⟨by rw [← hq_]; exact (by (with_reducible repeat (first | refine blk_drewN ?_ _ | refine blk_drew ?_ | refine blk_alloc ?_ _)); exact BK407.out)⟩; have n2_ : Aside0 (Below w.heap.size w w12) := ⟨by rw [← hq_]; exact (by repeat (first | (with_reducible first | exact HB.out | apply below_alloc | apply pw_below_drewN | apply below_drew1 | refine below_set ?_ GE407.out) | exact HB.out))⟩; clear HO410 BK407 HB hq_; have HO410 := n0_; have BK407 := n1_; have HB := n2_; clear n0_ n1_ n2_)); have hcz15_0 : w12.cell? ⟨gb407, 0, none⟩ = some (.int .u64 a1_0) := (blk_cell BK407.out 0).trans rfl; have hcz15_1 : w12.cell? ⟨gb407, 1, none⟩ = some (.int .u64 a1_1) := (blk_cell BK407.out 1).trans rfl; have hfz15_0 := blk_frozen BK407.out 0; have hfz15_1 := blk_frozen BK407.out 1) | ((with_reducible refine gate_callee (f := 27) rfl ?_); refine goesL_ (some 15) rfl rfl Try.func27 (by kernel_rfl) rfl #[.int .u8 a0, .agg #[.int .u64 a1_0, .int .u64 a1_1]] rfl (by (try simp only [List.map_toArray, List.map_cons, List.map_nil]); first | done | rfl | (simp only [List.length_drop, List.length_take]; rfl)) ?_; (with_reducible refine (pair_Proj.calls k a0 a1_0 a1_1 t412 t413 t414 _ A4.out).mono ?_); rintro e w16 ⟨rfl, hb⟩; refine ⟨_, rfl, ?_⟩; have n0_ := Aside0.mk (Kd.R_below (by (with_reducible repeat (first | apply Kd.R_alloc | apply Kd.R_drewN | apply Kd.R_drew)); exact HO410.out) hb); have n1_ := Aside0.mk (blk_below (g := gb407) (o := .cells #[.int .u64 a1_0, .int .u64 a1_1] 25 (0, 0)) (by (with_reducible repeat (first | refine blk_drewN ?_ _ | refine blk_drew ?_ | refine blk_alloc ?_ _)); exact BK407.out) hb); have n2_ := Aside0.mk (below_step (by repeat (first | (with_reducible first | exact HB.out | apply below_alloc | apply pw_below_drewN | apply below_drew1 | refine below_set ?_ GE407.out) | exact HB.out)) hb); clear HO410; clear BK407; clear HB; have HO410 := n0_; have BK407 := n1_; have HB := n2_; clear n0_ n1_ n2_; (try clear hb); (try clear hb2); (try clear hk); (try clear hi)) | ((with_reducible refine gate_dst (N := 6) rfl ?_); refine box_event ?hg (N := 6) ?hd (cs := #[.int .u64 0, .int .u64 0]) (t := 25) ?hr ?_; (case hd => rfl); (case hg => rfl); (case hr => first | (go_simp; done) | (go_simp; rfl)); intro gb415 hg w17 hbox hb; have n0_ := Aside0.mk (Kd.R_below (Kd.R_elderB (by (with_reducible repeat (first | apply Kd.R_alloc | apply Kd.R_drewN | apply Kd.R_drew)); exact HO410.out) gb415 (Nat.le_of_eq hg.symm)) hb); have n1_ := Aside0.mk (blk_below (g := gb407) (o := .cells #[.int .u64 a1_0, .int .u64 a1_1] 25 (0, 0)) (by (with_reducible repeat (first | refine blk_drewN ?_ _ | refine blk_drew ?_ | refine blk_alloc ?_ _)); exact BK407.out) hb); have n2_ := Aside0.mk (below_step (by repeat (first | (with_reducible first | exact HB.out | apply below_alloc | apply pw_below_drewN | apply below_drew1 | refine below_set ?_ GE407.out) | exact HB.out)) hb); have n3_ := Aside0.mk (hbox); have n4_ := Aside0.mk ((by rw [hg]; exact (below_size (by repeat (first | (with_reducible first | exact HB.out | apply below_alloc | apply pw_below_drewN | apply below_drew1 | refine below_set ?_ GE407.out) | exact HB.out))) : w.heap.size ≤ gb415)); have n5_ := Aside0.mk ((by rw [hg]; exact (below_size (by repeat (first | (with_reducible first | exact HB.out | apply below_alloc | apply pw_below_drewN | apply below_drew1 | refine below_set ?_ GE407.out) | exact HB.out))) : w.heap.size ≤ gb415)); have n6_ := Aside0.mk ((by rw [hg]; exact Nat.ne_of_lt (blk_lt (g := gb407) (o := .cells #[.int .u64 a1_0, .int .u64 a1_1] 25 (0, 0)) (by (with_reducible repeat (first | refine blk_drewN ?_ _ | refine blk_drew ?_ | refine blk_alloc ?_ _)); exact BK407.out)) : gb407 ≠ gb415)); have n7_ := Aside0.mk ((by rw [hg]; exact Nat.ne_of_gt (blk_lt (g := gb407) (o := .cells #[.int .u64 a1_0, .int .u64 a1_1] 25 (0, 0)) (by (with_reducible repeat (first | refine blk_drewN ?_ _ | refine blk_drew ?_ | refine blk_alloc ?_ _)); exact BK407.out)) : gb415 ≠ gb407)); clear HO410; clear BK407; clear HB; have HO410 := n0_; have BK407 := n1_; have HB := n2_; have BK415 := n3_; have GW415 := n4_; have GE415 := n5_; have NB407_415 := n6_; have NB415_407 := n7_; clear n0_ n1_ n2_ n3_ n4_ n5_ n6_ n7_; clear hb hbox hg; have hnb18 := NB415_407.out; have hnc18 := NB407_415.out; have hcz19_0 : w17.cell? ⟨gb415, 0, none⟩ = some (.int .u64 0) := (blk_cell BK415.out 0).trans rfl; have hcz19_1 : w17.cell? ⟨gb415, 1, none⟩ = some (.int .u64 0) := (blk_cell BK415.out 1).trans rfl; have hfz19_0 := blk_frozen BK415.out 0; have hfz19_1 := blk_frozen BK415.out 1))
      have n0_ : Aside0 (Kd.R k25 25 ((w17.setCell ⟨gb415, 0, none⟩ (.int .u64 t412)).setCell ⟨gb415, 1, none⟩ (.int .u64 t413)) w.heap.size (fun k_ => k_ ≠ gb407 ∧ k_ ≠ gb415) (.slice Ao14 y408.length co14) y408) := ⟨by (with_reducible repeat (first | apply Kd.R_alloc | apply Kd.R_drewN | apply Kd.R_drew)); exact Kd.R_mono (Kd.R_far (p := ⟨gb415, 1, none⟩) (Kd.R_far (p := ⟨gb415, 0, none⟩) (Kd.R_mono HO410.out (fun k_ hk => (⟨hk, hk.2⟩ : _ ∧ k_ ≠ gb415))) (fun _ hk => hk.2) (.int .u64 t412)) (fun _ hk => hk.2) (.int .u64 t413)) (fun _ hk => by first | exact ⟨hk.1.1.2, hk.1.2⟩ | (refine ⟨?_, ?_⟩ <;> first | exact hk.1 | exact hk.2 | exact hk.1.1 | exact hk.1.2 | exact hk.2.1 | exact hk.2.2 | exact hk.1.1.1 | exact hk.1.1.2 | exact hk.1.2.1 | exact hk.1.2.2 | exact hk.2.1.1 | exact hk.2.1.2 | exact hk.2.2.1 | exact hk.2.2.2 | exact hk.1.1.1.1 | exact hk.1.1.1.2 | exact hk.1.1.2.1 | exact hk.1.1.2.2 | exact hk.1.2.1.1 | exact hk.1.2.1.2 | exact hk.1.2.2.1 | exact hk.1.2.2.2 | exact hk.2.1.1.1 | exact hk.2.1.1.2 | exact hk.2.1.2.1 | exact hk.2.1.2.2 | exact hk.2.2.1.1 | exact hk.2.2.1.2 | exact hk.2.2.2.1 | exact hk.2.2.2.2 | exact hk.1.1.1.1.1 | exact hk.1.1.1.1.2 | exact hk.1.1.1.1.1.1 | exact hk.1.1.1.1.1.2 | exact hk.1.1.1.1.1.1.1 | exact hk.1.1.1.1.1.1.2 | exact hk.1.1.1.1.1.1.1.1 | exact hk.1.1.1.1.1.1.1.2 | exact hk.1.1.1.1.1.1.1.1.1 | exact hk.1.1.1.1.1.1.1.1.2 | exact hk.1.1.1.1.1.1.1.1.1.1 | exact hk.1.1.1.1.1.1.1.1.1.2 | exact hk.1.1.1.1.1.1.1.1.1.1.1 | exact hk.1.1.1.1.1.1.1.1.1.1.2 | exact hk.1.1.1.1.1.1.1.1.1.1.1.1 | exact hk.1.1.1.1.1.1.1.1.1.1.1.2))⟩
      have n1_ : Aside0 (((w17.setCell ⟨gb415, 0, none⟩ (.int .u64 t412)).setCell ⟨gb415, 1, none⟩ (.int .u64 t413)).heap[gb407]? = some (.cells #[.int .u64 a1_0, .int .u64 a1_1] 25 (0, 0))) := ⟨by (with_reducible repeat (first | refine blk_drewN ?_ _ | refine blk_drew ?_ | refine blk_alloc ?_ _)); refine blk_far ?_ NB407_415.out _; (with_reducible repeat (first | refine blk_drewN ?_ _ | refine blk_drew ?_ | refine blk_alloc ?_ _)); refine blk_far ?_ NB407_415.out _; (with_reducible repeat (first | refine blk_drewN ?_ _ | refine blk_drew ?_ | refine blk_alloc ?_ _)); exact BK407.out⟩
      have n2_ : Aside0 (((w17.setCell ⟨gb415, 0, none⟩ (.int .u64 t412)).setCell ⟨gb415, 1, none⟩ (.int .u64 t413)).heap[gb415]? = some (.cells #[.int .u64 t412, .int .u64 t413] 25 (0, 0))) := ⟨by (with_reducible repeat (first | refine blk_drewN ?_ _ | refine blk_drew ?_ | refine blk_alloc ?_ _)); refine blk_put (cs := #[.int .u64 t412, .int .u64 0]) ?_ 1 _ rfl; (with_reducible repeat (first | refine blk_drewN ?_ _ | refine blk_drew ?_ | refine blk_alloc ?_ _)); refine blk_put (cs := #[.int .u64 0, .int .u64 0]) ?_ 0 _ rfl; (with_reducible repeat (first | refine blk_drewN ?_ _ | refine blk_drew ?_ | refine blk_alloc ?_ _)); exact BK415.out⟩
      have n3_ : Aside0 (Below w.heap.size w ((w17.setCell ⟨gb415, 0, none⟩ (.int .u64 t412)).setCell ⟨gb415, 1, none⟩ (.int .u64 t413))) := ⟨by repeat (first | (with_reducible first | exact HB.out | apply below_alloc | apply pw_below_drewN | apply below_drew1 | refine below_set ?_ GE407.out | refine below_set ?_ GE415.out) | exact HB.out)⟩
      (try clear HO410)
      (try clear BK407)
      (try clear BK415)
      (try clear HB)
      generalize ((w17.setCell ⟨gb415, 0, none⟩ (.int .u64 t412)).setCell ⟨gb415, 1, none⟩ (.int .u64 t413)) = w20 at n0_ n1_ n2_ n3_ ⊢
      have HO410 := n0_
      have BK407 := n1_
      have BK415 := n2_
      have HB := n3_
      clear n0_ n1_ n2_ n3_
      have n0_ := Aside0.mk (Kd.R_drew HO410.out)
      have n1_ := Aside0.mk (blk_drew BK407.out)
      have n2_ := Aside0.mk (blk_drew BK415.out)
      have n3_ := Aside0.mk (below_drew1 HB.out)
      clear HO410
      clear BK407
      clear BK415
      clear HB
      have HO410 := n0_
      have BK407 := n1_
      have BK415 := n2_
      have HB := n3_
      clear n0_ n1_ n2_ n3_
      refine start_ (n := 11) (S := fun w' => w'.cell? ⟨gb415, 0, none⟩ = some (.int .u64 t412) ∧ w'.cell? ⟨gb415, 1, none⟩ = some (.int .u64 t413) ∧ w'.cell? ⟨gb407, 0, none⟩ = some (.int .u64 a1_0) ∧ w'.cell? ⟨gb407, 1, none⟩ = some (.int .u64 a1_1)) (ds := []) #[false, false, false, false, false, false, false, false, false, false, false] (by kernel_rfl) rfl rfl ⟨(blk_cell BK415.out 0).trans rfl, (blk_cell BK415.out 1).trans rfl, (blk_cell BK407.out 0).trans rfl, (blk_cell BK407.out 1).trans rfl⟩ (fun hHeld => ?_); refine with_tabW cutplanelaw10_PairProjects.tab5 cutplanelaw10_PairProjects.bits5 (fun HT_ HW_ => ?_)
      generalize w20.drew = w21 at HO410 BK407 BK415 HB hHeld ⊢
      refine pure_ (i := 1) (N := some 29) (v := ?_) (a' := ?_) #[false, true, false, false, false, false, false, false, false, false, false] rfl rfl (any_of HT_.out (by kernel_rfl)) (fun _ _ _ h => h) (Or.inl ⟨by rfl, ?_⟩) ?_ ?_
      rotate_left
      · intro w'
        go_simp
        with_reducible rfl
      rotate_left
      · simp only [Act.put, List.setIfInBounds_toArray, List.set_cons_zero, List.set_cons_succ, i64_w, i32_w]
        rfl
      refine pure_ (i := 2) (N := some 30) (v := ?_) (a' := ?_) #[false, true, true, false, false, false, false, false, false, false, false] rfl rfl (any_of HT_.out (by kernel_rfl)) (fun _ _ _ h => h) (Or.inl ⟨by rfl, ?_⟩) ?_ ?_
      rotate_left
      · intro w'
        go_simp
        with_reducible rfl
      rotate_left
      · simp only [Act.put, List.setIfInBounds_toArray, List.set_cons_zero, List.set_cons_succ, i64_w, i32_w]
        rfl
      refine pure_ (i := 5) (N := some 33) (v := ?_) (a' := ?_) #[false, true, true, false, false, true, false, false, false, false, false] rfl rfl (any_of HT_.out (by kernel_rfl)) (fun _ _ _ h => h) (Or.inl ⟨by rfl, ?_⟩) ?_ ?_
      rotate_left
      · intro w'
        go_simp
        with_reducible rfl
      rotate_left
      · simp only [Act.put, List.setIfInBounds_toArray, List.set_cons_zero, List.set_cons_succ, i64_w, i32_w]
        rfl
      refine take_ (i := 0) (N := some 28) (v := ?_) (a' := ?_) #[true, true, true, false, false, true, false, false, false, false, false] rfl rfl (take_ofW HT_.out HW_.out (by kernel_rfl)) (fun _ _ _ h => h) (Or.inl ⟨by rfl, ?_⟩) hHeld ?_ ?_
      rotate_left
      · rintro w' ⟨s0, s1, s2, s3⟩
        go_simp
        with_reducible rfl
      rotate_left
      · simp only [Act.put, List.setIfInBounds_toArray, List.set_cons_zero, List.set_cons_succ, i64_w, i32_w]
        rfl
      refine take_ (i := 3) (N := some 31) (v := ?_) (a' := ?_) #[true, true, true, true, false, true, false, false, false, false, false] rfl rfl (take_ofW HT_.out HW_.out (by kernel_rfl)) (fun _ _ _ h => h) (Or.inl ⟨by rfl, ?_⟩) hHeld ?_ ?_
      rotate_left
      · rintro w' ⟨s0, s1, s2, s3⟩
        go_simp
        with_reducible rfl
      rotate_left
      · simp only [Act.put, List.setIfInBounds_toArray, List.set_cons_zero, List.set_cons_succ, i64_w, i32_w]
        rfl
      refine one_ (i := 4) (N := some 32) #[true, true, true, true, true, true, false, false, false, false, false] rfl rfl (one_of HT_.out (by kernel_rfl)) (by decide) (fun K hK => ?_)
      refine goes_ Try.func28 (by kernel_rfl) rfl #[.int .u8 a0, .agg #[.int .u64 a1_0, .int .u64 a1_1]] (by rfl) rfl rfl (by (try simp only [List.map_toArray, List.map_cons, List.map_nil]); first | done | rfl | (simp only [List.length_drop, List.length_take]; rfl)) ?_
      with_reducible refine (cutplaneref10_Proj.calls k a0 a1_0 a1_1 t416 t417 _ A6.out).mono ?_
      rintro e w22 ⟨rfl, hb⟩
      refine ⟨_, rfl, ?_⟩
      have n0_ := Aside0.mk (Kd.R_below (by (with_reducible repeat (first | apply Kd.R_alloc | apply Kd.R_drewN | apply Kd.R_drew)); exact HO410.out) hb)
      have n1_ := Aside0.mk (blk_below (g := gb407) (o := .cells #[.int .u64 a1_0, .int .u64 a1_1] 25 (0, 0)) (by (with_reducible repeat (first | refine blk_drewN ?_ _ | refine blk_drew ?_ | refine blk_alloc ?_ _)); exact BK407.out) hb)
      have n2_ := Aside0.mk (blk_below (g := gb415) (o := .cells #[.int .u64 t412, .int .u64 t413] 25 (0, 0)) (by (with_reducible repeat (first | refine blk_drewN ?_ _ | refine blk_drew ?_ | refine blk_alloc ?_ _)); exact BK415.out) hb)
      have n3_ := Aside0.mk (below_step (by repeat (first | (with_reducible first | exact HB.out | apply below_alloc | apply pw_below_drewN | apply below_drew1 | refine below_set ?_ GE407.out | refine below_set ?_ GE415.out) | exact HB.out)) hb)
      clear HO410
      clear BK407
      clear BK415
      clear HB
      have HO410 := n0_
      have BK407 := n1_
      have BK415 := n2_
      have HB := n3_
      clear n0_ n1_ n2_ n3_
      (try clear hb)
      (try clear hb2)
      (try clear hk)
      (try clear hi)
      refine hK.out _ _ ⟨(blk_cell BK415.out 0).trans rfl, (blk_cell BK415.out 1).trans rfl, (blk_cell BK407.out 0).trans rfl, (blk_cell BK407.out 1).trans rfl⟩ (fun hHeld => ?_)
      clear hK K
      refine norm_ (a' := ?_) ?_ ?_
      rotate_left
      · show Act.put _ (some 32) _ = _
        simp only [Act.put, List.setIfInBounds_toArray, List.set_cons_zero, List.set_cons_succ, i64_w, i32_w]
        rfl
      refine one_ (i := 6) (N := some 34) #[true, true, true, true, true, true, true, false, false, false, false] rfl rfl (one_of HT_.out (by kernel_rfl)) (by decide) (fun K hK => ?_)
      refine goes_ Try.func19 (by kernel_rfl) rfl #[.agg #[.int .u64 t412, .int .u64 t413], .int .i64 t414, .agg #[.int .u64 t416, .int .u64 t417], .int .i64 t411] (by rfl) rfl rfl (by (try simp only [List.map_toArray, List.map_cons, List.map_nil]); first | done | rfl | (simp only [List.length_drop, List.length_take]; rfl)) ?_
      with_reducible refine (cutplanelaw10_is.calls t412 t413 t414 t416 t417 t411 true _ A7.out).mono ?_
      rintro e w23 ⟨rfl, hb⟩
      refine ⟨_, rfl, ?_⟩
      have n0_ := Aside0.mk (Kd.R_below (by (with_reducible repeat (first | apply Kd.R_alloc | apply Kd.R_drewN | apply Kd.R_drew)); exact HO410.out) hb)
      have n1_ := Aside0.mk (blk_below (g := gb407) (o := .cells #[.int .u64 a1_0, .int .u64 a1_1] 25 (0, 0)) (by (with_reducible repeat (first | refine blk_drewN ?_ _ | refine blk_drew ?_ | refine blk_alloc ?_ _)); exact BK407.out) hb)
      have n2_ := Aside0.mk (blk_below (g := gb415) (o := .cells #[.int .u64 t412, .int .u64 t413] 25 (0, 0)) (by (with_reducible repeat (first | refine blk_drewN ?_ _ | refine blk_drew ?_ | refine blk_alloc ?_ _)); exact BK415.out) hb)
      have n3_ := Aside0.mk (below_step (by repeat (first | (with_reducible first | exact HB.out | apply below_alloc | apply pw_below_drewN | apply below_drew1 | refine below_set ?_ GE407.out | refine below_set ?_ GE415.out) | exact HB.out)) hb)
      clear HO410
      clear BK407
      clear BK415
      clear HB
      have HO410 := n0_
      have BK407 := n1_
      have BK415 := n2_
      have HB := n3_
      clear n0_ n1_ n2_ n3_
      (try clear hb)
      (try clear hb2)
      (try clear hk)
      (try clear hi)
      refine hK.out _ _ ⟨(blk_cell BK415.out 0).trans rfl, (blk_cell BK415.out 1).trans rfl, (blk_cell BK407.out 0).trans rfl, (blk_cell BK407.out 1).trans rfl⟩ (fun hHeld => ?_)
      clear hK K
      refine norm_ (a' := ?_) ?_ ?_
      rotate_left
      · show Act.put _ (some 34) _ = _
        simp only [Act.put, List.setIfInBounds_toArray, List.set_cons_zero, List.set_cons_succ, i64_w, i32_w]
        rfl
      refine pure_ (i := 7) (N := some 35) (v := ?_) (a' := ?_) #[true, true, true, true, true, true, true, true, false, false, false] rfl rfl (any_of HT_.out (by kernel_rfl)) (fun _ _ _ h => h) (Or.inl ⟨by rfl, ?_⟩) ?_ ?_
      rotate_left
      · intro w'
        go_simp
        with_reducible rfl
      rotate_left
      · simp only [Act.put, List.setIfInBounds_toArray, List.set_cons_zero, List.set_cons_succ, i64_w, i32_w]
        rfl
      refine one_ (i := 8) (N := some 36) #[true, true, true, true, true, true, true, true, true, false, false] rfl rfl (one_of HT_.out (by kernel_rfl)) (by decide) (fun K hK => ?_)
      refine goes_ Try.func13 (by kernel_rfl) rfl #[] (by rfl) rfl rfl (by (try simp only [List.map_toArray, List.map_cons, List.map_nil]); first | done | rfl | (simp only [List.length_drop, List.length_take]; rfl)) ?_
      with_reducible refine (cutplanelaw10_known.calls k  t419 _ A9.out).mono ?_
      rintro e w24 ⟨rfl, hb⟩
      refine ⟨_, rfl, ?_⟩
      have n0_ := Aside0.mk (Kd.R_below (by (with_reducible repeat (first | apply Kd.R_alloc | apply Kd.R_drewN | apply Kd.R_drew)); exact HO410.out) hb)
      have n1_ := Aside0.mk (blk_below (g := gb407) (o := .cells #[.int .u64 a1_0, .int .u64 a1_1] 25 (0, 0)) (by (with_reducible repeat (first | refine blk_drewN ?_ _ | refine blk_drew ?_ | refine blk_alloc ?_ _)); exact BK407.out) hb)
      have n2_ := Aside0.mk (blk_below (g := gb415) (o := .cells #[.int .u64 t412, .int .u64 t413] 25 (0, 0)) (by (with_reducible repeat (first | refine blk_drewN ?_ _ | refine blk_drew ?_ | refine blk_alloc ?_ _)); exact BK415.out) hb)
      have n3_ := Aside0.mk (below_step (by repeat (first | (with_reducible first | exact HB.out | apply below_alloc | apply pw_below_drewN | apply below_drew1 | refine below_set ?_ GE407.out | refine below_set ?_ GE415.out) | exact HB.out)) hb)
      clear HO410
      clear BK407
      clear BK415
      clear HB
      have HO410 := n0_
      have BK407 := n1_
      have BK415 := n2_
      have HB := n3_
      clear n0_ n1_ n2_ n3_
      (try clear hb)
      (try clear hb2)
      (try clear hk)
      (try clear hi)
      refine hK.out _ _ ⟨(blk_cell BK415.out 0).trans rfl, (blk_cell BK415.out 1).trans rfl, (blk_cell BK407.out 0).trans rfl, (blk_cell BK407.out 1).trans rfl⟩ (fun hHeld => ?_)
      clear hK K
      refine norm_ (a' := ?_) ?_ ?_
      rotate_left
      · show Act.put _ (some 36) _ = _
        simp only [Act.put, List.setIfInBounds_toArray, List.set_cons_zero, List.set_cons_succ, i64_w, i32_w]
        rfl
      refine pure_ (i := 9) (N := some 37) (v := ?_) (a' := ?_) #[true, true, true, true, true, true, true, true, true, true, false] rfl rfl (any_of HT_.out (by kernel_rfl)) (fun _ _ _ h => h) (Or.inl ⟨by rfl, ?_⟩) ?_ ?_
      rotate_left
      · intro w'
        go_simp
        with_reducible rfl
      rotate_left
      · simp only [Act.put, List.setIfInBounds_toArray, List.set_cons_zero, List.set_cons_succ, i64_w, i32_w]
        rfl
      refine pure_ (i := 10) (N := some 4) (v := ?_) (a' := ?_) #[true, true, true, true, true, true, true, true, true, true, true] rfl rfl (any_of HT_.out (by kernel_rfl)) (fun _ _ _ h => h) (Or.inl ⟨by rfl, ?_⟩) ?_ ?_
      rotate_left
      · intro w'
        go_simp
        with_reducible rfl
      rotate_left
      · simp only [Act.put, List.setIfInBounds_toArray, List.set_cons_zero, List.set_cons_succ, i64_w, i32_w]
        rfl
      refine done_ (done_of HT_.out (by kernel_rfl)) ?_
      try go_wp2
      go_ret
      exact ⟨by first | rfl | (simp [errW_none, errW_some] <;> rfl) | (simp [*, errW_none, errW_some] <;> rfl), by repeat (first | (with_reducible first | exact HB.out | apply below_alloc | apply pw_below_drewN | apply below_drew1 | refine below_set ?_ GE407.out | refine below_set ?_ GE415.out) | exact HB.out)⟩
    · replace c8 := Bool.eq_false_iff.mpr c8
      subst c8
      have H1 : (none) = some r := by rw [if_neg (show ¬ (false = true) by decide)] at H; exact H
      clear H
      have H := H1
      clear H1
      exact absurd H (by simp)
  · rw [if_neg c5] at H
    have c5b0 : (t411 == 0) = false := beq_eq_false_iff_ne.mpr c5
    have c5b1 : (t411 != 0) = true := bne_iff_ne.mpr c5
    replace H := Option.bind_eq_some_iff.mp H
    obtain ⟨t420, A250, H⟩ := H
    replace H : (if t420 = true then ((cutplanelaw10_known.f k).bind fun t421 => (some t421)) else (none)) = some r := H
    have A25 := Aside0.mk A250
    clear A250
    by_cases c26 : t420 = true
    · subst c26
      have H1 : ((cutplanelaw10_known.f k).bind fun t421 => (some t421)) = some r := by rw [if_pos rfl] at H; exact H
      clear H
      have H := H1
      clear H1
      replace H := Option.bind_eq_some_iff.mp H
      obtain ⟨t421, A270, H⟩ := H
      replace H : (some t421) = some r := H
      have A27 := Aside0.mk A270
      clear A270
      obtain rfl := Option.some.inj H
      go_enter Try.func6, Try.ntmps6
      go_wp2_with (first | ((with_reducible refine gate_dst (N := 3) rfl ?_); refine box_event ?hg (N := 3) ?hd (cs := #[.int .u64 a1_0, .int .u64 a1_1]) (t := 25) ?hr ?_; (case hd => rfl); (case hg => rfl); (case hr => first | (go_simp; done) | (go_simp; rfl)); intro gb407 hg w28 hbox hb; have n0_ := Aside0.mk (below_step (by repeat (first | (with_reducible first | exact HB.out | apply below_alloc | apply pw_below_drewN | apply below_drew1) | exact HB.out)) hb); have n1_ := Aside0.mk (hbox); have n2_ := Aside0.mk ((by rw [hg]; exact (below_size (by repeat (first | (with_reducible first | exact HB.out | apply below_alloc | apply pw_below_drewN | apply below_drew1) | exact HB.out))) : w.heap.size ≤ gb407)); have n3_ := Aside0.mk ((by rw [hg]; exact (below_size (by repeat (first | (with_reducible first | exact HB.out | apply below_alloc | apply pw_below_drewN | apply below_drew1) | exact HB.out))) : w.heap.size ≤ gb407)); clear HB; have HB := n0_; have BK407 := n1_; have GW407 := n2_; have GE407 := n3_; clear n0_ n1_ n2_ n3_; clear hb hbox hg; have hcz29_0 : w28.cell? ⟨gb407, 0, none⟩ = some (.int .u64 a1_0) := (blk_cell BK407.out 0).trans rfl; have hcz29_1 : w28.cell? ⟨gb407, 1, none⟩ = some (.int .u64 a1_1) := (blk_cell BK407.out 1).trans rfl; have hfz29_0 := blk_frozen BK407.out 0; have hfz29_1 := blk_frozen BK407.out 1) | ((with_reducible refine gate_dst (N := 10) rfl ?_); refine Kd.R_lit k25 _ 25 ?hg (N := 10) ?hd (xs := ([(⟨a1_0, a1_1⟩ : S25)] : List (S25))) (inner := [.int .u64 a1_0, .int .u64 a1_1]) (ok := fun _ => True) (okp := fun _ => True) ?hr ?hp (fun _ hk => hk) trivial (Below.refl _ _) (Nat.le_refl _) (by simp) ?_; (case hd => rfl); (case hg => rfl); (case hr => first | (go_simp; done) | (go_simp; rfl)); (case hp => exact (Reps.c2 (show Kd.M k25 _ _ _ (⟨a1_0, a1_1⟩ : S25) [.int .u64 a1_0, .int .u64 a1_1] from (k25_mkM _ _ _ (⟨a1_0, a1_1⟩ : S25) )) (Reps.none _ _))); intro v409 w30 ho31 hb hg_ hnew_; clear hg_ hnew_; (first | rw [← Ny408.out] at ho31 | (simp only [Int.reduceToNat] at ho31; rw [← Ny408.out] at ho31)); have n0_ := Aside0.mk (Kd.R_lower (Kd.R_newB ho31 (g := gb407) (o := .cells #[.int .u64 a1_0, .int .u64 a1_1] 25 (0, 0)) (by (with_reducible repeat (first | refine blk_drewN ?_ _ | refine blk_drew ?_ | refine blk_alloc ?_ _)); exact BK407.out)) (below_size (by repeat (first | (with_reducible first | exact HB.out | apply below_alloc | apply pw_below_drewN | apply below_drew1 | refine below_set ?_ GE407.out) | exact HB.out)))); have n1_ := Aside0.mk (blk_below (g := gb407) (o := .cells #[.int .u64 a1_0, .int .u64 a1_1] 25 (0, 0)) (by (with_reducible repeat (first | refine blk_drewN ?_ _ | refine blk_drew ?_ | refine blk_alloc ?_ _)); exact BK407.out) hb); have n2_ := Aside0.mk (below_step (by repeat (first | (with_reducible first | exact HB.out | apply below_alloc | apply pw_below_drewN | apply below_drew1 | refine below_set ?_ GE407.out) | exact HB.out)) hb); clear BK407; clear HB; have HO410 := n0_; have BK407 := n1_; have HB := n2_; clear n0_ n1_ n2_; clear hb ho31; obtain ⟨Ao32, co32, eo32⟩ := Kd.R_slice HO410.out; subst eo32) | ((with_reducible refine gate_callee (f := 12) rfl ?_); refine goesL_ (some 11) rfl rfl Try.func12 (by kernel_rfl) rfl #[.int .u8 a0, .slice Ao32 y408.length co32] rfl (by (try simp only [List.map_toArray, List.map_cons, List.map_nil]); first | done | rfl | (simp only [List.length_drop, List.length_take]; rfl)) ?_; (with_reducible refine (cutplaneref10_Good.calls k a0 _ _ y408 t411 _ ?side1 ?side2 A3.out).mono ?_); (case side1 => repeat (first | exact (Kd.R_reads' HO410.out).2.2 | (with_reducible refine Kd.C_alloc ?_ _) | (with_reducible refine Kd.C_drewN ?_ _) | (with_reducible refine Kd.C_drew ?_))); (case side2 => exact (Kd.R_reads' HO410.out).2.1); rintro e w' ⟨rfl, ⟨nd, rfl⟩⟩; refine ⟨_, rfl, ?_⟩; (try (rw [drewN_self w30]; generalize hq_ : World.drewN w30 _ = w30; have n0_ : Aside0 (Kd.R k25 25 w30 w.heap.size (fun k_ => k_ ≠ gb407) (.slice Ao32 y408.length co32) y408) := ⟨by rw [← hq_]; exact (by (with_reducible repeat (first | apply Kd.R_alloc | apply Kd.R_drewN | apply Kd.R_drew)); exact Kd.R_mono HO410.out (fun _ hk => hk.2))⟩; have n1_ : Aside0 (w30.heap[gb407]? = some (.cells #[.int .u64 a1_0, .int .u64 a1_1] 25 (0, 0))) := ⟨by rw [← hq_]; exact (by (with_reducible repeat (first | refine blk_drewN ?_ _ | refine blk_drew ?_ | refine blk_alloc ?_ _)); exact BK407.out)⟩; have n2_ : Aside0 (Below w.heap.size w w30) := ⟨by rw [← hq_]; exact (by repeat (first | (with_reducible first | exact HB.out | apply below_alloc | apply pw_below_drewN | apply below_drew1 | refine below_set ?_ GE407.out) | exact HB.out))⟩; clear HO410 BK407 HB hq_; have HO410 := n0_; have BK407 := n1_; have HB := n2_; clear n0_ n1_ n2_)); have hcz33_0 : w30.cell? ⟨gb407, 0, none⟩ = some (.int .u64 a1_0) := (blk_cell BK407.out 0).trans rfl; have hcz33_1 : w30.cell? ⟨gb407, 1, none⟩ = some (.int .u64 a1_1) := (blk_cell BK407.out 1).trans rfl; have hfz33_0 := blk_frozen BK407.out 0; have hfz33_1 := blk_frozen BK407.out 1) | ((with_reducible refine gate_callee (f := 27) rfl ?_); refine goesL_ (some 15) rfl rfl Try.func27 (by kernel_rfl) rfl #[.int .u8 a0, .agg #[.int .u64 a1_0, .int .u64 a1_1]] rfl (by (try simp only [List.map_toArray, List.map_cons, List.map_nil]); first | done | rfl | (simp only [List.length_drop, List.length_take]; rfl)) ?_; (with_reducible refine (pair_Proj.calls k a0 a1_0 a1_1 t412 t413 t414 _ A4.out).mono ?_); rintro e w34 ⟨rfl, hb⟩; refine ⟨_, rfl, ?_⟩; have n0_ := Aside0.mk (Kd.R_below (by (with_reducible repeat (first | apply Kd.R_alloc | apply Kd.R_drewN | apply Kd.R_drew)); exact HO410.out) hb); have n1_ := Aside0.mk (blk_below (g := gb407) (o := .cells #[.int .u64 a1_0, .int .u64 a1_1] 25 (0, 0)) (by (with_reducible repeat (first | refine blk_drewN ?_ _ | refine blk_drew ?_ | refine blk_alloc ?_ _)); exact BK407.out) hb); have n2_ := Aside0.mk (below_step (by repeat (first | (with_reducible first | exact HB.out | apply below_alloc | apply pw_below_drewN | apply below_drew1 | refine below_set ?_ GE407.out) | exact HB.out)) hb); clear HO410; clear BK407; clear HB; have HO410 := n0_; have BK407 := n1_; have HB := n2_; clear n0_ n1_ n2_; (try clear hb); (try clear hb2); (try clear hk); (try clear hi)) | ((with_reducible refine gate_dst (N := 6) rfl ?_); refine box_event ?hg (N := 6) ?hd (cs := #[.int .u64 0, .int .u64 0]) (t := 25) ?hr ?_; (case hd => rfl); (case hg => rfl); (case hr => first | (go_simp; done) | (go_simp; rfl)); intro gb415 hg w35 hbox hb; have n0_ := Aside0.mk (Kd.R_below (Kd.R_elderB (by (with_reducible repeat (first | apply Kd.R_alloc | apply Kd.R_drewN | apply Kd.R_drew)); exact HO410.out) gb415 (Nat.le_of_eq hg.symm)) hb); have n1_ := Aside0.mk (blk_below (g := gb407) (o := .cells #[.int .u64 a1_0, .int .u64 a1_1] 25 (0, 0)) (by (with_reducible repeat (first | refine blk_drewN ?_ _ | refine blk_drew ?_ | refine blk_alloc ?_ _)); exact BK407.out) hb); have n2_ := Aside0.mk (below_step (by repeat (first | (with_reducible first | exact HB.out | apply below_alloc | apply pw_below_drewN | apply below_drew1 | refine below_set ?_ GE407.out) | exact HB.out)) hb); have n3_ := Aside0.mk (hbox); have n4_ := Aside0.mk ((by rw [hg]; exact (below_size (by repeat (first | (with_reducible first | exact HB.out | apply below_alloc | apply pw_below_drewN | apply below_drew1 | refine below_set ?_ GE407.out) | exact HB.out))) : w.heap.size ≤ gb415)); have n5_ := Aside0.mk ((by rw [hg]; exact (below_size (by repeat (first | (with_reducible first | exact HB.out | apply below_alloc | apply pw_below_drewN | apply below_drew1 | refine below_set ?_ GE407.out) | exact HB.out))) : w.heap.size ≤ gb415)); have n6_ := Aside0.mk ((by rw [hg]; exact Nat.ne_of_lt (blk_lt (g := gb407) (o := .cells #[.int .u64 a1_0, .int .u64 a1_1] 25 (0, 0)) (by (with_reducible repeat (first | refine blk_drewN ?_ _ | refine blk_drew ?_ | refine blk_alloc ?_ _)); exact BK407.out)) : gb407 ≠ gb415)); have n7_ := Aside0.mk ((by rw [hg]; exact Nat.ne_of_gt (blk_lt (g := gb407) (o := .cells #[.int .u64 a1_0, .int .u64 a1_1] 25 (0, 0)) (by (with_reducible repeat (first | refine blk_drewN ?_ _ | refine blk_drew ?_ | refine blk_alloc ?_ _)); exact BK407.out)) : gb415 ≠ gb407)); clear HO410; clear BK407; clear HB; have HO410 := n0_; have BK407 := n1_; have HB := n2_; have BK415 := n3_; have GW415 := n4_; have GE415 := n5_; have NB407_415 := n6_; have NB415_407 := n7_; clear n0_ n1_ n2_ n3_ n4_ n5_ n6_ n7_; clear hb hbox hg; have hnb36 := NB415_407.out; have hnc36 := NB407_415.out; have hcz37_0 : w35.cell? ⟨gb415, 0, none⟩ = some (.int .u64 0) := (blk_cell BK415.out 0).trans rfl; have hcz37_1 : w35.cell? ⟨gb415, 1, none⟩ = some (.int .u64 0) := (blk_cell BK415.out 1).trans rfl; have hfz37_0 := blk_frozen BK415.out 0; have hfz37_1 := blk_frozen BK415.out 1) | ((with_reducible refine gate_callee (f := 19) rfl ?_); refine goesL_ (some 24) rfl rfl Try.func19 (by kernel_rfl) rfl #[.agg #[.int .u64 t412, .int .u64 t413], .int .i64 t414, .agg #[.int .u64 t412, .int .u64 t413], .int .i64 t411] rfl (by (try simp only [List.map_toArray, List.map_cons, List.map_nil]); first | done | rfl | (simp only [List.length_drop, List.length_take]; rfl)) ?_; (with_reducible refine (cutplanelaw10_is.calls t412 t413 t414 t412 t413 t411 true _ A25.out).mono ?_); rintro e w38 ⟨rfl, hb⟩; refine ⟨_, rfl, ?_⟩; have n0_ := Aside0.mk (Kd.R_below (by (with_reducible repeat (first | apply Kd.R_alloc | apply Kd.R_drewN | apply Kd.R_drew)); exact (Kd.R_mono (Kd.R_far (p := ⟨gb415, 1, none⟩) (Kd.R_far (p := ⟨gb415, 0, none⟩) (Kd.R_mono HO410.out (fun k_ hk => (⟨hk, hk.2⟩ : _ ∧ k_ ≠ gb415))) (fun _ hk => hk.2) (.int .u64 t412)) (fun _ hk => hk.2) (.int .u64 t413)) (fun _ h_ => h_.1))) hb); have n1_ := Aside0.mk (blk_below (g := gb407) (o := .cells #[.int .u64 a1_0, .int .u64 a1_1] 25 (0, 0)) (by (with_reducible repeat (first | refine blk_drewN ?_ _ | refine blk_drew ?_ | refine blk_alloc ?_ _)); refine blk_far ?_ NB407_415.out _; (with_reducible repeat (first | refine blk_drewN ?_ _ | refine blk_drew ?_ | refine blk_alloc ?_ _)); refine blk_far ?_ NB407_415.out _; (with_reducible repeat (first | refine blk_drewN ?_ _ | refine blk_drew ?_ | refine blk_alloc ?_ _)); exact BK407.out) hb); have n2_ := Aside0.mk (blk_below (g := gb415) (o := .cells #[.int .u64 t412, .int .u64 t413] 25 (0, 0)) (by (with_reducible repeat (first | refine blk_drewN ?_ _ | refine blk_drew ?_ | refine blk_alloc ?_ _)); refine blk_put (cs := #[.int .u64 t412, .int .u64 0]) ?_ 1 _ rfl; (with_reducible repeat (first | refine blk_drewN ?_ _ | refine blk_drew ?_ | refine blk_alloc ?_ _)); refine blk_put (cs := #[.int .u64 0, .int .u64 0]) ?_ 0 _ rfl; (with_reducible repeat (first | refine blk_drewN ?_ _ | refine blk_drew ?_ | refine blk_alloc ?_ _)); exact BK415.out) hb); have n3_ := Aside0.mk (below_step (by repeat (first | (with_reducible first | exact HB.out | apply below_alloc | apply pw_below_drewN | apply below_drew1 | refine below_set ?_ GE407.out | refine below_set ?_ GE415.out) | exact HB.out)) hb); clear HO410; clear BK407; clear BK415; clear HB; have HO410 := n0_; have BK407 := n1_; have BK415 := n2_; have HB := n3_; clear n0_ n1_ n2_ n3_; (try clear hb); (try clear hb2); (try clear hk); (try clear hi)) | (go_at_call 13; (with_reducible refine (cutplanelaw10_known.calls k  t421 _ A27.out).mono ?_); rintro e w39 ⟨rfl, hb⟩; have n0_ := Aside0.mk (Kd.R_below (by (with_reducible repeat (first | apply Kd.R_alloc | apply Kd.R_drewN | apply Kd.R_drew)); exact HO410.out) hb); have n1_ := Aside0.mk (blk_below (g := gb407) (o := .cells #[.int .u64 a1_0, .int .u64 a1_1] 25 (0, 0)) (by (with_reducible repeat (first | refine blk_drewN ?_ _ | refine blk_drew ?_ | refine blk_alloc ?_ _)); exact BK407.out) hb); have n2_ := Aside0.mk (blk_below (g := gb415) (o := .cells #[.int .u64 t412, .int .u64 t413] 25 (0, 0)) (by (with_reducible repeat (first | refine blk_drewN ?_ _ | refine blk_drew ?_ | refine blk_alloc ?_ _)); exact BK415.out) hb); have n3_ := Aside0.mk (below_step (by repeat (first | (with_reducible first | exact HB.out | apply below_alloc | apply pw_below_drewN | apply below_drew1 | refine below_set ?_ GE407.out | refine below_set ?_ GE415.out) | exact HB.out)) hb); clear HO410; clear BK407; clear BK415; clear HB; have HO410 := n0_; have BK407 := n1_; have BK415 := n2_; have HB := n3_; clear n0_ n1_ n2_ n3_; (try clear hb); (try clear hb2); (try clear hk); (try clear hi)))
      go_ret
      exact ⟨by first | rfl | (simp [errW_none, errW_some] <;> rfl) | (simp [*, errW_none, errW_some] <;> rfl), by repeat (first | (with_reducible first | exact HB.out | apply below_alloc | apply pw_below_drewN | apply below_drew1 | refine below_set ?_ GE407.out | refine below_set ?_ GE415.out) | exact HB.out)⟩
    · replace c26 := Bool.eq_false_iff.mpr c26
      subst c26
      have H1 : (none) = some r := by rw [if_neg (show ¬ (false = true) by decide)] at H; exact H
      clear H
      have H := H1
      clear H1
      exact absurd H (by simp)
/-- THE ONE PURE STATEMENT of cutplanelaw10_PairProjects: yours. -/
def cutplanelaw10_PairProjects.Pure : Prop := ∀ (a0 : Int) (a1_0 : Int) (a1_1 : Int), (Lit.int .u8 a0).wf = true → (Lit.int .u64 a1_0).wf = true → (Lit.int .u64 a1_1).wf = true → ∃ k, cutplanelaw10_PairProjects.f k a0 a1_0 a1_1 = some true
theorem cutplanelaw10_PairProjects.walk (P : cutplanelaw10_PairProjects.Pure) (a0 : Int) (a1_0 : Int) (a1_1 : Int) (w : World) (w0 : (Lit.int .u8 a0).wf = true) (w1_0 : (Lit.int .u64 a1_0).wf = true) (w1_1 : (Lit.int .u64 a1_1).wf = true) :
    Calls Try.prog 6 #[.int .u8 a0, .agg #[.int .u64 a1_0, .int .u64 a1_1]] w fun e w' => e = .returned (.bool true) ∧ Below w.heap.size w w' := by
  obtain ⟨k, h⟩ := P a0 a1_0 a1_1 w0 w1_0 w1_1
  refine (cutplanelaw10_PairProjects.calls k a0 a1_0 a1_1 true w h).mono ?_
  rintro e w' ⟨rfl, hd⟩
  exact ⟨rfl, hd⟩
end Go.Proofs.Ytgaabjjenlbmhaa.PA
end

section
namespace Go.Proofs.Ytgaabjjenlbmhaa.Wd
open Go
theorem nat_and_lt {n a : Nat} (h : a < 2 ^ n) : a &&& 2 ^ n = 0 := by
  apply Nat.eq_of_testBit_eq
  intro i
  rw [Nat.testBit_and, Nat.testBit_two_pow, Nat.zero_testBit]
  by_cases e : n = i
  · subst e; simp [Nat.testBit_lt_two_pow h]
  · simp [e]
theorem nat_and_ge {n l : Nat} (h : l < 2 ^ n) : (2 ^ n + l) &&& 2 ^ n = 2 ^ n := by
  apply Nat.eq_of_testBit_eq
  intro i
  rw [Nat.testBit_and, Nat.testBit_two_pow]
  by_cases e : n = i
  · subst e; rw [Nat.testBit_two_pow_add_eq, Nat.testBit_lt_two_pow h]; simp
  · simp [e]
theorem nat_or_lt {n a : Nat} (h : a < 2 ^ n) : a ||| 2 ^ n = 2 ^ n + a := by
  have := Nat.two_pow_add_eq_or_of_lt h 1
  rw [Nat.mul_one] at this
  rw [this, Nat.or_comm]
theorem nat_xor_lt {n a : Nat} (h : a < 2 ^ n) : a ^^^ 2 ^ n = 2 ^ n + a := by
  rw [← nat_or_lt h]
  apply Nat.eq_of_testBit_eq
  intro i
  rw [Nat.testBit_xor, Nat.testBit_or, Nat.testBit_two_pow]
  by_cases e : n = i
  · subst e; simp [Nat.testBit_lt_two_pow h]
  · simp [e]
theorem nat_xor_ge {n l : Nat} (h : l < 2 ^ n) : (2 ^ n + l) ^^^ 2 ^ n = l := by
  rw [← nat_xor_lt h, Nat.xor_assoc, Nat.xor_self, Nat.xor_zero]
theorem nat_mask {n a : Nat} (hn : n ≤ 63) (h : a < 2 ^ (n + 1)) : a &&& (2 ^ 64 - (2 ^ n + 1)) = a % 2 ^ n := by
  apply Nat.eq_of_testBit_eq
  intro i
  rw [Nat.testBit_and, Nat.testBit_mod_two_pow, Nat.testBit_two_pow_sub_succ (by exact Nat.pow_lt_pow_right (by decide) (by omega)), Nat.testBit_two_pow]
  by_cases e : i < n
  · simp [e, show n ≠ i by omega, show i < 64 by omega]
  · by_cases e2 : n = i
    · subst e2; simp
    · have : a.testBit i = false := Nat.testBit_lt_two_pow (Nat.lt_of_lt_of_le h (Nat.pow_le_pow_right (by decide) (by omega)))
      simp [this]
section
variable {w : Int}
theorem andNot31 (h0 : 0 ≤ w) (h1 : w < 4294967296) : Go.bits .andNot .u64 w 2147483648 = w % 2147483648 := by
  obtain ⟨a, rfl⟩ := Int.eq_ofNat_of_zero_le h0
  have ha : a < 2 ^ (31 + 1) := by omega
  have e := u64_andNot_nat a 2147483648 (by omega) (by decide)
  have m : a &&& 18446744071562067967 = a % 2147483648 := nat_mask (n := 31) (by decide) ha
  rw [show ((2147483648 : Int)) = ((2147483648 : Nat) : Int) from rfl, e, show (18446744073709551615 - 2147483648 : Nat) = 18446744071562067967 from rfl, m]
  omega
theorem andNot63 (h0 : 0 ≤ w) (h1 : w < 18446744073709551616) : Go.bits .andNot .u64 w 9223372036854775808 = w % 9223372036854775808 := by
  obtain ⟨a, rfl⟩ := Int.eq_ofNat_of_zero_le h0
  have ha : a < 2 ^ (63 + 1) := by omega
  have e := u64_andNot_nat a 9223372036854775808 (by omega) (by decide)
  have m : a &&& 9223372036854775807 = a % 9223372036854775808 := nat_mask (n := 63) (by decide) ha
  rw [show ((9223372036854775808 : Int)) = ((9223372036854775808 : Nat) : Int) from rfl, e, show (18446744073709551615 - 9223372036854775808 : Nat) = 9223372036854775807 from rfl, m]
  omega
theorem and31 (h0 : 0 ≤ w) (h1 : w < 4294967296) : Go.bits .and .u64 w 2147483648 = if w ≥ 2147483648 then 2147483648 else 0 := by
  obtain ⟨a, rfl⟩ := Int.eq_ofNat_of_zero_le h0
  have e := u64_and_nat a 2147483648 (by omega) (by decide)
  rw [show ((2147483648 : Int)) = ((2147483648 : Nat) : Int) from rfl, e]
  by_cases c : a < 2 ^ 31
  · have m : a &&& 2147483648 = 0 := nat_and_lt (n := 31) c
    rw [m, if_neg (by omega)]; rfl
  · obtain ⟨l, rfl⟩ : ∃ l, a = 2 ^ 31 + l := ⟨a - 2 ^ 31, by omega⟩
    have m : (2 ^ 31 + l) &&& 2147483648 = 2147483648 := nat_and_ge (n := 31) (l := l) (by omega)
    rw [m, if_pos (by omega)]
theorem and63 (h0 : 0 ≤ w) (h1 : w < 18446744073709551616) : Go.bits .and .u64 w 9223372036854775808 = if w ≥ 9223372036854775808 then 9223372036854775808 else 0 := by
  obtain ⟨a, rfl⟩ := Int.eq_ofNat_of_zero_le h0
  have e := u64_and_nat a 9223372036854775808 (by omega) (by decide)
  rw [show ((9223372036854775808 : Int)) = ((9223372036854775808 : Nat) : Int) from rfl, e]
  by_cases c : a < 2 ^ 63
  · have m : a &&& 9223372036854775808 = 0 := nat_and_lt (n := 63) c
    rw [m, if_neg (by omega)]; rfl
  · obtain ⟨l, rfl⟩ : ∃ l, a = 2 ^ 63 + l := ⟨a - 2 ^ 63, by omega⟩
    have m : (2 ^ 63 + l) &&& 9223372036854775808 = 9223372036854775808 := nat_and_ge (n := 63) (l := l) (by omega)
    rw [m, if_pos (by omega)]
theorem xor31 (h0 : 0 ≤ w) (h1 : w < 4294967296) : Go.bits .xor .u64 w 2147483648 = if w ≥ 2147483648 then w - 2147483648 else w + 2147483648 := by
  obtain ⟨a, rfl⟩ := Int.eq_ofNat_of_zero_le h0
  have e := u64_xor_nat a 2147483648 (by omega) (by decide)
  rw [show ((2147483648 : Int)) = ((2147483648 : Nat) : Int) from rfl, e]
  by_cases c : a < 2 ^ 31
  · have m : a ^^^ 2147483648 = 2 ^ 31 + a := nat_xor_lt (n := 31) c
    rw [m, if_neg (by omega)]; omega
  · obtain ⟨l, rfl⟩ : ∃ l, a = 2 ^ 31 + l := ⟨a - 2 ^ 31, by omega⟩
    have m : (2 ^ 31 + l) ^^^ 2147483648 = l := nat_xor_ge (n := 31) (l := l) (by omega)
    rw [m, if_pos (by omega)]; omega
theorem xor63 (h0 : 0 ≤ w) (h1 : w < 18446744073709551616) : Go.bits .xor .u64 w 9223372036854775808 = if w ≥ 9223372036854775808 then w - 9223372036854775808 else w + 9223372036854775808 := by
  obtain ⟨a, rfl⟩ := Int.eq_ofNat_of_zero_le h0
  have e := u64_xor_nat a 9223372036854775808 (by omega) (by decide)
  rw [show ((9223372036854775808 : Int)) = ((9223372036854775808 : Nat) : Int) from rfl, e]
  by_cases c : a < 2 ^ 63
  · have m : a ^^^ 9223372036854775808 = 2 ^ 63 + a := nat_xor_lt (n := 63) c
    rw [m, if_neg (by omega)]; omega
  · obtain ⟨l, rfl⟩ : ∃ l, a = 2 ^ 63 + l := ⟨a - 2 ^ 63, by omega⟩
    have m : (2 ^ 63 + l) ^^^ 9223372036854775808 = l := nat_xor_ge (n := 63) (l := l) (by omega)
    rw [m, if_pos (by omega)]; omega
theorem or31 (h0 : 0 ≤ w) (h1 : w < 2147483648) : Go.bits .or .u64 w 2147483648 = w + 2147483648 := by
  obtain ⟨a, rfl⟩ := Int.eq_ofNat_of_zero_le h0
  have e := u64_or_nat a 2147483648 (by omega) (by decide)
  have m : a ||| 2147483648 = 2 ^ 31 + a := nat_or_lt (n := 31) (by omega)
  rw [show ((2147483648 : Int)) = ((2147483648 : Nat) : Int) from rfl, e, m]
  omega
theorem or63 (h0 : 0 ≤ w) (h1 : w < 9223372036854775808) : Go.bits .or .u64 w 9223372036854775808 = w + 9223372036854775808 := by
  obtain ⟨a, rfl⟩ := Int.eq_ofNat_of_zero_le h0
  have e := u64_or_nat a 9223372036854775808 (by omega) (by decide)
  have m : a ||| 9223372036854775808 = 2 ^ 63 + a := nat_or_lt (n := 63) (by omega)
  rw [show ((9223372036854775808 : Int)) = ((9223372036854775808 : Nat) : Int) from rfl, e, m]
  omega
theorem or0 (h0 : 0 ≤ w) (h1 : w < 18446744073709551616) : Go.bits .or .u64 w 0 = w := by
  obtain ⟨a, rfl⟩ := Int.eq_ofNat_of_zero_le h0
  have e := u64_or_nat a 0 (by omega) (by decide)
  rw [show ((0 : Int)) = ((0 : Nat) : Int) from rfl, e]
  simp
theorem wrapu64 (n : Int) : IntKind.u64.wrap n = n % 18446744073709551616 := by simp [IntKind.wrap, IntKind.bits, IntKind.signed]
end
end Go.Proofs.Ytgaabjjenlbmhaa.Wd
end

section
namespace Go.Proofs.Ytgaabjjenlbmhaa.PA
open Go.RowKit Go.Proofs.YtgaabjjenlbmhaaW.PrintWords Go.Proofs.YtgaabjjenlbmhaaW.PrintLast Go.Proofs.YtgaabjjenlbmhaaW.PrintMore Go.Proofs.Ytgaabjjenlbmhaa.Wd
set_option linter.unusedSimpArgs false
set_option linter.unusedVariables false
/-- the class of a size: P one above the fractions, I the infinite size -/
def cls (P I s : Int) : Int := if s = 0 then 1 else if s < P then 2 else if s < I then 3 else if s = I then 4 else 5
def sgn (f : Int) : Int := if f = 1 then 2147483648 else 9223372036854775808
def one (f : Int) : Int := if f = 1 then 8388608 else 4503599627370496
def infw (f : Int) : Int := if f = 1 then 2139095040 else 9218868437227405312
def nanw (f : Int) : Int := if f = 1 then 2143289344 else 9221120237041090560
def cl (f w : Int) : Int := cls (one f) (infw f) (w % sgn f)
/-- the error of a word, as Good tells it -/
def err (f w : Int) : Int := if f = 1 then (if w ≥ 4294967296 then 6 else 0) else if f = 2 then 0 else 4
/-- a good word -/
def Gd (f w : Int) : Prop := (f = 1 ∧ 0 ≤ w ∧ w < 4294967296) ∨ (f = 2 ∧ 0 ≤ w ∧ w < 18446744073709551616)
def U (w : Int) : Prop := 0 ≤ w ∧ w < 18446744073709551616
theorem Gd.u {f w : Int} (h : Gd f w) : U w := by rcases h with ⟨_, a, b⟩ | ⟨_, a, b⟩ <;> exact ⟨a, by omega⟩
theorem Gd.err {f w : Int} (h : Gd f w) : err f w = 0 := by
  rcases h with ⟨rfl, a, b⟩ | ⟨rfl, a, b⟩
  · simp [PA.err]; omega
  · simp [PA.err]
theorem gd_of {f w : Int} (h : err f w = 0) (hu : U w) : Gd f w := by
  unfold err at h
  unfold U at hu
  unfold Gd
  split at h
  · split at h
    · omega
    · omega
  · split at h <;> omega
theorem u_of {w : Int} (h : (Lit.int .u64 w).wf = true) : U w := by have := bounds_u64 h; exact ⟨by omega, by omega⟩
theorem rd_zero (w : Int) : rd [w] 0 = w := by rfl
theorem rd_zero2 (w v : Int) : rd [w, v] 0 = w := by rfl
theorem rd_one2 (w v : Int) : rd [w, v] 1 = v := by rfl
theorem top31 : Go.bits .or .u64 2147483648 (IntKind.u64.wrap (2147483648 - 1)) = 4294967295 := by decide +kernel
theorem top63 : Go.bits .or .u64 9223372036854775808 (IntKind.u64.wrap (9223372036854775808 - 1)) = 18446744073709551615 := by decide +kernel
/-- the shape of a format -/
def shp (f : Int) : Int × Int × Int := if f = 1 then (23, 255, 2147483648) else if f = 2 then (52, 2047, 9223372036854775808) else (0, 0, 0)
theorem open_nil (k : Nat) (f : Int) : word_open.f (k + 1) f [] = some ((shp f).1, (shp f).2.1, (shp f).2.2, if f = 1 ∨ f = 2 then 0 else 4) := by
  unfold word_open.f word_shapeOf.f shp
  by_cases h1 : f = 1
  · subst h1; simp [word_open.l0]
  · by_cases h2 : f = 2
    · subst h2; simp [word_open.l0]
    · simp [h1, h2]
theorem open_one (k : Nat) (f w : Int) (hu : U w) : word_open.f (k + 2) f [w] = some ((shp f).1, (shp f).2.1, (shp f).2.2, err f w) := by
  obtain ⟨h0, h3⟩ := hu
  unfold word_open.f word_shapeOf.f shp err
  by_cases h1 : f = 1
  · subst h1
    have l1 : (([w] : List Int).length : Int) = 1 := rfl
    have w1 : wrap64 (0 + 1) = 1 := by decide +kernel
    simp only [if_true, Option.bind_some, word_open.l0, l1, rd_zero, top31, Int.zero_lt_one, Int.le_refl, w1]
    by_cases c : w ≥ 4294967296
    · rw [if_pos (by omega)]; simp [c]
    · rw [if_neg (by omega)]; simp [c]
  · by_cases h2 : f = 2
    · subst h2
      have l1 : (([w] : List Int).length : Int) = 1 := rfl
      have w1 : wrap64 (0 + 1) = 1 := by decide +kernel
      simp only [show (¬ ((2 : Int) = 1)) by decide, if_false, if_true, Option.bind_some, word_open.l0, l1, rd_zero, top63, Int.zero_lt_one, Int.le_refl, w1]
      rw [if_neg (by omega)]
      simp
    · simp [h1, h2]
theorem open_two (k : Nat) (f w v : Int) (hu : U w) (hv : U v) : word_open.f (k + 3) f [w, v] = some ((shp f).1, (shp f).2.1, (shp f).2.2, if err f w = 0 then err f v else err f w) := by
  obtain ⟨h0, h3⟩ := hu
  obtain ⟨g0, g3⟩ := hv
  unfold word_open.f word_shapeOf.f shp err
  by_cases h1 : f = 1
  · subst h1
    have l2 : (([w, v] : List Int).length : Int) = 2 := rfl
    have w1 : wrap64 (0 + 1) = 1 := by decide +kernel
    have w2 : wrap64 (1 + 1) = 2 := by decide +kernel
    simp only [if_true, Option.bind_some, word_open.l0, l2, rd_zero2, rd_one2, top31, Int.le_refl, w1, w2]
    by_cases c : w ≥ 4294967296
    · rw [if_pos (by omega), if_pos (by omega), if_pos (by omega)]; simp [c]
    · rw [if_pos (by omega), if_pos (by omega), if_neg (by omega), if_pos (by omega), if_pos (by omega), if_pos (by omega)]
      by_cases d : v ≥ 4294967296
      · rw [if_pos (by omega)]; simp [c, d]
      · rw [if_neg (by omega), if_neg (by omega)]; simp [c, d]
  · by_cases h2 : f = 2
    · subst h2
      have l2 : (([w, v] : List Int).length : Int) = 2 := rfl
      have w1 : wrap64 (0 + 1) = 1 := by decide +kernel
      have w2 : wrap64 (1 + 1) = 2 := by decide +kernel
      simp only [show (¬ ((2 : Int) = 1)) by decide, if_false, if_true, Option.bind_some, word_open.l0, l2, rd_zero2, rd_one2, top63, Int.le_refl, w1, w2]
      rw [if_pos (by omega), if_pos (by omega), if_neg (by omega), if_pos (by omega), if_pos (by omega), if_pos (by omega), if_neg (by omega), if_neg (by omega)]
    · simp [h1, h2]
theorem shape_inf1 : word_shape_inf.f 23 255 2147483648 = some 2139095040 := by decide +kernel
theorem shape_inf2 : word_shape_inf.f 52 2047 9223372036854775808 = some 9218868437227405312 := by decide +kernel
theorem shape_none1 : word_shape_none.f 23 255 2147483648 = some 2143289344 := by decide +kernel
theorem shape_none2 : word_shape_none.f 52 2047 9223372036854775808 = some 9221120237041090560 := by decide +kernel
theorem shl23 : shl .u64 1 23 = 8388608 := by decide +kernel
theorem shl52 : shl .u64 1 52 = 4503599627370496 := by decide +kernel
theorem shape_class {f w : Int} (h : Gd f w) : word_shape_class.f (shp f).1 (shp f).2.1 (shp f).2.2 w = some (cl f w) := by
  rcases h with ⟨rfl, h0, h1⟩ | ⟨rfl, h0, h1⟩
  · have e1 : shp 1 = (23, 255, 2147483648) := rfl
    rw [e1]
    simp only [word_shape_class.f, andNot31 h0 h1, shape_inf1, Option.bind_some, shl23, cl, cls, one, infw, sgn, if_true]
    repeat' split
    all_goals first | rfl | (exfalso; omega)
  · have e1 : shp 2 = (52, 2047, 9223372036854775808) := rfl
    rw [e1]
    simp only [word_shape_class.f, andNot63 h0 h1, shape_inf2, Option.bind_some, shl52, cl, cls, one, infw, sgn]
    simp only [show (¬ ((2 : Int) = 1)) by decide, if_false]
    repeat' split
    all_goals first | rfl | (exfalso; omega)
theorem class_good (k : Nat) {f w : Int} (h : Gd f w) : word_Class.f (k + 2) f w = some (cl f w, 0) := by
  unfold word_Class.f
  rw [open_one k f w h.u, h.err]
  simp only [Option.bind_some, if_true, shape_class h]
theorem good_word (k : Nat) {f w : Int} (hu : U w) : word_Good.f (k + 2) f w = some (err f w) := by
  unfold word_Good.f
  rw [open_one k f w hu]
  simp only [Option.bind_some]
theorem ref_Is (f : Int) : cutplaneref03_Is.f f = some (decide (f = 1 ∨ f = 2)) := by
  unfold cutplaneref03_Is.f
  by_cases h1 : f = 1
  · simp [h1]
  · rw [if_neg h1]; by_cases h2 : f = 2 <;> simp [h1, h2]
theorem ref_Good (f w : Int) : cutplaneref03_Good.f f w = some (err f w) := by
  unfold cutplaneref03_Good.f err
  rw [ref_Is]
  by_cases h1 : f = 1
  · subst h1; simp
    split <;> rfl
  · by_cases h2 : f = 2 <;> simp [h1, h2]
theorem ref_Split (f : Int) {w : Int} (hu : U w) : cutplaneref03_Split.f f w = some (decide (w ≥ sgn f), w % sgn f / one f, w % one f) := by
  unfold cutplaneref03_Split.f sgn one
  unfold U at hu
  rw [if_pos hu]
  split <;> rfl
theorem ref_Most (f : Int) : cutplaneref03_Most.f f = some (if f = 1 then 255 else 2047) := by unfold cutplaneref03_Most.f; split <;> rfl
theorem ref_Class (k : Nat) (f : Int) {w : Int} (hu : U w) : cutplaneref03_Class.f (k + 1) f w = some (cl f w) := by
  obtain ⟨h0, h1⟩ := hu
  unfold cutplaneref03_Class.f
  rw [ref_Split f ⟨h0, h1⟩]
  simp only [Option.bind_some, cutplaneref03_Class.j0, ref_Most]
  unfold cl cls sgn one infw
  by_cases hf : f = 1
  · simp only [hf, if_true]
    by_cases a : w % 2147483648 / 8388608 = 0
    · rw [if_pos a]
      by_cases b : w % 8388608 = 0
      · rw [if_pos (by simp [b]), if_pos (by omega)]
      · rw [if_neg (by simp [b]), if_pos a, if_neg (by omega), if_pos (by omega)]
    · rw [if_neg a, if_neg (by decide), if_neg a]
      by_cases c : w % 2147483648 / 8388608 < 255
      · rw [if_pos c, if_neg (by omega), if_neg (by omega), if_pos (by omega)]
      · rw [if_neg c]
        by_cases d : w % 8388608 = 0
        · rw [if_pos d, if_neg (by omega), if_neg (by omega), if_neg (by omega), if_pos (by omega)]
        · rw [if_neg d, if_neg (by omega), if_neg (by omega), if_neg (by omega), if_neg (by omega)]
  · simp only [hf, if_false]
    by_cases a : w % 9223372036854775808 / 4503599627370496 = 0
    · rw [if_pos a]
      by_cases b : w % 4503599627370496 = 0
      · rw [if_pos (by simp [b]), if_pos (by omega)]
      · rw [if_neg (by simp [b]), if_pos a, if_neg (by omega), if_pos (by omega)]
    · rw [if_neg a, if_neg (by decide), if_neg a]
      by_cases c : w % 9223372036854775808 / 4503599627370496 < 2047
      · rw [if_pos c, if_neg (by omega), if_neg (by omega), if_pos (by omega)]
      · rw [if_neg c]
        by_cases d : w % 4503599627370496 = 0
        · rw [if_pos d, if_neg (by omega), if_neg (by omega), if_neg (by omega), if_pos (by omega)]
        · rw [if_neg d, if_neg (by omega), if_neg (by omega), if_neg (by omega), if_neg (by omega)]
theorem ref_Sign (f : Int) : cutplaneref03_Sign.f f = some (sgn f) := by unfold cutplaneref03_Sign.f sgn; split <;> rfl
theorem ref_Frac (f : Int) : cutplaneref03_Frac.f f = some (if f = 1 then 23 else 52) := by unfold cutplaneref03_Frac.f; split <;> rfl
theorem ref_None (f : Int) : cutplaneref03_None.f f = some (nanw f) := by
  by_cases hf : f = 1
  · subst hf; decide +kernel
  · unfold cutplaneref03_None.f
    rw [ref_Most, ref_Frac]
    unfold nanw
    simp only [hf, if_false, Option.bind_some]
    have e : shl .u64 1 (wrap64 (52 - 1)) = 2251799813685248 := by decide +kernel
    have e0 : 0 ≤ wrap64 (52 - 1) := by decide +kernel
    have e1 : IntKind.u64.wrap (shl .u64 (IntKind.u64.wrap 2047) 52 + 2251799813685248) = 9221120237041090560 := by decide +kernel
    rw [if_pos e0, e]
    unfold cutplaneref03_Join.f
    rw [ref_Frac]
    simp [hf, e1]
theorem ref_Inf (f : Int) (b : Bool) : cutplaneref03_Inf.f f b = some (if b then infw f + sgn f else infw f) := by
  unfold cutplaneref03_Inf.f cutplaneref03_Join.f
  rw [ref_Most, ref_Frac, ref_Sign]
  unfold infw sgn
  by_cases hf : f = 1
  · have e1 : IntKind.u64.wrap (shl .u64 (IntKind.u64.wrap 255) 23 + 0) = 2139095040 := by decide +kernel
    have e2 : IntKind.u64.wrap (2139095040 + 2147483648) = 4286578688 := by decide +kernel
    simp only [hf, if_true, Option.bind_some, e1, e2]
    cases b <;> simp
  · have e1 : IntKind.u64.wrap (shl .u64 (IntKind.u64.wrap 2047) 52 + 0) = 9218868437227405312 := by decide +kernel
    have e2 : IntKind.u64.wrap (9218868437227405312 + 9223372036854775808) = 18442240474082181120 := by decide +kernel
    simp only [hf, if_false, Option.bind_some, e1, e2]
    cases b <;> simp
theorem ref_Signed (f : Int) {w : Int} (hu : U w) (b : Bool) : cutplaneref03_Signed.f f w b = some (if b then w % sgn f + sgn f else w % sgn f) := by
  obtain ⟨h0, h1⟩ := hu
  unfold cutplaneref03_Signed.f
  rw [ref_Sign]
  simp only [Option.bind_some]
  have hs : sgn f = 2147483648 ∨ sgn f = 9223372036854775808 := by unfold sgn; split <;> simp
  have e : Int.tmod w (sgn f) = w % sgn f := Int.tmod_eq_emod_of_nonneg h0
  rw [if_neg (by omega), e, wrapu64]
  have e2 : (w % sgn f + sgn f) % 18446744073709551616 = w % sgn f + sgn f := by rcases hs with h | h <;> rw [h] <;> omega
  rw [e2]
  cases b <;> simp
def canw (f w : Int) : Int := if cl f w = 5 then nanw f else w
def flipw (f w : Int) : Int := if w ≥ sgn f then w - sgn f else w + sgn f
def negw (f w : Int) : Int := if cl f w = 5 then nanw f else flipw f w
def cpw (f w s : Int) : Int := if cl f w = 5 then nanw f else if s ≥ sgn f then w % sgn f + sgn f else w % sgn f
theorem shape_none {f w : Int} (h : Gd f w) : word_shape_none.f (shp f).1 (shp f).2.1 (shp f).2.2 = some (nanw f) := by
  rcases h with ⟨rfl, _, _⟩ | ⟨rfl, _, _⟩
  · exact shape_none1
  · exact shape_none2
theorem turned_good (k : Nat) {f w : Int} (h : Gd f w) {g : Int → Int → Int → Option Int} {z : Int} (hg : g (shp f).1 (shp f).2.1 (shp f).2.2 = some z) :
    word_turned.f (k + 2) f w g = some (if cl f w = 5 then nanw f else z, 0) := by
  unfold word_turned.f
  rw [open_one k f w h.u, h.err]
  simp only [Option.bind_some, if_true, shape_class h, shape_none h, hg]
  split <;> rfl
theorem shp3 {f w : Int} (h : Gd f w) : (shp f).2.2 = sgn f := by
  rcases h with ⟨rfl, _, _⟩ | ⟨rfl, _, _⟩ <;> rfl
theorem canon_good (k : Nat) {f w : Int} (h : Gd f w) : word_Canon.f (k + 2) f w = some (canw f w, 0) := by
  unfold word_Canon.f
  rw [turned_good k h (z := w) rfl]; rfl
theorem neg_good (k : Nat) {f w : Int} (h : Gd f w) : word_Neg.f (k + 2) f w = some (negw f w, 0) := by
  unfold word_Neg.f
  rw [turned_good k h (z := flipw f w) ?_]
  · rfl
  · unfold word_Neg_1.f flipw
    rw [shp3 h]
    rcases h with ⟨rfl, h0, h1⟩ | ⟨rfl, h0, h1⟩
    · exact congrArg some (xor31 h0 h1)
    · exact congrArg some (xor63 h0 h1)
theorem copysign_good (k : Nat) {f w s : Int} (h : Gd f w) (hs : Gd f s) : word_CopySign.f (k + 3) f w s = some (cpw f w s, 0) := by
  unfold word_CopySign.f
  rw [open_two k f w s h.u hs.u, h.err, hs.err]
  simp only [Option.bind_some, if_true]
  rw [show k + 3 = (k + 1) + 2 from rfl, turned_good (k + 1) h (z := if s ≥ sgn f then w % sgn f + sgn f else w % sgn f) ?_]
  · rfl
  · unfold word_CopySign_1.f
    rw [shp3 h]
    rcases h with ⟨rfl, h0, h1⟩ | ⟨rfl, h0, h1⟩
    · rcases hs with ⟨_, g0, g1⟩ | ⟨e, _⟩
      · have e : sgn 1 = 2147483648 := rfl
        rw [e, andNot31 h0 h1, and31 g0 g1]
        split
        · rw [or31 (by omega) (by omega)]
        · rw [or0 (by omega) (by omega)]
      · exact absurd e (by decide)
    · rcases hs with ⟨e, _⟩ | ⟨_, g0, g1⟩
      · exact absurd e (by decide)
      · have e : sgn 2 = 9223372036854775808 := rfl
        rw [e, andNot63 h0 h1, and63 g0 g1]
        split
        · rw [or63 (by omega) (by omega)]
        · rw [or0 (by omega) (by omega)]
theorem nan_gd {f w : Int} (h : Gd f w) : Gd f (nanw f) := by
  rcases h with ⟨rfl, _, _⟩ | ⟨rfl, _, _⟩
  · exact .inl ⟨rfl, by decide, by decide⟩
  · exact .inr ⟨rfl, by decide, by decide⟩
theorem can_gd {f w : Int} (h : Gd f w) : Gd f (canw f w) := by unfold canw; split; exact nan_gd h; exact h
theorem ref_Canon (k : Nat) (f : Int) {w : Int} (hu : U w) : cutplaneref03_Canon.f (k + 1) f w = some (canw f w) := by
  unfold cutplaneref03_Canon.f canw
  rw [ref_Class k f hu]
  simp only [Option.bind_some, ref_None]
  split <;> rfl
theorem open_nil' (k : Nat) (f : Int) : word_open.f (k + 1) f ([] : List Int) = some ((shp f).1, (shp f).2.1, (shp f).2.2, if f = 1 ∨ f = 2 then 0 else 4) := open_nil k f
theorem cl_nan (f : Int) : cl f (nanw f) = 5 := by
  unfold cl cls nanw one infw sgn
  split <;> decide
end Go.Proofs.Ytgaabjjenlbmhaa.PA
end

section
namespace Go.Proofs.Ytgaabjjenlbmhaa.PA
open Go.RowKit Go.Proofs.YtgaabjjenlbmhaaW.PrintWords Go.Proofs.YtgaabjjenlbmhaaW.PrintLast Go.Proofs.YtgaabjjenlbmhaaW.PrintMore Go.Proofs.Ytgaabjjenlbmhaa.Wd
set_option linter.unusedSimpArgs false
set_option linter.unusedVariables false
theorem named_good (k : Nat) {f : Int} (hf : f = 1 ∨ f = 2) (b : Bool) {g : Int → Int → Int → Option Int} {z : Int} (hg : g (shp f).1 (shp f).2.1 (shp f).2.2 = some z) (h0 : 0 ≤ z) (h1 : z < sgn f) :
    word_named.f (k + 1) f b g = some (if b then z + sgn f else z, 0) := by
  unfold word_named.f
  rw [open_nil' k f]
  simp only [Option.bind_some, if_pos hf, if_true, hg]
  have e : Go.bits .or .u64 z (shp f).2.2 = z + sgn f := by
    rcases hf with rfl | rfl
    · exact or31 h0 h1
    · exact or63 h0 h1
  rw [e]
  cases b <;> rfl
theorem infw_lt (f : Int) : 0 ≤ infw f ∧ infw f < sgn f ∧ infw f < nanw f ∧ nanw f < sgn f ∧ one f < infw f ∧ 0 < one f := by unfold infw sgn nanw one; split <;> decide
theorem shape_inf {f : Int} (hf : f = 1 ∨ f = 2) : word_shape_inf.f (shp f).1 (shp f).2.1 (shp f).2.2 = some (infw f) := by
  rcases hf with rfl | rfl
  · exact shape_inf1
  · exact shape_inf2
theorem inf_good (k : Nat) {f : Int} (hf : f = 1 ∨ f = 2) (b : Bool) : word_Inf.f (k + 1) f b = some (if b then infw f + sgn f else infw f, 0) := by
  unfold word_Inf.f
  rw [named_good k hf b (z := infw f) (shape_inf hf) (infw_lt f).1 (infw_lt f).2.1]
  rfl
end Go.Proofs.Ytgaabjjenlbmhaa.PA
end

section
namespace Go.Proofs.Ytgaabjjenlbmhaa.PA
open Go.RowKit Go.Proofs.YtgaabjjenlbmhaaW.PrintWords Go.Proofs.YtgaabjjenlbmhaaW.PrintLast Go.Proofs.YtgaabjjenlbmhaaW.PrintMore Go.Proofs.Ytgaabjjenlbmhaa.Wd
set_option linter.unusedSimpArgs false
set_option linter.unusedVariables false
def errz (f a b : Int) : Int := if err f a = 0 then err f b else err f a
def Gz (f a b : Int) : Prop := Gd f a ∧ Gd f b
theorem gz_of {f a b : Int} (h : errz f a b = 0) (ha : U a) (hb : U b) : Gz f a b := by
  unfold errz at h
  by_cases e : err f a = 0
  · rw [if_pos e] at h; exact ⟨gd_of e ha, gd_of h hb⟩
  · rw [if_neg e] at h; exact absurd h e
theorem Gz.err {f a b : Int} (h : Gz f a b) : errz f a b = 0 := by unfold errz; rw [h.1.err, h.2.err]; rfl
theorem err_val (f w : Int) : err f w = 0 ∨ err f w = 4 ∨ err f w = 6 := by
  unfold PA.err; repeat' split
  all_goals simp
theorem err_four (f w : Int) : err f w = 4 ↔ ¬ (f = 1 ∨ f = 2) := by
  unfold PA.err; repeat' split
  all_goals simp_all
theorem good_pair (k : Nat) {f a b : Int} (ha : U a) (hb : U b) : pair_Good.f (k + 2) f a b = some (errz f a b) := by
  unfold pair_Good.f errz
  rw [good_word k ha]
  simp only [Option.bind_some, good_word k hb]
  split <;> rfl
theorem ref_Goodz (k : Nat) (f a b : Int) : cutplaneref10_Good.f (k + 2) f [⟨a, b⟩] = some (errz f a b) := by
  unfold cutplaneref10_Good.f errz
  rw [ref_Is]
  have l1 : (([⟨a, b⟩] : List S25).length : Int) = 1 := rfl
  have r0 : rd_T25 [⟨a, b⟩] 0 = ⟨a, b⟩ := rfl
  have w1 : wrap64 (0 + 1) = 1 := by decide +kernel
  by_cases hf : f = 1 ∨ f = 2
  · have ea := err_val f a
    have eb := err_val f b
    have fa : err f a ≠ 4 := fun c => (err_four f a).1 c hf
    have fb : err f b ≠ 4 := fun c => (err_four f b).1 c hf
    simp only [Option.bind_some, hf, decide_true, if_true, cutplaneref10_Good.l0, l1, r0, w1, ref_Good, Int.zero_lt_one, Int.le_refl]
    by_cases c : err f a = 0
    · rw [if_pos c, if_pos c]
      by_cases d : err f b = 0
      · rw [if_pos d, d]; rfl
      · rw [if_neg d]; congr 1; omega
    · rw [if_neg c, if_neg c]; congr 1; omega
  · have fa := (err_four f a).2 hf
    simp [hf, fa]
theorem each_good (k : Nat) {f a b : Int} (h : Gz f a b) {g g' : Int → Int → Option (Int × Int)} {x y x' y' : Int} (hg : g f a = some (x, x')) (hg' : g' f b = some (y, y')) :
    pair_each.f (k + 2) f a b g g' = some (x, y, 0) := by
  unfold pair_each.f
  rw [good_pair k h.1.u h.2.u, h.err]
  simp only [Option.bind_some, if_true, hg, hg']
theorem each_bad (k : Nat) {f a b : Int} (ha : U a) (hb : U b) (h : errz f a b ≠ 0) {g g' : Int → Int → Option (Int × Int)} :
    pair_each.f (k + 2) f a b g g' = some (0, 0, errz f a b) := by
  unfold pair_each.f
  rw [good_pair k ha hb]
  simp only [Option.bind_some]
  rw [if_neg h]
theorem canonz_good (k : Nat) {f a b : Int} (h : Gz f a b) : pair_Canon.f (k + 2) f a b = some (canw f a, canw f b, 0) := by
  unfold pair_Canon.f; rw [each_good k h (canon_good k h.1) (canon_good k h.2)]; rfl
theorem canonz_bad (k : Nat) {f a b : Int} (ha : U a) (hb : U b) (h : errz f a b ≠ 0) : pair_Canon.f (k + 2) f a b = some (0, 0, errz f a b) := by
  unfold pair_Canon.f; rw [each_bad k ha hb h]; rfl
theorem negz_good (k : Nat) {f a b : Int} (h : Gz f a b) : pair_Neg.f (k + 2) f a b = some (negw f a, negw f b, 0) := by
  unfold pair_Neg.f; rw [each_good k h (neg_good k h.1) (neg_good k h.2)]; rfl
/-- the last two bits of a whole number -/
theorem and3 {n : Int} (h0 : -9223372036854775808 ≤ n) (h1 : n < 9223372036854775808) : Go.bits .and .i64 n 3 = n % 4 := by
  obtain ⟨m, hm⟩ : ∃ m : Nat, (m : Int) = n % 18446744073709551616 := ⟨(n % 18446744073709551616).toNat, by omega⟩
  have e1 : (BitVec.ofInt 64 n).toNat = m := by
    rw [BitVec.toNat_ofInt]
    show (n % 18446744073709551616).toNat = m
    omega
  have e2 : ((BitVec.ofInt 64 n) &&& (BitVec.ofInt 64 3)).toNat = m % 4 := by
    rw [BitVec.toNat_and, e1]
    exact Nat.and_two_pow_sub_one_eq_mod m 2
  have e3 : Go.bits .and .i64 n 3 = IntKind.i64.wrap ((((BitVec.ofInt 64 n) &&& (BitVec.ofInt 64 3)).toNat : Nat) : Int) := rfl
  rw [e3, e2, IntKind.wrap_i64]
  omega
/-- turned m times -/
def tz (f m a b : Int) : Int × Int := if m = 1 then (negw f b, canw f a) else if m = 2 then (negw f a, negw f b) else if m = 3 then (canw f b, negw f a) else (canw f a, canw f b)
theorem turnz_good (k : Nat) {f a b n : Int} (h : Gz f a b) (h0 : -9223372036854775808 ≤ n) (h1 : n < 9223372036854775808) : pair_Turn.f (k + 2) f a b n = some ((tz f (n % 4) a b).1, (tz f (n % 4) a b).2, 0) := by
  have hs : Gz f b a := ⟨h.2, h.1⟩
  unfold pair_Turn.f tz
  rw [and3 h0 h1, each_good k hs (neg_good k hs.1) (canon_good k hs.2), negz_good k h, each_good k hs (canon_good k hs.1) (neg_good k hs.2), canonz_good k h]
  repeat' split
  all_goals first | rfl | simp_all
theorem ref_Canonz (k : Nat) {f a b : Int} (h : Gz f a b) : cutplaneref10_Canon.f (k + 1) f a b = some (canw f a, canw f b) := by
  unfold cutplaneref10_Canon.f
  rw [ref_Canon k f h.1.u, ref_Canon k f h.2.u]; rfl
def zc (f a b : Int) : Int := if cl f a = 4 ∨ cl f b = 4 then 3 else if cl f a = 5 ∨ cl f b = 5 then 4 else if cl f a = 1 ∧ cl f b = 1 then 1 else 2
theorem classz_good (k : Nat) {f a b : Int} (h : Gz f a b) : pair_Class.f (k + 2) f a b = some (zc f a b, 0) := by
  unfold pair_Class.f zc
  rw [class_good k h.1, class_good k h.2]
  simp only [Option.bind_some, if_true, pair_Class.j0, pair_Class.j1]
  by_cases a4 : cl f a = 4 <;> by_cases b4 : cl f b = 4 <;> by_cases a5 : cl f a = 5 <;> by_cases b5 : cl f b = 5 <;> by_cases a1 : cl f a = 1 <;> by_cases b1 : cl f b = 1 <;> simp_all
theorem ref_Classz (k : Nat) (f : Int) {a b : Int} (ha : U a) (hb : U b) : cutplaneref10_Class.f (k + 2) f a b = some (zc f a b) := by
  unfold cutplaneref10_Class.f zc
  rw [ref_Class (k + 1) f ha, ref_Class (k + 1) f hb]
  simp only [Option.bind_some, cutplaneref10_Class.j0, cutplaneref10_Class.j1]
  by_cases a4 : cl f a = 4 <;> by_cases b4 : cl f b = 4 <;> by_cases a5 : cl f a = 5 <;> by_cases b5 : cl f b = 5 <;> by_cases a1 : cl f a = 1 <;> by_cases b1 : cl f b = 1 <;> simp_all
theorem isz_same (a b c d : Int) : cutplanelaw10_is.f a b 0 c d 0 = some (if a = c ∧ b = d then true else false) := by
  unfold cutplanelaw10_is.f
  by_cases h : a = c <;> by_cases g : b = d <;> simp [h, g]
theorem isz_refused (e c d : Int) (h : e ≠ 0) : cutplanelaw10_is.f 0 0 e c d e = some true := by
  unfold cutplanelaw10_is.f
  simp [h]
theorem known10 (k : Nat) : cutplanelaw10_known.f (k + 2) = some true := by
  unfold cutplanelaw10_known.f
  rw [turnz_good k (f := 1) ⟨.inl ⟨rfl, by decide, by decide⟩, .inl ⟨rfl, by decide, by decide⟩⟩ (by decide) (by decide)]
  decide +kernel
end Go.Proofs.Ytgaabjjenlbmhaa.PA
end

section
namespace Go.Proofs.Ytgaabjjenlbmhaa.Pure
open Go.RowKit Go.Proofs.Ytgaabjjenlbmhaa.PA Go.Proofs.YtgaabjjenlbmhaaW.PrintWords Go.Proofs.YtgaabjjenlbmhaaW.PrintLast Go.Proofs.Ytgaabjjenlbmhaa.Wd
set_option linter.unusedSimpArgs false
set_option linter.unusedVariables false
theorem zc_can (f a b : Int) : zc f (canw f a) (canw f b) = zc f a b := by
  have e : ∀ w, cl f (canw f w) = cl f w := by
    intro w; unfold canw; split
    · rw [cl_nan]; rename_i h; exact h.symm
    · rfl
  unfold zc
  rw [e, e]
theorem proj_good (k : Nat) {f a b : Int} (h : Gz f a b) : pair_Proj.f (k + 3) f a b = some (if zc f a b = 3 then (infw f, if cl f b ≠ 5 ∧ b ≥ sgn f then sgn f else 0, 0) else (canw f a, canw f b, 0)) := by
  have hc : Gz f (canw f a) (canw f b) := ⟨can_gd h.1, can_gd h.2⟩
  have hf : f = 1 ∨ f = 2 := by rcases h.1 with ⟨e, _⟩ | ⟨e, _⟩ <;> simp [e]
  have h0 : Gd f 0 := by
    rcases hf with rfl | rfl
    · exact .inl ⟨rfl, by decide, by decide⟩
    · exact .inr ⟨rfl, by decide, by decide⟩
  unfold pair_Proj.f
  rw [show k + 3 = (k + 1) + 2 from rfl, canonz_good (k + 1) h]
  simp only [Option.bind_some, if_true]
  rw [classz_good (k + 1) hc, zc_can, inf_good (k + 2) hf, show (k + 1) + 2 = k + 3 from rfl, copysign_good k h0 hc.2]
  simp only [Option.bind_some]
  have e0 : cl f 0 ≠ 5 := by unfold cl cls; simp
  have e1 : cpw f 0 (canw f b) = if cl f b ≠ 5 ∧ b ≥ sgn f then sgn f else 0 := by
    unfold cpw canw
    rw [if_neg e0]
    have := infw_lt f
    by_cases c : cl f b = 5
    · rw [if_pos c, if_neg (by omega), if_neg (by simp [c])]; simp
    · rw [if_neg c]
      by_cases d : b ≥ sgn f
      · rw [if_pos d, if_pos ⟨c, d⟩]; simp
      · rw [if_neg d, if_neg (fun z => d z.2)]; simp
  rw [e1]
  split <;> rfl
theorem proj_bad (k : Nat) {f a b : Int} (ha : U a) (hb : U b) (h : errz f a b ≠ 0) : pair_Proj.f (k + 2) f a b = some (0, 0, errz f a b) := by
  unfold pair_Proj.f
  rw [canonz_bad k ha hb h]
  simp only [Option.bind_some]
  rw [if_neg h]
theorem ref_Proj (k : Nat) {f a b : Int} (h : Gz f a b) : cutplaneref10_Proj.f (k + 2) f a b = some (if zc f a b = 3 then (infw f, if cl f b ≠ 5 ∧ b ≥ sgn f then sgn f else 0) else (canw f a, canw f b)) := by
  have u0 : U 0 := ⟨by decide, by decide⟩
  unfold cutplaneref10_Proj.f
  rw [ref_Classz k f h.1.u h.2.u, ref_Canonz (k + 1) h, ref_Class (k + 1) f h.2.u, ref_Split f h.2.u]
  simp only [Option.bind_some, ref_Inf, ref_Signed f u0]
  by_cases z : zc f a b = 3
  · rw [if_pos z, if_pos z]
    by_cases c : cl f b = 5
    · rw [if_pos c]; simp [c]
    · rw [if_neg c]
      by_cases d : b ≥ sgn f
      · simp [c, d]
      · simp [c, d]
  · rw [if_neg z, if_neg z]
theorem PairProjects : cutplanelaw10_PairProjects.Pure := by
  intro f a b _ ha hb
  have ua := u_of ha
  have ub := u_of hb
  refine ⟨6, ?_⟩
  unfold cutplanelaw10_PairProjects.f
  rw [ref_Goodz 4]
  by_cases he : errz f a b = 0
  · have h := gz_of he ua ub
    rw [proj_good 3 h, ref_Proj 4 h]
    simp only [Option.bind_some, he, if_true]
    by_cases z : zc f a b = 3
    · simp only [if_pos z, isz_same, and_self, if_true, Option.bind_some, known10 4]
    · simp only [if_neg z, isz_same, and_self, if_true, Option.bind_some, known10 4]
  · rw [proj_bad 4 ua ub he]
    simp only [Option.bind_some, if_true, if_neg he, isz_refused _ _ _ he, known10 4]
end Go.Proofs.Ytgaabjjenlbmhaa.Pure
end
