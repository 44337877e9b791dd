/- Steps of Go functions that the law SpecialBoxes uses, told as plain Lean functions, each with the proof that its call comes to what it tells; words on memory; plain facts. No condition beyond those that each text names. -/
import Derived.Test.YtlgapmhjaaajfaaProg
import Derived.WalkMore
import Derived.Below
import Derived.Deep.Draws
import Derived.Deep.AppendLies
import Derived.Maps.AppendAt
import Derived.OwnWalk
import Derived.Laws.BytesArg
import Derived.Laws.MakeOwn
import Derived.Laws.OwnMore
import Derived.Deep.OwnRows
import Derived.Tactics
import Derived.Lib.ConvBytes
import Derived.Laws.Slices
import Derived.WalkKit
import Derived.KernelRfl
import Derived.RowKit3
import Derived.Deep.LoopGhost
import Derived.Deep.QuietTactic
import Derived.BigQuiet
import Derived.WideLaws
import Derived.Deep.DeepCutAuto
import Derived.Deep.CutBlock
import Derived.Deep.RegionHeld3
import Derived.Laws.Rows
import Derived.Lib.AppendStr
import Derived.ArgAppend
import Derived.Laws.IdiomCopy
import Derived.OrdersHeld
import Derived.Laws.BitsLemmas
import Derived.RowKit
import Derived.Laws.StructEq
import Derived.Laws.BitsAllLaws
import Derived.OpenShut
import Derived.Test.YtlgapmhjaaajfaaSSpecialBoxes0
import Derived.Test.YtlgapmhjaaajfaaSSpecialBoxes1
import Derived.Test.YtlgapmhjaaajfaaSSpecialBoxes2
import Derived.Test.YtlgapmhjaaajfaaSSpecialBoxes3
import Derived.Test.YtlgapmhjaaajfaaSSpecialBoxes4
import Derived.Test.YtlgapmhjaaajfaaSSpecialBoxes5
import Derived.Test.YtlgapmhjaaajfaaSSpecialBoxes6
import Derived.Test.YtlgapmhjaaajfaaSSpecialBoxes7
import Derived.Test.YtlgapmhjaaajfaaSSpecialBoxes8
import Derived.Test.YtlgapmhjaaajfaaSSpecialBoxes9
section
namespace Go.Proofs.Ytlgapmhjaaajfaa.PA
open Go.RowKit Go.Proofs.YtlgapmhjaaajfaaW.PrintWords Go.Proofs.YtlgapmhjaaajfaaW.PrintLast Go.Proofs.YtlgapmhjaaajfaaW.PrintMore
attribute [local go_sem] max2_int min2_int max_two min_two max_three min_three max_four min_four   -- for this text's walks alone
set_option linter.unusedVariables false
set_option linter.unusedSimpArgs false
def special_Box.f (k : Nat) (a0 : Int) (a1_0 : Int) (a1_1 : Int) : Option (Int × Int × Int) := (pair_Class.f k a0 a1_0 a1_1).bind fun bt845 => (if bt845.2 = 0 then (if bt845.1 = 4 then (some (0, 0, 7)) else ((word_Of.f k a0 false (([1] : List Int)) 0).bind fun bt850 => ((special_boxOf.f k a0 a1_0 a1_1 bt845.1).bind fun bt852 => ((special_box_words.f k bt852.1 bt852.2.1 bt852.2.2.1 bt852.2.2.2 a0 bt850.1).bind fun bt856 => (some (bt856.1, bt856.2, 0)))))) else (some (0, 0, bt845.2)))
set_option maxHeartbeats 2000000 in
set_option maxRecDepth 100000 in
theorem special_Box.calls (k : Nat) (a0 : Int) (a1_0 : Int) (a1_1 : Int) (r1 : Int) (r2 : Int) (r3 : Int) (w : World) (h : special_Box.f k a0 a1_0 a1_1 = some (r1, r2, r3)) :
    Calls Try.prog 10 #[.int .u8 a0, .agg #[.int .u64 a1_0, .int .u64 a1_1]] w fun e w' => e = .returned (.tuple #[.agg #[.int .u64 r1, .int .u64 r2], .int .i64 r3]) ∧ Below w.heap.size w w' := by
  have hu26 := Try.underlying26
  have hu69 := Try.underlying69
  have HB := Aside0.mk (Below.refl w.heap.size w)
  have H : ((pair_Class.f k a0 a1_0 a1_1).bind fun bt845 => (if bt845.2 = 0 then (if bt845.1 = 4 then (some (0, 0, 7)) else ((word_Of.f k a0 false (([1] : List Int)) 0).bind fun bt850 => ((special_boxOf.f k a0 a1_0 a1_1 bt845.1).bind fun bt852 => ((special_box_words.f k bt852.1 bt852.2.1 bt852.2.2.1 bt852.2.2.2 a0 bt850.1).bind fun bt856 => (some (bt856.1, bt856.2, 0)))))) else (some (0, 0, bt845.2)))) = some (r1, r2, r3) := h
  clear h
  replace H := Option.bind_eq_some_iff.mp H
  obtain ⟨⟨t845, t846⟩, A30, H⟩ := H
  replace H : (if t846 = 0 then (if t845 = 4 then (some (0, 0, 7)) else ((word_Of.f k a0 false (([1] : List Int)) 0).bind fun bt850 => ((special_boxOf.f k a0 a1_0 a1_1 t845).bind fun bt852 => ((special_box_words.f k bt852.1 bt852.2.1 bt852.2.2.1 bt852.2.2.2 a0 bt850.1).bind fun bt856 => (some (bt856.1, bt856.2, 0)))))) else (some (0, 0, t846))) = some (r1, r2, r3) := H
  have A3 := Aside0.mk A30
  clear A30
  by_cases c4 : t846 = 0
  · rw [if_pos c4] at H
    have c4b0 : (t846 == 0) = true := beq_iff_eq.mpr c4
    have c4b1 : (t846 != 0) = false := bne_eq_false_iff_eq.mpr c4
    clear c4
    by_cases c5 : t845 = 4
    · rw [if_pos c5] at H
      have c5b0 : (t845 == 4) = true := beq_iff_eq.mpr c5
      have c5b1 : (t845 != 4) = false := bne_eq_false_iff_eq.mpr c5
      clear c5
      simp only [Option.some.injEq, Prod.mk.injEq] at H
      obtain ⟨rfl, rfl, rfl⟩ := H
      go_enter Try.func10, Try.ntmps10
      go_wp2_with (first | ((with_reducible refine gate_dst (N := 3) rfl ?_); refine box_event ?hg (N := 3) ?hd (cs := #[.int .u64 a1_0, .int .u64 a1_1]) (t := 26) ?hr ?_; (case hd => rfl); (case hg => rfl); (case hr => first | (go_simp; done) | (go_simp; rfl)); intro gb843 hg w6 hbox hb; have n0_ := Aside0.mk (below_step (by repeat (first | (with_reducible first | exact HB.out | apply below_alloc | apply pw_below_drewN | apply below_drew1) | exact HB.out)) hb); have n1_ := Aside0.mk (hbox); have n2_ := Aside0.mk ((by rw [hg]; exact (below_size (by repeat (first | (with_reducible first | exact HB.out | apply below_alloc | apply pw_below_drewN | apply below_drew1) | exact HB.out))) : w.heap.size ≤ gb843)); have n3_ := Aside0.mk ((by rw [hg]; exact (below_size (by repeat (first | (with_reducible first | exact HB.out | apply below_alloc | apply pw_below_drewN | apply below_drew1) | exact HB.out))) : w.heap.size ≤ gb843)); clear HB; have HB := n0_; have BK843 := n1_; have GW843 := n2_; have GE843 := n3_; clear n0_ n1_ n2_ n3_; clear hb hbox hg) | ((with_reducible refine gate_dst (N := 4) rfl ?_); refine box_event ?hg (N := 4) ?hd (cs := #[.int .u64 0, .int .u64 0]) (t := 26) ?hr ?_; (case hd => rfl); (case hg => rfl); (case hr => first | (go_simp; done) | (go_simp; rfl)); intro gb844 hg w7 hbox hb; have n0_ := Aside0.mk (blk_below (g := gb843) (o := .cells #[.int .u64 a1_0, .int .u64 a1_1] 26 (0, 0)) (by (with_reducible repeat (first | refine blk_drewN ?_ _ | refine blk_drew ?_ | refine blk_alloc ?_ _)); exact BK843.out) hb); have n1_ := Aside0.mk (below_step (by repeat (first | (with_reducible first | exact HB.out | apply below_alloc | apply pw_below_drewN | apply below_drew1 | refine below_set ?_ GE843.out) | exact HB.out)) hb); have n2_ := Aside0.mk (hbox); have n3_ := Aside0.mk ((by rw [hg]; exact (below_size (by repeat (first | (with_reducible first | exact HB.out | apply below_alloc | apply pw_below_drewN | apply below_drew1 | refine below_set ?_ GE843.out) | exact HB.out))) : w.heap.size ≤ gb844)); have n4_ := Aside0.mk ((by rw [hg]; exact (below_size (by repeat (first | (with_reducible first | exact HB.out | apply below_alloc | apply pw_below_drewN | apply below_drew1 | refine below_set ?_ GE843.out) | exact HB.out))) : w.heap.size ≤ gb844)); have n5_ := Aside0.mk ((by rw [hg]; exact Nat.ne_of_lt (blk_lt (g := gb843) (o := .cells #[.int .u64 a1_0, .int .u64 a1_1] 26 (0, 0)) (by (with_reducible repeat (first | refine blk_drewN ?_ _ | refine blk_drew ?_ | refine blk_alloc ?_ _)); exact BK843.out)) : gb843 ≠ gb844)); have n6_ := Aside0.mk ((by rw [hg]; exact Nat.ne_of_gt (blk_lt (g := gb843) (o := .cells #[.int .u64 a1_0, .int .u64 a1_1] 26 (0, 0)) (by (with_reducible repeat (first | refine blk_drewN ?_ _ | refine blk_drew ?_ | refine blk_alloc ?_ _)); exact BK843.out)) : gb844 ≠ gb843)); clear BK843; clear HB; have BK843 := n0_; have HB := n1_; have BK844 := n2_; have GW844 := n3_; have GE844 := n4_; have NB843_844 := n5_; have NB844_843 := n6_; clear n0_ n1_ n2_ n3_ n4_ n5_ n6_; clear hb hbox hg; have hnb8 := NB843_844.out; have hnc8 := NB844_843.out; have hcz9_0 : w7.cell? ⟨gb843, 0, none⟩ = some (.int .u64 a1_0) := (blk_cell BK843.out 0).trans rfl; have hcz9_1 : w7.cell? ⟨gb843, 1, none⟩ = some (.int .u64 a1_1) := (blk_cell BK843.out 1).trans rfl; have hfz9_0 := blk_frozen BK843.out 0; have hfz9_1 := blk_frozen BK843.out 1) | ((with_reducible refine gate_callee (f := 27) rfl ?_); refine goesL_ (some 13) rfl rfl Try.func27 (by kernel_rfl) rfl #[.int .u8 a0, .agg #[.int .u64 a1_0, .int .u64 a1_1]] rfl (by (try simp only [List.map_toArray, List.map_cons, List.map_nil]); first | done | rfl | (simp only [List.length_drop, List.length_take]; rfl)) ?_; (with_reducible refine (pair_Class.calls k a0 a1_0 a1_1 t845 t846 _ A3.out).mono ?_); rintro e w10 ⟨rfl, hb⟩; refine ⟨_, rfl, ?_⟩; have n0_ := Aside0.mk (blk_below (g := gb843) (o := .cells #[.int .u64 a1_0, .int .u64 a1_1] 26 (0, 0)) (by (with_reducible repeat (first | refine blk_drewN ?_ _ | refine blk_drew ?_ | refine blk_alloc ?_ _)); exact BK843.out) hb); have n1_ := Aside0.mk (blk_below (g := gb844) (o := .cells #[.int .u64 0, .int .u64 0] 26 (0, 0)) (by (with_reducible repeat (first | refine blk_drewN ?_ _ | refine blk_drew ?_ | refine blk_alloc ?_ _)); exact BK844.out) hb); have n2_ := Aside0.mk (below_step (by repeat (first | (with_reducible first | exact HB.out | apply below_alloc | apply pw_below_drewN | apply below_drew1 | refine below_set ?_ GE843.out | refine below_set ?_ GE844.out) | exact HB.out)) hb); clear BK843; clear BK844; clear HB; have BK843 := n0_; have BK844 := n1_; have HB := n2_; clear n0_ n1_ n2_; (try clear hb); (try clear hb2); (try clear hk); (try clear hi); have hcz11_0 : w10.cell? ⟨gb844, 0, none⟩ = some (.int .u64 0) := (blk_cell BK844.out 0).trans rfl; have hcz11_1 : w10.cell? ⟨gb844, 1, none⟩ = some (.int .u64 0) := (blk_cell BK844.out 1).trans rfl; have hfz11_0 := blk_frozen BK844.out 0; have hfz11_1 := blk_frozen BK844.out 1))
      refine bodyPost_ret (results_ct rfl _ _ gb844 26 #[.int .u64 0, .int .u64 0] (0, 0) _ rfl (by (with_reducible repeat (first | refine blk_drewN ?_ _ | refine blk_drew ?_ | refine blk_alloc ?_ _)); refine blk_put (cs := #[.int .u64 0, .int .u64 0]) ?_ 1 _ rfl; (with_reducible repeat (first | refine blk_drewN ?_ _ | refine blk_drew ?_ | refine blk_alloc ?_ _)); refine blk_put (cs := #[.int .u64 0, .int .u64 0]) ?_ 0 _ rfl; (with_reducible repeat (first | refine blk_drewN ?_ _ | refine blk_drew ?_ | refine blk_alloc ?_ _)); exact BK844.out) Try.underlying26 rfl (by kernel_rfl)) rfl ?_
      exact ⟨by first | rfl | (simp [errW_none, errW_some] <;> rfl) | (simp [*, errW_none, errW_some] <;> rfl), by repeat (first | (with_reducible first | exact HB.out | apply below_alloc | apply pw_below_drewN | apply below_drew1 | refine below_set ?_ GE843.out | refine below_set ?_ GE844.out) | exact HB.out)⟩
    · rw [if_neg c5] at H
      have c5b0 : (t845 == 4) = false := beq_eq_false_iff_ne.mpr c5
      have c5b1 : (t845 != 4) = true := bne_iff_ne.mpr c5
      obtain ⟨y847, hy847⟩ : ∃ y_ : List Int, y_ = (([1] : List Int)) := ⟨_, rfl⟩
      replace H : ((word_Of.f k a0 false y847 0).bind fun bt850 => ((special_boxOf.f k a0 a1_0 a1_1 t845).bind fun bt852 => ((special_box_words.f k bt852.1 bt852.2.1 bt852.2.2.1 bt852.2.2.2 a0 bt850.1).bind fun bt856 => (some (bt856.1, bt856.2, 0))))) = some (r1, r2, r3) := by first | (rw [hy847]; with_reducible exact H) | (have H2_ := (Option.bind_some _ _).symm.trans H; rw [hy847]; with_reducible exact H2_) | (have H2_ := (Option.bind_some _ _).symm.trans H; with_reducible exact H2_) | with_reducible exact H | (rw [hy847]; exact H) | exact H
      have Ny847 := Aside0.mk hy847
      clear hy847
      replace H := Option.bind_eq_some_iff.mp H
      obtain ⟨⟨t850, t851⟩, A120, H⟩ := H
      replace H : ((special_boxOf.f k a0 a1_0 a1_1 t845).bind fun bt852 => ((special_box_words.f k bt852.1 bt852.2.1 bt852.2.2.1 bt852.2.2.2 a0 t850).bind fun bt856 => (some (bt856.1, bt856.2, 0)))) = some (r1, r2, r3) := H
      have A12 := Aside0.mk A120
      clear A120
      replace H := Option.bind_eq_some_iff.mp H
      obtain ⟨⟨t852, t853, t854, t855⟩, A130, H⟩ := H
      replace H : ((special_box_words.f k t852 t853 t854 t855 a0 t850).bind fun bt856 => (some (bt856.1, bt856.2, 0))) = some (r1, r2, r3) := H
      have A13 := Aside0.mk A130
      clear A130
      replace H := Option.bind_eq_some_iff.mp H
      obtain ⟨⟨t856, t857⟩, A140, H⟩ := H
      replace H : (some (t856, t857, 0)) = some (r1, r2, r3) := H
      have A14 := Aside0.mk A140
      clear A140
      simp only [Option.some.injEq, Prod.mk.injEq] at H
      obtain ⟨rfl, rfl, rfl⟩ := H
      go_enter Try.func10, Try.ntmps10
      go_wp2_with (first | ((with_reducible refine gate_dst (N := 3) rfl ?_); refine box_event ?hg (N := 3) ?hd (cs := #[.int .u64 a1_0, .int .u64 a1_1]) (t := 26) ?hr ?_; (case hd => rfl); (case hg => rfl); (case hr => first | (go_simp; done) | (go_simp; rfl)); intro gb843 hg w15 hbox hb; have n0_ := Aside0.mk (below_step (by repeat (first | (with_reducible first | exact HB.out | apply below_alloc | apply pw_below_drewN | apply below_drew1) | exact HB.out)) hb); have n1_ := Aside0.mk (hbox); have n2_ := Aside0.mk ((by rw [hg]; exact (below_size (by repeat (first | (with_reducible first | exact HB.out | apply below_alloc | apply pw_below_drewN | apply below_drew1) | exact HB.out))) : w.heap.size ≤ gb843)); have n3_ := Aside0.mk ((by rw [hg]; exact (below_size (by repeat (first | (with_reducible first | exact HB.out | apply below_alloc | apply pw_below_drewN | apply below_drew1) | exact HB.out))) : w.heap.size ≤ gb843)); clear HB; have HB := n0_; have BK843 := n1_; have GW843 := n2_; have GE843 := n3_; clear n0_ n1_ n2_ n3_; clear hb hbox hg) | ((with_reducible refine gate_dst (N := 4) rfl ?_); refine box_event ?hg (N := 4) ?hd (cs := #[.int .u64 0, .int .u64 0]) (t := 26) ?hr ?_; (case hd => rfl); (case hg => rfl); (case hr => first | (go_simp; done) | (go_simp; rfl)); intro gb844 hg w16 hbox hb; have n0_ := Aside0.mk (blk_below (g := gb843) (o := .cells #[.int .u64 a1_0, .int .u64 a1_1] 26 (0, 0)) (by (with_reducible repeat (first | refine blk_drewN ?_ _ | refine blk_drew ?_ | refine blk_alloc ?_ _)); exact BK843.out) hb); have n1_ := Aside0.mk (below_step (by repeat (first | (with_reducible first | exact HB.out | apply below_alloc | apply pw_below_drewN | apply below_drew1 | refine below_set ?_ GE843.out) | exact HB.out)) hb); have n2_ := Aside0.mk (hbox); have n3_ := Aside0.mk ((by rw [hg]; exact (below_size (by repeat (first | (with_reducible first | exact HB.out | apply below_alloc | apply pw_below_drewN | apply below_drew1 | refine below_set ?_ GE843.out) | exact HB.out))) : w.heap.size ≤ gb844)); have n4_ := Aside0.mk ((by rw [hg]; exact (below_size (by repeat (first | (with_reducible first | exact HB.out | apply below_alloc | apply pw_below_drewN | apply below_drew1 | refine below_set ?_ GE843.out) | exact HB.out))) : w.heap.size ≤ gb844)); have n5_ := Aside0.mk ((by rw [hg]; exact Nat.ne_of_lt (blk_lt (g := gb843) (o := .cells #[.int .u64 a1_0, .int .u64 a1_1] 26 (0, 0)) (by (with_reducible repeat (first | refine blk_drewN ?_ _ | refine blk_drew ?_ | refine blk_alloc ?_ _)); exact BK843.out)) : gb843 ≠ gb844)); have n6_ := Aside0.mk ((by rw [hg]; exact Nat.ne_of_gt (blk_lt (g := gb843) (o := .cells #[.int .u64 a1_0, .int .u64 a1_1] 26 (0, 0)) (by (with_reducible repeat (first | refine blk_drewN ?_ _ | refine blk_drew ?_ | refine blk_alloc ?_ _)); exact BK843.out)) : gb844 ≠ gb843)); clear BK843; clear HB; have BK843 := n0_; have HB := n1_; have BK844 := n2_; have GW844 := n3_; have GE844 := n4_; have NB843_844 := n5_; have NB844_843 := n6_; clear n0_ n1_ n2_ n3_ n4_ n5_ n6_; clear hb hbox hg; have hnb17 := NB843_844.out; have hnc17 := NB844_843.out; have hcz18_0 : w16.cell? ⟨gb843, 0, none⟩ = some (.int .u64 a1_0) := (blk_cell BK843.out 0).trans rfl; have hcz18_1 : w16.cell? ⟨gb843, 1, none⟩ = some (.int .u64 a1_1) := (blk_cell BK843.out 1).trans rfl; have hfz18_0 := blk_frozen BK843.out 0; have hfz18_1 := blk_frozen BK843.out 1) | ((with_reducible refine gate_callee (f := 27) rfl ?_); refine goesL_ (some 13) rfl rfl Try.func27 (by kernel_rfl) rfl #[.int .u8 a0, .agg #[.int .u64 a1_0, .int .u64 a1_1]] rfl (by (try simp only [List.map_toArray, List.map_cons, List.map_nil]); first | done | rfl | (simp only [List.length_drop, List.length_take]; rfl)) ?_; (with_reducible refine (pair_Class.calls k a0 a1_0 a1_1 t845 t846 _ A3.out).mono ?_); rintro e w19 ⟨rfl, hb⟩; refine ⟨_, rfl, ?_⟩; have n0_ := Aside0.mk (blk_below (g := gb843) (o := .cells #[.int .u64 a1_0, .int .u64 a1_1] 26 (0, 0)) (by (with_reducible repeat (first | refine blk_drewN ?_ _ | refine blk_drew ?_ | refine blk_alloc ?_ _)); exact BK843.out) hb); have n1_ := Aside0.mk (blk_below (g := gb844) (o := .cells #[.int .u64 0, .int .u64 0] 26 (0, 0)) (by (with_reducible repeat (first | refine blk_drewN ?_ _ | refine blk_drew ?_ | refine blk_alloc ?_ _)); exact BK844.out) hb); have n2_ := Aside0.mk (below_step (by repeat (first | (with_reducible first | exact HB.out | apply below_alloc | apply pw_below_drewN | apply below_drew1 | refine below_set ?_ GE843.out | refine below_set ?_ GE844.out) | exact HB.out)) hb); clear BK843; clear BK844; clear HB; have BK843 := n0_; have BK844 := n1_; have HB := n2_; clear n0_ n1_ n2_; (try clear hb); (try clear hb2); (try clear hk); (try clear hi)) | ((with_reducible refine gate_dst (N := 27) rfl ?_); refine Kd.R_lit (Kd.int .u32) _ 66 ?hg (N := 27) ?hd (xs := ([1] : List Int)) (inner := [.int .u32 1]) (ok := fun _ => True) (okp := fun _ => True) ?hr ?hp (fun _ hk => hk) trivial (Below.refl _ _) (Nat.le_refl _) (by simp) ?_; (case hd => rfl); (case hg => rfl); (case hr => first | (go_simp; done) | (go_simp; rfl)); (case hp => exact (Reps.one (show Kd.M (Kd.int .u32) _ _ _ 1 [.int .u32 1] from rfl) (Reps.none _ _))); intro v848 w20 ho21 hb hg_ hnew_; clear hg_ hnew_; (first | rw [← Ny847.out] at ho21 | (simp only [Int.reduceToNat] at ho21; rw [← Ny847.out] at ho21)); have n0_ := Aside0.mk (Kd.R_lower ho21 (below_size (by repeat (first | (with_reducible first | exact HB.out | apply below_alloc | apply pw_below_drewN | apply below_drew1 | refine below_set ?_ GE843.out | refine below_set ?_ GE844.out) | exact HB.out)))); have n1_ := Aside0.mk (blk_below (g := gb843) (o := .cells #[.int .u64 a1_0, .int .u64 a1_1] 26 (0, 0)) (by (with_reducible repeat (first | refine blk_drewN ?_ _ | refine blk_drew ?_ | refine blk_alloc ?_ _)); exact BK843.out) hb); have n2_ := Aside0.mk (blk_below (g := gb844) (o := .cells #[.int .u64 0, .int .u64 0] 26 (0, 0)) (by (with_reducible repeat (first | refine blk_drewN ?_ _ | refine blk_drew ?_ | refine blk_alloc ?_ _)); exact BK844.out) hb); have n3_ := Aside0.mk (below_step (by repeat (first | (with_reducible first | exact HB.out | apply below_alloc | apply pw_below_drewN | apply below_drew1 | refine below_set ?_ GE843.out | refine below_set ?_ GE844.out) | exact HB.out)) hb); clear BK843; clear BK844; clear HB; have HO849 := n0_; have BK843 := n1_; have BK844 := n2_; have HB := n3_; clear n0_ n1_ n2_ n3_; clear hb ho21; obtain ⟨Ao22, co22, eo22⟩ := Kd.R_slice HO849.out; subst eo22) | ((with_reducible refine gate_callee (f := 28) rfl ?_); refine goesL_ (some 29) rfl rfl Try.func28 (by kernel_rfl) rfl #[.int .u8 a0, .agg #[.bool false, .slice Ao22 y847.length co22, .int .i64 0]] rfl (by (try simp only [List.map_toArray, List.map_cons, List.map_nil]); first | done | rfl | (simp only [List.length_drop, List.length_take]; rfl)) ?_; (with_reducible refine (word_Of.calls k a0 false _ _ y847 0 t850 t851 _ ?side1 ?side2 A12.out).mono ?_); (case side1 => repeat (first | exact (Kd.R_reads' HO849.out).2.2 | (with_reducible refine Kd.C_alloc ?_ _) | (with_reducible refine Kd.C_drewN ?_ _) | (with_reducible refine Kd.C_drew ?_))); (case side2 => exact (Kd.R_reads' HO849.out).2.1); rintro e w23 ⟨rfl, hb⟩; refine ⟨_, rfl, ?_⟩; have n0_ := Aside0.mk (Kd.R_below (by (with_reducible repeat (first | apply Kd.R_alloc | apply Kd.R_drewN | apply Kd.R_drew)); exact HO849.out) hb); have n1_ := Aside0.mk (blk_below (g := gb843) (o := .cells #[.int .u64 a1_0, .int .u64 a1_1] 26 (0, 0)) (by (with_reducible repeat (first | refine blk_drewN ?_ _ | refine blk_drew ?_ | refine blk_alloc ?_ _)); exact BK843.out) hb); have n2_ := Aside0.mk (blk_below (g := gb844) (o := .cells #[.int .u64 0, .int .u64 0] 26 (0, 0)) (by (with_reducible repeat (first | refine blk_drewN ?_ _ | refine blk_drew ?_ | refine blk_alloc ?_ _)); exact BK844.out) hb); have n3_ := Aside0.mk (below_step (by repeat (first | (with_reducible first | exact HB.out | apply below_alloc | apply pw_below_drewN | apply below_drew1 | refine below_set ?_ GE843.out | refine below_set ?_ GE844.out) | exact HB.out)) hb); clear HO849; clear BK843; clear BK844; clear HB; have HO849 := n0_; have BK843 := n1_; have BK844 := n2_; have HB := n3_; clear n0_ n1_ n2_ n3_; (try clear hb); (try clear hb2); (try clear hk); (try clear hi); have hcz24_0 : w23.cell? ⟨gb843, 0, none⟩ = some (.int .u64 a1_0) := (blk_cell BK843.out 0).trans rfl; have hcz24_1 : w23.cell? ⟨gb843, 1, none⟩ = some (.int .u64 a1_1) := (blk_cell BK843.out 1).trans rfl; have hfz24_0 := blk_frozen BK843.out 0; have hfz24_1 := blk_frozen BK843.out 1) | ((with_reducible refine gate_callee (f := 19) rfl ?_); refine goesL_ (some 35) rfl rfl Try.func19 (by kernel_rfl) rfl #[.int .u8 a0, .agg #[.int .u64 a1_0, .int .u64 a1_1], .int .u8 t845] rfl (by (try simp only [List.map_toArray, List.map_cons, List.map_nil]); first | done | rfl | (simp only [List.length_drop, List.length_take]; rfl)) ?_; (with_reducible refine (special_boxOf.calls k a0 a1_0 a1_1 t845 t852 t853 t854 t855 _ A13.out).mono ?_); rintro e w25 ⟨rfl, hb⟩; refine ⟨_, rfl, ?_⟩; have n0_ := Aside0.mk (Kd.R_below (by (with_reducible repeat (first | apply Kd.R_alloc | apply Kd.R_drewN | apply Kd.R_drew)); exact HO849.out) hb); have n1_ := Aside0.mk (blk_below (g := gb843) (o := .cells #[.int .u64 a1_0, .int .u64 a1_1] 26 (0, 0)) (by (with_reducible repeat (first | refine blk_drewN ?_ _ | refine blk_drew ?_ | refine blk_alloc ?_ _)); exact BK843.out) hb); have n2_ := Aside0.mk (blk_below (g := gb844) (o := .cells #[.int .u64 0, .int .u64 0] 26 (0, 0)) (by (with_reducible repeat (first | refine blk_drewN ?_ _ | refine blk_drew ?_ | refine blk_alloc ?_ _)); exact BK844.out) hb); have n3_ := Aside0.mk (below_step (by repeat (first | (with_reducible first | exact HB.out | apply below_alloc | apply pw_below_drewN | apply below_drew1 | refine below_set ?_ GE843.out | refine below_set ?_ GE844.out) | exact HB.out)) hb); clear HO849; clear BK843; clear BK844; clear HB; have HO849 := n0_; have BK843 := n1_; have BK844 := n2_; have HB := n3_; clear n0_ n1_ n2_ n3_; (try clear hb); (try clear hb2); (try clear hk); (try clear hi)) | ((with_reducible refine gate_callee (f := 21) rfl ?_); refine goesL_ (some 38) rfl rfl Try.func21 (by kernel_rfl) rfl #[.agg #[.int .i64 t852, .bool t853, .int .i64 t854, .bool t855], .int .u8 a0, .int .u64 t850] rfl (by (try simp only [List.map_toArray, List.map_cons, List.map_nil]); first | done | rfl | (simp only [List.length_drop, List.length_take]; rfl)) ?_; (with_reducible refine (special_box_words.calls k t852 t853 t854 t855 a0 t850 t856 t857 _ A14.out).mono ?_); rintro e w26 ⟨rfl, hb⟩; refine ⟨_, rfl, ?_⟩; have n0_ := Aside0.mk (Kd.R_below (by (with_reducible repeat (first | apply Kd.R_alloc | apply Kd.R_drewN | apply Kd.R_drew)); exact HO849.out) hb); have n1_ := Aside0.mk (blk_below (g := gb843) (o := .cells #[.int .u64 a1_0, .int .u64 a1_1] 26 (0, 0)) (by (with_reducible repeat (first | refine blk_drewN ?_ _ | refine blk_drew ?_ | refine blk_alloc ?_ _)); exact BK843.out) hb); have n2_ := Aside0.mk (blk_below (g := gb844) (o := .cells #[.int .u64 0, .int .u64 0] 26 (0, 0)) (by (with_reducible repeat (first | refine blk_drewN ?_ _ | refine blk_drew ?_ | refine blk_alloc ?_ _)); exact BK844.out) hb); have n3_ := Aside0.mk (below_step (by repeat (first | (with_reducible first | exact HB.out | apply below_alloc | apply pw_below_drewN | apply below_drew1 | refine below_set ?_ GE843.out | refine below_set ?_ GE844.out) | exact HB.out)) hb); clear HO849; clear BK843; clear BK844; clear HB; have HO849 := n0_; have BK843 := n1_; have BK844 := n2_; have HB := n3_; clear n0_ n1_ n2_ n3_; (try clear hb); (try clear hb2); (try clear hk); (try clear hi); have hcz27_0 : w26.cell? ⟨gb844, 0, none⟩ = some (.int .u64 0) := (blk_cell BK844.out 0).trans rfl; have hcz27_1 : w26.cell? ⟨gb844, 1, none⟩ = some (.int .u64 0) := (blk_cell BK844.out 1).trans rfl; have hfz27_0 := blk_frozen BK844.out 0; have hfz27_1 := blk_frozen BK844.out 1))
      refine bodyPost_ret (results_ct rfl _ _ gb844 26 #[.int .u64 t856, .int .u64 t857] (0, 0) _ rfl (by (with_reducible repeat (first | refine blk_drewN ?_ _ | refine blk_drew ?_ | refine blk_alloc ?_ _)); refine blk_put (cs := #[.int .u64 t856, .int .u64 0]) ?_ 1 _ rfl; (with_reducible repeat (first | refine blk_drewN ?_ _ | refine blk_drew ?_ | refine blk_alloc ?_ _)); refine blk_put (cs := #[.int .u64 0, .int .u64 0]) ?_ 0 _ rfl; (with_reducible repeat (first | refine blk_drewN ?_ _ | refine blk_drew ?_ | refine blk_alloc ?_ _)); exact BK844.out) Try.underlying26 rfl (by kernel_rfl)) rfl ?_
      exact ⟨by first | rfl | (simp [errW_none, errW_some] <;> rfl) | (simp [*, errW_none, errW_some] <;> rfl), by repeat (first | (with_reducible first | exact HB.out | apply below_alloc | apply pw_below_drewN | apply below_drew1 | refine below_set ?_ GE843.out | refine below_set ?_ GE844.out) | exact HB.out)⟩
  · rw [if_neg c4] at H
    have c4b0 : (t846 == 0) = false := beq_eq_false_iff_ne.mpr c4
    have c4b1 : (t846 != 0) = true := bne_iff_ne.mpr c4
    simp only [Option.some.injEq, Prod.mk.injEq] at H
    obtain ⟨rfl, rfl, rfl⟩ := H
    go_enter Try.func10, Try.ntmps10
    go_wp2_with (first | ((with_reducible refine gate_dst (N := 3) rfl ?_); refine box_event ?hg (N := 3) ?hd (cs := #[.int .u64 a1_0, .int .u64 a1_1]) (t := 26) ?hr ?_; (case hd => rfl); (case hg => rfl); (case hr => first | (go_simp; done) | (go_simp; rfl)); intro gb843 hg w28 hbox hb; have n0_ := Aside0.mk (below_step (by repeat (first | (with_reducible first | exact HB.out | apply below_alloc | apply pw_below_drewN | apply below_drew1) | exact HB.out)) hb); have n1_ := Aside0.mk (hbox); have n2_ := Aside0.mk ((by rw [hg]; exact (below_size (by repeat (first | (with_reducible first | exact HB.out | apply below_alloc | apply pw_below_drewN | apply below_drew1) | exact HB.out))) : w.heap.size ≤ gb843)); have n3_ := Aside0.mk ((by rw [hg]; exact (below_size (by repeat (first | (with_reducible first | exact HB.out | apply below_alloc | apply pw_below_drewN | apply below_drew1) | exact HB.out))) : w.heap.size ≤ gb843)); clear HB; have HB := n0_; have BK843 := n1_; have GW843 := n2_; have GE843 := n3_; clear n0_ n1_ n2_ n3_; clear hb hbox hg) | ((with_reducible refine gate_dst (N := 4) rfl ?_); refine box_event ?hg (N := 4) ?hd (cs := #[.int .u64 0, .int .u64 0]) (t := 26) ?hr ?_; (case hd => rfl); (case hg => rfl); (case hr => first | (go_simp; done) | (go_simp; rfl)); intro gb844 hg w29 hbox hb; have n0_ := Aside0.mk (blk_below (g := gb843) (o := .cells #[.int .u64 a1_0, .int .u64 a1_1] 26 (0, 0)) (by (with_reducible repeat (first | refine blk_drewN ?_ _ | refine blk_drew ?_ | refine blk_alloc ?_ _)); exact BK843.out) hb); have n1_ := Aside0.mk (below_step (by repeat (first | (with_reducible first | exact HB.out | apply below_alloc | apply pw_below_drewN | apply below_drew1 | refine below_set ?_ GE843.out) | exact HB.out)) hb); have n2_ := Aside0.mk (hbox); have n3_ := Aside0.mk ((by rw [hg]; exact (below_size (by repeat (first | (with_reducible first | exact HB.out | apply below_alloc | apply pw_below_drewN | apply below_drew1 | refine below_set ?_ GE843.out) | exact HB.out))) : w.heap.size ≤ gb844)); have n4_ := Aside0.mk ((by rw [hg]; exact (below_size (by repeat (first | (with_reducible first | exact HB.out | apply below_alloc | apply pw_below_drewN | apply below_drew1 | refine below_set ?_ GE843.out) | exact HB.out))) : w.heap.size ≤ gb844)); have n5_ := Aside0.mk ((by rw [hg]; exact Nat.ne_of_lt (blk_lt (g := gb843) (o := .cells #[.int .u64 a1_0, .int .u64 a1_1] 26 (0, 0)) (by (with_reducible repeat (first | refine blk_drewN ?_ _ | refine blk_drew ?_ | refine blk_alloc ?_ _)); exact BK843.out)) : gb843 ≠ gb844)); have n6_ := Aside0.mk ((by rw [hg]; exact Nat.ne_of_gt (blk_lt (g := gb843) (o := .cells #[.int .u64 a1_0, .int .u64 a1_1] 26 (0, 0)) (by (with_reducible repeat (first | refine blk_drewN ?_ _ | refine blk_drew ?_ | refine blk_alloc ?_ _)); exact BK843.out)) : gb844 ≠ gb843)); clear BK843; clear HB; have BK843 := n0_; have HB := n1_; have BK844 := n2_; have GW844 := n3_; have GE844 := n4_; have NB843_844 := n5_; have NB844_843 := n6_; clear n0_ n1_ n2_ n3_ n4_ n5_ n6_; clear hb hbox hg; have hnb30 := NB843_844.out; have hnc30 := NB844_843.out; have hcz31_0 : w29.cell? ⟨gb843, 0, none⟩ = some (.int .u64 a1_0) := (blk_cell BK843.out 0).trans rfl; have hcz31_1 : w29.cell? ⟨gb843, 1, none⟩ = some (.int .u64 a1_1) := (blk_cell BK843.out 1).trans rfl; have hfz31_0 := blk_frozen BK843.out 0; have hfz31_1 := blk_frozen BK843.out 1) | ((with_reducible refine gate_callee (f := 27) rfl ?_); refine goesL_ (some 13) rfl rfl Try.func27 (by kernel_rfl) rfl #[.int .u8 a0, .agg #[.int .u64 a1_0, .int .u64 a1_1]] rfl (by (try simp only [List.map_toArray, List.map_cons, List.map_nil]); first | done | rfl | (simp only [List.length_drop, List.length_take]; rfl)) ?_; (with_reducible refine (pair_Class.calls k a0 a1_0 a1_1 t845 t846 _ A3.out).mono ?_); rintro e w32 ⟨rfl, hb⟩; refine ⟨_, rfl, ?_⟩; have n0_ := Aside0.mk (blk_below (g := gb843) (o := .cells #[.int .u64 a1_0, .int .u64 a1_1] 26 (0, 0)) (by (with_reducible repeat (first | refine blk_drewN ?_ _ | refine blk_drew ?_ | refine blk_alloc ?_ _)); exact BK843.out) hb); have n1_ := Aside0.mk (blk_below (g := gb844) (o := .cells #[.int .u64 0, .int .u64 0] 26 (0, 0)) (by (with_reducible repeat (first | refine blk_drewN ?_ _ | refine blk_drew ?_ | refine blk_alloc ?_ _)); exact BK844.out) hb); have n2_ := Aside0.mk (below_step (by repeat (first | (with_reducible first | exact HB.out | apply below_alloc | apply pw_below_drewN | apply below_drew1 | refine below_set ?_ GE843.out | refine below_set ?_ GE844.out) | exact HB.out)) hb); clear BK843; clear BK844; clear HB; have BK843 := n0_; have BK844 := n1_; have HB := n2_; clear n0_ n1_ n2_; (try clear hb); (try clear hb2); (try clear hk); (try clear hi); have hcz33_0 : w32.cell? ⟨gb844, 0, none⟩ = some (.int .u64 0) := (blk_cell BK844.out 0).trans rfl; have hcz33_1 : w32.cell? ⟨gb844, 1, none⟩ = some (.int .u64 0) := (blk_cell BK844.out 1).trans rfl; have hfz33_0 := blk_frozen BK844.out 0; have hfz33_1 := blk_frozen BK844.out 1))
    refine bodyPost_ret (results_ct rfl _ _ gb844 26 #[.int .u64 0, .int .u64 0] (0, 0) _ rfl (by (with_reducible repeat (first | refine blk_drewN ?_ _ | refine blk_drew ?_ | refine blk_alloc ?_ _)); refine blk_put (cs := #[.int .u64 0, .int .u64 0]) ?_ 1 _ rfl; (with_reducible repeat (first | refine blk_drewN ?_ _ | refine blk_drew ?_ | refine blk_alloc ?_ _)); refine blk_put (cs := #[.int .u64 0, .int .u64 0]) ?_ 0 _ rfl; (with_reducible repeat (first | refine blk_drewN ?_ _ | refine blk_drew ?_ | refine blk_alloc ?_ _)); exact BK844.out) Try.underlying26 rfl (by kernel_rfl)) rfl ?_
    exact ⟨by first | rfl | (simp [errW_none, errW_some] <;> rfl) | (simp [*, errW_none, errW_some] <;> rfl), by repeat (first | (with_reducible first | exact HB.out | apply below_alloc | apply pw_below_drewN | apply below_drew1 | refine below_set ?_ GE843.out | refine below_set ?_ GE844.out) | exact HB.out)⟩
end Go.Proofs.Ytlgapmhjaaajfaa.PA
end

section
namespace Go.Proofs.Ytlgapmhjaaajfaa.PA
open Go.RowKit Go.Proofs.YtlgapmhjaaajfaaW.PrintWords Go.Proofs.YtlgapmhjaaajfaaW.PrintLast Go.Proofs.YtlgapmhjaaajfaaW.PrintMore
attribute [local go_sem] max2_int min2_int max_two min_two max_three min_three max_four min_four   -- for this text's walks alone
set_option linter.unusedVariables false
set_option linter.unusedSimpArgs false
attribute [local go_sem high] eqA26
def cutplanelaw11_SpecialBoxes.f (k : Nat) (a0 : Int) (a1_0 : Int) (a1_1 : Int) : Option (Bool) := (special_Box.f k a0 a1_0 a1_1).bind fun bt859 => ((cutplaneref10_Good.f k a0 (([(⟨a1_0, a1_1⟩ : S26)] : List (S26)))).bind fun t866 => (if t866 = 0 then ((cutplaneref10_Class.f k a0 a1_0 a1_1).bind fun t867 => (if t867 = 4 then (if (bt859.1 == 0 && (bt859.2.1 == 0)) = true then (if bt859.2.2 = 7 then ((cutplanelaw11_known.f k).bind fun t868 => (some t868)) else (none)) else (none)) else ((cutplaneref11_Box.f k a0 a1_0 a1_1).bind fun bt869 => (if (bt859.1 == bt869.1 && (bt859.2.1 == bt869.2)) = true then (if bt859.2.2 = 0 then ((cutplanelaw11_known.f k).bind fun t871 => (some t871)) else (none)) else (none))))) else (if (bt859.1 == 0 && (bt859.2.1 == 0)) = true then (if bt859.2.2 = t866 then ((cutplanelaw11_known.f k).bind fun t872 => (some t872)) else (none)) else (none))))
def cutplanelaw11_SpecialBoxes.T7 : Bool × List (List Nat × List Nat) := (true, [([], []), ([], []), ([], []), ([1, 2], [1, 2]), ([0, 3], [0, 3]), ([4, 3], [4]), ([5], [5]), ([6, 5], [5, 6]), ([5, 7], [5, 7]), ([8, 5], [8]), ([9, 9], [9]), ([9, 10], [9, 10]), ([11, 10, 0, 1, 2, 3, 4, 5, 6, 7, 8, 9, 10, 11], [11])])
def cutplanelaw11_SpecialBoxes.B7 : List Nat := [0, 0, 0, 6, 15, 31, 63, 127, 255, 511, 1023, 2047, 4095]
theorem cutplanelaw11_SpecialBoxes.tab7 : rtab .any (opsOf Try.f4 7) = cutplanelaw11_SpecialBoxes.T7 := by kernel_rfl
theorem cutplanelaw11_SpecialBoxes.bits7 : waitsOk cutplanelaw11_SpecialBoxes.T7.2 cutplanelaw11_SpecialBoxes.B7 = true := by kernel_rfl
set_option maxHeartbeats 2000000 in
set_option maxRecDepth 100000 in
theorem cutplanelaw11_SpecialBoxes.calls (k : Nat) (a0 : Int) (a1_0 : Int) (a1_1 : Int) (r : Bool) (w : World) (h : cutplanelaw11_SpecialBoxes.f k a0 a1_0 a1_1 = some r) :
    Calls Try.prog 4 #[.int .u8 a0, .agg #[.int .u64 a1_0, .int .u64 a1_1]] w fun e w' => e = .returned (.bool r) ∧ Below w.heap.size w w' := by
  have hu26 := Try.underlying26
  have HB := Aside0.mk (Below.refl w.heap.size w)
  have H : ((special_Box.f k a0 a1_0 a1_1).bind fun bt859 => ((cutplaneref10_Good.f k a0 (([(⟨a1_0, a1_1⟩ : S26)] : List (S26)))).bind fun t866 => (if t866 = 0 then ((cutplaneref10_Class.f k a0 a1_0 a1_1).bind fun t867 => (if t867 = 4 then (if (bt859.1 == 0 && (bt859.2.1 == 0)) = true then (if bt859.2.2 = 7 then ((cutplanelaw11_known.f k).bind fun t868 => (some t868)) else (none)) else (none)) else ((cutplaneref11_Box.f k a0 a1_0 a1_1).bind fun bt869 => (if (bt859.1 == bt869.1 && (bt859.2.1 == bt869.2)) = true then (if bt859.2.2 = 0 then ((cutplanelaw11_known.f k).bind fun t871 => (some t871)) else (none)) else (none))))) else (if (bt859.1 == 0 && (bt859.2.1 == 0)) = true then (if bt859.2.2 = t866 then ((cutplanelaw11_known.f k).bind fun t872 => (some t872)) else (none)) else (none))))) = some r := h
  clear h
  replace H := Option.bind_eq_some_iff.mp H
  obtain ⟨⟨t859, t860, t861⟩, A30, H⟩ := H
  replace H : ((cutplaneref10_Good.f k a0 (([(⟨a1_0, a1_1⟩ : S26)] : List (S26)))).bind fun t866 => (if t866 = 0 then ((cutplaneref10_Class.f k a0 a1_0 a1_1).bind fun t867 => (if t867 = 4 then (if (t859 == 0 && (t860 == 0)) = true then (if t861 = 7 then ((cutplanelaw11_known.f k).bind fun t868 => (some t868)) else (none)) else (none)) else ((cutplaneref11_Box.f k a0 a1_0 a1_1).bind fun bt869 => (if (t859 == bt869.1 && (t860 == bt869.2)) = true then (if t861 = 0 then ((cutplanelaw11_known.f k).bind fun t871 => (some t871)) else (none)) else (none))))) else (if (t859 == 0 && (t860 == 0)) = true then (if t861 = t866 then ((cutplanelaw11_known.f k).bind fun t872 => (some t872)) else (none)) else (none)))) = some r := H
  have A3 := Aside0.mk A30
  clear A30
  obtain ⟨y863, hy863⟩ : ∃ y_ : List (S26), y_ = (([(⟨a1_0, a1_1⟩ : S26)] : List (S26))) := ⟨_, rfl⟩
  replace H : ((cutplaneref10_Good.f k a0 y863).bind fun t866 => (if t866 = 0 then ((cutplaneref10_Class.f k a0 a1_0 a1_1).bind fun t867 => (if t867 = 4 then (if (t859 == 0 && (t860 == 0)) = true then (if t861 = 7 then ((cutplanelaw11_known.f k).bind fun t868 => (some t868)) else (none)) else (none)) else ((cutplaneref11_Box.f k a0 a1_0 a1_1).bind fun bt869 => (if (t859 == bt869.1 && (t860 == bt869.2)) = true then (if t861 = 0 then ((cutplanelaw11_known.f k).bind fun t871 => (some t871)) else (none)) else (none))))) else (if (t859 == 0 && (t860 == 0)) = true then (if t861 = t866 then ((cutplanelaw11_known.f k).bind fun t872 => (some t872)) else (none)) else (none)))) = some r := by first | (rw [hy863]; with_reducible exact H) | (have H2_ := (Option.bind_some _ _).symm.trans H; rw [hy863]; with_reducible exact H2_) | (have H2_ := (Option.bind_some _ _).symm.trans H; with_reducible exact H2_) | with_reducible exact H | (rw [hy863]; exact H) | exact H
  have Ny863 := Aside0.mk hy863
  clear hy863
  replace H := Option.bind_eq_some_iff.mp H
  obtain ⟨t866, A40, H⟩ := H
  replace H : (if t866 = 0 then ((cutplaneref10_Class.f k a0 a1_0 a1_1).bind fun t867 => (if t867 = 4 then (if (t859 == 0 && (t860 == 0)) = true then (if t861 = 7 then ((cutplanelaw11_known.f k).bind fun t868 => (some t868)) else (none)) else (none)) else ((cutplaneref11_Box.f k a0 a1_0 a1_1).bind fun bt869 => (if (t859 == bt869.1 && (t860 == bt869.2)) = true then (if t861 = 0 then ((cutplanelaw11_known.f k).bind fun t871 => (some t871)) else (none)) else (none))))) else (if (t859 == 0 && (t860 == 0)) = true then (if t861 = t866 then ((cutplanelaw11_known.f k).bind fun t872 => (some t872)) else (none)) else (none))) = some r := H
  have A4 := Aside0.mk A40
  clear A40
  by_cases c5 : t866 = 0
  · rw [if_pos c5] at H
    have c5b0 : (t866 == 0) = true := beq_iff_eq.mpr c5
    have c5b1 : (t866 != 0) = false := bne_eq_false_iff_eq.mpr c5
    clear c5
    replace H := Option.bind_eq_some_iff.mp H
    obtain ⟨t867, A60, H⟩ := H
    replace H : (if t867 = 4 then (if (t859 == 0 && (t860 == 0)) = true then (if t861 = 7 then ((cutplanelaw11_known.f k).bind fun t868 => (some t868)) else (none)) else (none)) else ((cutplaneref11_Box.f k a0 a1_0 a1_1).bind fun bt869 => (if (t859 == bt869.1 && (t860 == bt869.2)) = true then (if t861 = 0 then ((cutplanelaw11_known.f k).bind fun t871 => (some t871)) else (none)) else (none)))) = some r := H
    have A6 := Aside0.mk A60
    clear A60
    by_cases c7 : t867 = 4
    · rw [if_pos c7] at H
      have c7b0 : (t867 == 4) = true := beq_iff_eq.mpr c7
      have c7b1 : (t867 != 4) = false := bne_eq_false_iff_eq.mpr c7
      clear c7
      by_cases c8 : (t859 == 0 && (t860 == 0)) = true
      · rw [if_pos c8] at H
        have c8b0 : (t859 == 0 && (t860 == 0)) = true := c8
        (try (have c8b1 : decide (t859 = 0 && (t860 == 0)) = true := by simpa using c8))
        (try (have c8b2 : (t859 == 0 && (t860 == 0)) = true := by simpa using c8))
        clear c8
        by_cases c9 : t861 = 7
        · rw [if_pos c9] at H
          have c9b0 : (t861 == 7) = true := beq_iff_eq.mpr c9
          have c9b1 : (t861 != 7) = false := bne_eq_false_iff_eq.mpr c9
          clear c9
          replace H := Option.bind_eq_some_iff.mp H
          obtain ⟨t868, A100, H⟩ := H
          replace H : (some t868) = some r := H
          have A10 := Aside0.mk A100
          clear A100
          obtain rfl := Option.some.inj H
          go_enter Try.func4, Try.ntmps4
          go_wp2_with (first | ((with_reducible refine gate_dst (N := 3) rfl ?_); refine box_event ?hg (N := 3) ?hd (cs := #[.int .u64 a1_0, .int .u64 a1_1]) (t := 26) ?hr ?_; (case hd => rfl); (case hg => rfl); (case hr => first | (go_simp; done) | (go_simp; rfl)); intro gb858 hg w11 hbox hb; have n0_ := Aside0.mk (below_step (by repeat (first | (with_reducible first | exact HB.out | apply below_alloc | apply pw_below_drewN | apply below_drew1) | exact HB.out)) hb); have n1_ := Aside0.mk (hbox); have n2_ := Aside0.mk ((by rw [hg]; exact (below_size (by repeat (first | (with_reducible first | exact HB.out | apply below_alloc | apply pw_below_drewN | apply below_drew1) | exact HB.out))) : w.heap.size ≤ gb858)); have n3_ := Aside0.mk ((by rw [hg]; exact (below_size (by repeat (first | (with_reducible first | exact HB.out | apply below_alloc | apply pw_below_drewN | apply below_drew1) | exact HB.out))) : w.heap.size ≤ gb858)); clear HB; have HB := n0_; have BK858 := n1_; have GW858 := n2_; have GE858 := n3_; clear n0_ n1_ n2_ n3_; clear hb hbox hg; have hcz12_0 : w11.cell? ⟨gb858, 0, none⟩ = some (.int .u64 a1_0) := (blk_cell BK858.out 0).trans rfl; have hcz12_1 : w11.cell? ⟨gb858, 1, none⟩ = some (.int .u64 a1_1) := (blk_cell BK858.out 1).trans rfl; have hfz12_0 := blk_frozen BK858.out 0; have hfz12_1 := blk_frozen BK858.out 1) | ((with_reducible refine gate_callee (f := 10) rfl ?_); refine goesL_ (some 11) rfl rfl Try.func10 (by kernel_rfl) rfl #[.int .u8 a0, .agg #[.int .u64 a1_0, .int .u64 a1_1]] rfl (by (try simp only [List.map_toArray, List.map_cons, List.map_nil]); first | done | rfl | (simp only [List.length_drop, List.length_take]; rfl)) ?_; (with_reducible refine (special_Box.calls k a0 a1_0 a1_1 t859 t860 t861 _ A3.out).mono ?_); rintro e w13 ⟨rfl, hb⟩; refine ⟨_, rfl, ?_⟩; have n0_ := Aside0.mk (blk_below (g := gb858) (o := .cells #[.int .u64 a1_0, .int .u64 a1_1] 26 (0, 0)) (by (with_reducible repeat (first | refine blk_drewN ?_ _ | refine blk_drew ?_ | refine blk_alloc ?_ _)); exact BK858.out) hb); have n1_ := Aside0.mk (below_step (by repeat (first | (with_reducible first | exact HB.out | apply below_alloc | apply pw_below_drewN | apply below_drew1 | refine below_set ?_ GE858.out) | exact HB.out)) hb); clear BK858; clear HB; have BK858 := n0_; have HB := n1_; clear n0_ n1_; (try clear hb); (try clear hb2); (try clear hk); (try clear hi)) | ((with_reducible refine gate_dst (N := 5) rfl ?_); refine box_event ?hg (N := 5) ?hd (cs := #[.int .u64 0, .int .u64 0]) (t := 26) ?hr ?_; (case hd => rfl); (case hg => rfl); (case hr => first | (go_simp; done) | (go_simp; rfl)); intro gb862 hg w14 hbox hb; have n0_ := Aside0.mk (blk_below (g := gb858) (o := .cells #[.int .u64 a1_0, .int .u64 a1_1] 26 (0, 0)) (by (with_reducible repeat (first | refine blk_drewN ?_ _ | refine blk_drew ?_ | refine blk_alloc ?_ _)); exact BK858.out) hb); have n1_ := Aside0.mk (below_step (by repeat (first | (with_reducible first | exact HB.out | apply below_alloc | apply pw_below_drewN | apply below_drew1 | refine below_set ?_ GE858.out) | exact HB.out)) hb); have n2_ := Aside0.mk (hbox); have n3_ := Aside0.mk ((by rw [hg]; exact (below_size (by repeat (first | (with_reducible first | exact HB.out | apply below_alloc | apply pw_below_drewN | apply below_drew1 | refine below_set ?_ GE858.out) | exact HB.out))) : w.heap.size ≤ gb862)); have n4_ := Aside0.mk ((by rw [hg]; exact (below_size (by repeat (first | (with_reducible first | exact HB.out | apply below_alloc | apply pw_below_drewN | apply below_drew1 | refine below_set ?_ GE858.out) | exact HB.out))) : w.heap.size ≤ gb862)); have n5_ := Aside0.mk ((by rw [hg]; exact Nat.ne_of_lt (blk_lt (g := gb858) (o := .cells #[.int .u64 a1_0, .int .u64 a1_1] 26 (0, 0)) (by (with_reducible repeat (first | refine blk_drewN ?_ _ | refine blk_drew ?_ | refine blk_alloc ?_ _)); exact BK858.out)) : gb858 ≠ gb862)); have n6_ := Aside0.mk ((by rw [hg]; exact Nat.ne_of_gt (blk_lt (g := gb858) (o := .cells #[.int .u64 a1_0, .int .u64 a1_1] 26 (0, 0)) (by (with_reducible repeat (first | refine blk_drewN ?_ _ | refine blk_drew ?_ | refine blk_alloc ?_ _)); exact BK858.out)) : gb862 ≠ gb858)); clear BK858; clear HB; have BK858 := n0_; have HB := n1_; have BK862 := n2_; have GW862 := n3_; have GE862 := n4_; have NB858_862 := n5_; have NB862_858 := n6_; clear n0_ n1_ n2_ n3_ n4_ n5_ n6_; clear hb hbox hg; have hnb15 := NB862_858.out; have hnc15 := NB858_862.out; have hcz16_0 : w14.cell? ⟨gb862, 0, none⟩ = some (.int .u64 0) := (blk_cell BK862.out 0).trans rfl; have hcz16_1 : w14.cell? ⟨gb862, 1, none⟩ = some (.int .u64 0) := (blk_cell BK862.out 1).trans rfl; have hfz16_0 := blk_frozen BK862.out 0; have hfz16_1 := blk_frozen BK862.out 1; have hcz17_0 : w14.cell? ⟨gb858, 0, none⟩ = some (.int .u64 a1_0) := (blk_cell BK858.out 0).trans rfl; have hcz17_1 : w14.cell? ⟨gb858, 1, none⟩ = some (.int .u64 a1_1) := (blk_cell BK858.out 1).trans rfl; have hfz17_0 := blk_frozen BK858.out 0; have hfz17_1 := blk_frozen BK858.out 1) | ((with_reducible refine gate_dst (N := 16) rfl ?_); refine Kd.R_lit k26 _ 26 ?hg (N := 16) ?hd (xs := ([(⟨a1_0, a1_1⟩ : S26)] : List (S26))) (inner := [.int .u64 a1_0, .int .u64 a1_1]) (ok := fun _ => True) (okp := fun _ => True) ?hr ?hp (fun _ hk => hk) trivial (Below.refl _ _) (Nat.le_refl _) (by simp) ?_; (case hd => rfl); (case hg => rfl); (case hr => first | (go_simp; done) | (go_simp; rfl)); (case hp => exact (Reps.c2 (show Kd.M k26 _ _ _ (⟨a1_0, a1_1⟩ : S26) [.int .u64 a1_0, .int .u64 a1_1] from (k26_mkM _ _ _ (⟨a1_0, a1_1⟩ : S26) )) (Reps.none _ _))); intro v864 w18 ho19 hb hg_ hnew_; clear hg_ hnew_; (first | rw [← Ny863.out] at ho19 | (simp only [Int.reduceToNat] at ho19; rw [← Ny863.out] at ho19)); have n0_ := Aside0.mk (Kd.R_lower (Kd.R_newB (Kd.R_newB ho19 (g := gb858) (o := .cells #[.int .u64 a1_0, .int .u64 a1_1] 26 (0, 0)) (by (with_reducible repeat (first | refine blk_drewN ?_ _ | refine blk_drew ?_ | refine blk_alloc ?_ _)); refine blk_far ?_ NB858_862.out _; (with_reducible repeat (first | refine blk_drewN ?_ _ | refine blk_drew ?_ | refine blk_alloc ?_ _)); refine blk_far ?_ NB858_862.out _; (with_reducible repeat (first | refine blk_drewN ?_ _ | refine blk_drew ?_ | refine blk_alloc ?_ _)); exact BK858.out)) (g := gb862) (o := .cells #[.int .u64 t859, .int .u64 t860] 26 (0, 0)) (by (with_reducible repeat (first | refine blk_drewN ?_ _ | refine blk_drew ?_ | refine blk_alloc ?_ _)); refine blk_put (cs := #[.int .u64 t859, .int .u64 0]) ?_ 1 _ rfl; (with_reducible repeat (first | refine blk_drewN ?_ _ | refine blk_drew ?_ | refine blk_alloc ?_ _)); refine blk_put (cs := #[.int .u64 0, .int .u64 0]) ?_ 0 _ rfl; (with_reducible repeat (first | refine blk_drewN ?_ _ | refine blk_drew ?_ | refine blk_alloc ?_ _)); exact BK862.out)) (below_size (by repeat (first | (with_reducible first | exact HB.out | apply below_alloc | apply pw_below_drewN | apply below_drew1 | refine below_set ?_ GE858.out | refine below_set ?_ GE862.out) | exact HB.out)))); have n1_ := Aside0.mk (blk_below (g := gb858) (o := .cells #[.int .u64 a1_0, .int .u64 a1_1] 26 (0, 0)) (by (with_reducible repeat (first | refine blk_drewN ?_ _ | refine blk_drew ?_ | refine blk_alloc ?_ _)); refine blk_far ?_ NB858_862.out _; (with_reducible repeat (first | refine blk_drewN ?_ _ | refine blk_drew ?_ | refine blk_alloc ?_ _)); refine blk_far ?_ NB858_862.out _; (with_reducible repeat (first | refine blk_drewN ?_ _ | refine blk_drew ?_ | refine blk_alloc ?_ _)); exact BK858.out) hb); have n2_ := Aside0.mk (blk_below (g := gb862) (o := .cells #[.int .u64 t859, .int .u64 t860] 26 (0, 0)) (by (with_reducible repeat (first | refine blk_drewN ?_ _ | refine blk_drew ?_ | refine blk_alloc ?_ _)); refine blk_put (cs := #[.int .u64 t859, .int .u64 0]) ?_ 1 _ rfl; (with_reducible repeat (first | refine blk_drewN ?_ _ | refine blk_drew ?_ | refine blk_alloc ?_ _)); refine blk_put (cs := #[.int .u64 0, .int .u64 0]) ?_ 0 _ rfl; (with_reducible repeat (first | refine blk_drewN ?_ _ | refine blk_drew ?_ | refine blk_alloc ?_ _)); exact BK862.out) hb); have n3_ := Aside0.mk (below_step (by repeat (first | (with_reducible first | exact HB.out | apply below_alloc | apply pw_below_drewN | apply below_drew1 | refine below_set ?_ GE858.out | refine below_set ?_ GE862.out) | exact HB.out)) hb); clear BK858; clear BK862; clear HB; have HO865 := n0_; have BK858 := n1_; have BK862 := n2_; have HB := n3_; clear n0_ n1_ n2_ n3_; clear hb ho19; obtain ⟨Ao20, co20, eo20⟩ := Kd.R_slice HO865.out; subst eo20) | ((with_reducible refine gate_callee (f := 11) rfl ?_); refine goesL_ (some 17) rfl rfl Try.func11 (by kernel_rfl) rfl #[.int .u8 a0, .slice Ao20 y863.length co20] rfl (by (try simp only [List.map_toArray, List.map_cons, List.map_nil]); first | done | rfl | (simp only [List.length_drop, List.length_take]; rfl)) ?_; (with_reducible refine (cutplaneref10_Good.calls k a0 _ _ y863 t866 _ ?side1 ?side2 A4.out).mono ?_); (case side1 => repeat (first | exact (Kd.R_reads' HO865.out).2.2 | (with_reducible refine Kd.C_alloc ?_ _) | (with_reducible refine Kd.C_drewN ?_ _) | (with_reducible refine Kd.C_drew ?_))); (case side2 => exact (Kd.R_reads' HO865.out).2.1); rintro e w' ⟨rfl, ⟨nd, rfl⟩⟩; refine ⟨_, rfl, ?_⟩; have hcz21_0 : w18.cell? ⟨gb858, 0, none⟩ = some (.int .u64 a1_0) := (blk_cell BK858.out 0).trans rfl; have hcz21_1 : w18.cell? ⟨gb858, 1, none⟩ = some (.int .u64 a1_1) := (blk_cell BK858.out 1).trans rfl; have hfz21_0 := blk_frozen BK858.out 0; have hfz21_1 := blk_frozen BK858.out 1) | (go_at_call 12; (with_reducible refine (cutplaneref10_Class.calls k a0 a1_0 a1_1 t867 _ A6.out).mono ?_); rintro e w22 ⟨rfl, hb⟩; have n0_ := Aside0.mk (Kd.R_below (by (with_reducible repeat (first | apply Kd.R_alloc | apply Kd.R_drewN | apply Kd.R_drew)); exact HO865.out) hb); have n1_ := Aside0.mk (blk_below (g := gb858) (o := .cells #[.int .u64 a1_0, .int .u64 a1_1] 26 (0, 0)) (by (with_reducible repeat (first | refine blk_drewN ?_ _ | refine blk_drew ?_ | refine blk_alloc ?_ _)); exact BK858.out) hb); have n2_ := Aside0.mk (blk_below (g := gb862) (o := .cells #[.int .u64 t859, .int .u64 t860] 26 (0, 0)) (by (with_reducible repeat (first | refine blk_drewN ?_ _ | refine blk_drew ?_ | refine blk_alloc ?_ _)); exact BK862.out) hb); have n3_ := Aside0.mk (below_step (by repeat (first | (with_reducible first | exact HB.out | apply below_alloc | apply pw_below_drewN | apply below_drew1 | refine below_set ?_ GE858.out | refine below_set ?_ GE862.out) | exact HB.out)) hb); clear HO865; clear BK858; clear BK862; clear HB; have HO865 := n0_; have BK858 := n1_; have BK862 := n2_; have HB := n3_; clear n0_ n1_ n2_ n3_; (try clear hb); (try clear hb2); (try clear hk); (try clear hi); have hcz23_0 : w22.cell? ⟨gb862, 0, none⟩ = some (.int .u64 t859) := (blk_cell BK862.out 0).trans rfl; have hcz23_1 : w22.cell? ⟨gb862, 1, none⟩ = some (.int .u64 t860) := (blk_cell BK862.out 1).trans rfl; have hfz23_0 := blk_frozen BK862.out 0; have hfz23_1 := blk_frozen BK862.out 1) | (go_at_call 8; (with_reducible refine (cutplanelaw11_known.calls k  t868 _ A10.out).mono ?_); rintro e w24 ⟨rfl, hb⟩; have n0_ := Aside0.mk (Kd.R_below (by (with_reducible repeat (first | apply Kd.R_alloc | apply Kd.R_drewN | apply Kd.R_drew)); exact HO865.out) hb); have n1_ := Aside0.mk (blk_below (g := gb858) (o := .cells #[.int .u64 a1_0, .int .u64 a1_1] 26 (0, 0)) (by (with_reducible repeat (first | refine blk_drewN ?_ _ | refine blk_drew ?_ | refine blk_alloc ?_ _)); exact BK858.out) hb); have n2_ := Aside0.mk (blk_below (g := gb862) (o := .cells #[.int .u64 t859, .int .u64 t860] 26 (0, 0)) (by (with_reducible repeat (first | refine blk_drewN ?_ _ | refine blk_drew ?_ | refine blk_alloc ?_ _)); exact BK862.out) hb); have n3_ := Aside0.mk (below_step (by repeat (first | (with_reducible first | exact HB.out | apply below_alloc | apply pw_below_drewN | apply below_drew1 | refine below_set ?_ GE858.out | refine below_set ?_ GE862.out) | exact HB.out)) hb); clear HO865; clear BK858; clear BK862; clear HB; have HO865 := n0_; have BK858 := n1_; have BK862 := n2_; have HB := n3_; clear n0_ n1_ n2_ n3_; (try clear hb); (try clear hb2); (try clear hk); (try clear hi)))
          go_ret
          exact ⟨by first | rfl | (simp [errW_none, errW_some] <;> rfl) | (simp [*, errW_none, errW_some] <;> rfl), by repeat (first | (with_reducible first | exact HB.out | apply below_alloc | apply pw_below_drewN | apply below_drew1 | refine below_set ?_ GE858.out | refine below_set ?_ GE862.out) | exact HB.out)⟩
        · rw [if_neg c9] at H
          exact absurd H (by simp)
      · rw [if_neg c8] at H
        exact absurd H (by simp)
    · rw [if_neg c7] at H
      have c7b0 : (t867 == 4) = false := beq_eq_false_iff_ne.mpr c7
      have c7b1 : (t867 != 4) = true := bne_iff_ne.mpr c7
      replace H := Option.bind_eq_some_iff.mp H
      obtain ⟨⟨t869, t870⟩, A250, H⟩ := H
      replace H : (if (t859 == t869 && (t860 == t870)) = true then (if t861 = 0 then ((cutplanelaw11_known.f k).bind fun t871 => (some t871)) else (none)) else (none)) = some r := H
      have A25 := Aside0.mk A250
      clear A250
      by_cases c26 : (t859 == t869 && (t860 == t870)) = true
      · rw [if_pos c26] at H
        have c26b0 : (t859 == t869 && (t860 == t870)) = true := c26
        (try (have c26b1 : decide (t859 = t869 && (t860 == t870)) = true := by simpa using c26))
        (try (have c26b2 : (t859 == t869 && (t860 == t870)) = true := by simpa using c26))
        clear c26
        by_cases c27 : t861 = 0
        · rw [if_pos c27] at H
          have c27b0 : (t861 == 0) = true := beq_iff_eq.mpr c27
          have c27b1 : (t861 != 0) = false := bne_eq_false_iff_eq.mpr c27
          clear c27
          replace H := Option.bind_eq_some_iff.mp H
          obtain ⟨t871, A280, H⟩ := H
          replace H : (some t871) = some r := H
          have A28 := Aside0.mk A280
          clear A280
          obtain rfl := Option.some.inj H
          go_enter Try.func4, Try.ntmps4
          try go_wp2_with (first | ((with_reducible refine gate_dst (N := 3) rfl ?_); refine box_event ?hg (N := 3) ?hd (cs := #[.int .u64 a1_0, .int .u64 a1_1]) (t := 26) ?hr ?_; (case hd => rfl); (case hg => rfl); (case hr => first | (go_simp; done) | (go_simp; rfl)); intro gb858 hg w29 hbox hb; have n0_ := Aside0.mk (below_step (by repeat (first | (with_reducible first | exact HB.out | apply below_alloc | apply pw_below_drewN | apply below_drew1) | exact HB.out)) hb); have n1_ := Aside0.mk (hbox); have n2_ := Aside0.mk ((by rw [hg]; exact (below_size (by repeat (first | (with_reducible first | exact HB.out | apply below_alloc | apply pw_below_drewN | apply below_drew1) | exact HB.out))) : w.heap.size ≤ gb858)); have n3_ := Aside0.mk ((by rw [hg]; exact (below_size (by repeat (first | (with_reducible first | exact HB.out | apply below_alloc | apply pw_below_drewN | apply below_drew1) | exact HB.out))) : w.heap.size ≤ gb858)); clear HB; have HB := n0_; have BK858 := n1_; have GW858 := n2_; have GE858 := n3_; clear n0_ n1_ n2_ n3_; clear hb hbox hg; have hcz30_0 : w29.cell? ⟨gb858, 0, none⟩ = some (.int .u64 a1_0) := (blk_cell BK858.out 0).trans rfl; have hcz30_1 : w29.cell? ⟨gb858, 1, none⟩ = some (.int .u64 a1_1) := (blk_cell BK858.out 1).trans rfl; have hfz30_0 := blk_frozen BK858.out 0; have hfz30_1 := blk_frozen BK858.out 1) | ((with_reducible refine gate_callee (f := 10) rfl ?_); refine goesL_ (some 11) rfl rfl Try.func10 (by kernel_rfl) rfl #[.int .u8 a0, .agg #[.int .u64 a1_0, .int .u64 a1_1]] rfl (by (try simp only [List.map_toArray, List.map_cons, List.map_nil]); first | done | rfl | (simp only [List.length_drop, List.length_take]; rfl)) ?_; (with_reducible refine (special_Box.calls k a0 a1_0 a1_1 t859 t860 t861 _ A3.out).mono ?_); rintro e w31 ⟨rfl, hb⟩; refine ⟨_, rfl, ?_⟩; have n0_ := Aside0.mk (blk_below (g := gb858) (o := .cells #[.int .u64 a1_0, .int .u64 a1_1] 26 (0, 0)) (by (with_reducible repeat (first | refine blk_drewN ?_ _ | refine blk_drew ?_ | refine blk_alloc ?_ _)); exact BK858.out) hb); have n1_ := Aside0.mk (below_step (by repeat (first | (with_reducible first | exact HB.out | apply below_alloc | apply pw_below_drewN | apply below_drew1 | refine below_set ?_ GE858.out) | exact HB.out)) hb); clear BK858; clear HB; have BK858 := n0_; have HB := n1_; clear n0_ n1_; (try clear hb); (try clear hb2); (try clear hk); (try clear hi)) | ((with_reducible refine gate_dst (N := 5) rfl ?_); refine box_event ?hg (N := 5) ?hd (cs := #[.int .u64 0, .int .u64 0]) (t := 26) ?hr ?_; (case hd => rfl); (case hg => rfl); (case hr => first | (go_simp; done) | (go_simp; rfl)); intro gb862 hg w32 hbox hb; have n0_ := Aside0.mk (blk_below (g := gb858) (o := .cells #[.int .u64 a1_0, .int .u64 a1_1] 26 (0, 0)) (by (with_reducible repeat (first | refine blk_drewN ?_ _ | refine blk_drew ?_ | refine blk_alloc ?_ _)); exact BK858.out) hb); have n1_ := Aside0.mk (below_step (by repeat (first | (with_reducible first | exact HB.out | apply below_alloc | apply pw_below_drewN | apply below_drew1 | refine below_set ?_ GE858.out) | exact HB.out)) hb); have n2_ := Aside0.mk (hbox); have n3_ := Aside0.mk ((by rw [hg]; exact (below_size (by repeat (first | (with_reducible first | exact HB.out | apply below_alloc | apply pw_below_drewN | apply below_drew1 | refine below_set ?_ GE858.out) | exact HB.out))) : w.heap.size ≤ gb862)); have n4_ := Aside0.mk ((by rw [hg]; exact (below_size (by repeat (first | (with_reducible first | exact HB.out | apply below_alloc | apply pw_below_drewN | apply below_drew1 | refine below_set ?_ GE858.out) | exact HB.out))) : w.heap.size ≤ gb862)); have n5_ := Aside0.mk ((by rw [hg]; exact Nat.ne_of_lt (blk_lt (g := gb858) (o := .cells #[.int .u64 a1_0, .int .u64 a1_1] 26 (0, 0)) (by (with_reducible repeat (first | refine blk_drewN ?_ _ | refine blk_drew ?_ | refine blk_alloc ?_ _)); exact BK858.out)) : gb858 ≠ gb862)); have n6_ := Aside0.mk ((by rw [hg]; exact Nat.ne_of_gt (blk_lt (g := gb858) (o := .cells #[.int .u64 a1_0, .int .u64 a1_1] 26 (0, 0)) (by (with_reducible repeat (first | refine blk_drewN ?_ _ | refine blk_drew ?_ | refine blk_alloc ?_ _)); exact BK858.out)) : gb862 ≠ gb858)); clear BK858; clear HB; have BK858 := n0_; have HB := n1_; have BK862 := n2_; have GW862 := n3_; have GE862 := n4_; have NB858_862 := n5_; have NB862_858 := n6_; clear n0_ n1_ n2_ n3_ n4_ n5_ n6_; clear hb hbox hg; have hnb33 := NB862_858.out; have hnc33 := NB858_862.out; have hcz34_0 : w32.cell? ⟨gb862, 0, none⟩ = some (.int .u64 0) := (blk_cell BK862.out 0).trans rfl; have hcz34_1 : w32.cell? ⟨gb862, 1, none⟩ = some (.int .u64 0) := (blk_cell BK862.out 1).trans rfl; have hfz34_0 := blk_frozen BK862.out 0; have hfz34_1 := blk_frozen BK862.out 1; have hcz35_0 : w32.cell? ⟨gb858, 0, none⟩ = some (.int .u64 a1_0) := (blk_cell BK858.out 0).trans rfl; have hcz35_1 : w32.cell? ⟨gb858, 1, none⟩ = some (.int .u64 a1_1) := (blk_cell BK858.out 1).trans rfl; have hfz35_0 := blk_frozen BK858.out 0; have hfz35_1 := blk_frozen BK858.out 1) | ((with_reducible refine gate_dst (N := 16) rfl ?_); refine Kd.R_lit k26 _ 26 ?hg (N := 16) ?hd (xs := ([(⟨a1_0, a1_1⟩ : S26)] : List (S26))) (inner := [.int .u64 a1_0, .int .u64 a1_1]) (ok := fun _ => True) (okp := fun _ => True) ?hr ?hp (fun _ hk => hk) trivial (Below.refl _ _) (Nat.le_refl _) (by simp) ?_; (case hd => rfl); (case hg => rfl); (case hr => first | (go_simp; done) | (go_simp; rfl)); (case hp => exact (Reps.c2 (show Kd.M k26 _ _ _ (⟨a1_0, a1_1⟩ : S26) [.int .u64 a1_0, .int .u64 a1_1] from (k26_mkM _ _ _ (⟨a1_0, a1_1⟩ : S26) )) (Reps.none _ _))); intro v864 w36 ho37 hb hg_ hnew_; clear hg_ hnew_; (first | rw [← Ny863.out] at ho37 | (simp only [Int.reduceToNat] at ho37; rw [← Ny863.out] at ho37)); have n0_ := Aside0.mk (Kd.R_lower (Kd.R_newB (Kd.R_newB ho37 (g := gb858) (o := .cells #[.int .u64 a1_0, .int .u64 a1_1] 26 (0, 0)) (by (with_reducible repeat (first | refine blk_drewN ?_ _ | refine blk_drew ?_ | refine blk_alloc ?_ _)); refine blk_far ?_ NB858_862.out _; (with_reducible repeat (first | refine blk_drewN ?_ _ | refine blk_drew ?_ | refine blk_alloc ?_ _)); refine blk_far ?_ NB858_862.out _; (with_reducible repeat (first | refine blk_drewN ?_ _ | refine blk_drew ?_ | refine blk_alloc ?_ _)); exact BK858.out)) (g := gb862) (o := .cells #[.int .u64 t859, .int .u64 t860] 26 (0, 0)) (by (with_reducible repeat (first | refine blk_drewN ?_ _ | refine blk_drew ?_ | refine blk_alloc ?_ _)); refine blk_put (cs := #[.int .u64 t859, .int .u64 0]) ?_ 1 _ rfl; (with_reducible repeat (first | refine blk_drewN ?_ _ | refine blk_drew ?_ | refine blk_alloc ?_ _)); refine blk_put (cs := #[.int .u64 0, .int .u64 0]) ?_ 0 _ rfl; (with_reducible repeat (first | refine blk_drewN ?_ _ | refine blk_drew ?_ | refine blk_alloc ?_ _)); exact BK862.out)) (below_size (by repeat (first | (with_reducible first | exact HB.out | apply below_alloc | apply pw_below_drewN | apply below_drew1 | refine below_set ?_ GE858.out | refine below_set ?_ GE862.out) | exact HB.out)))); have n1_ := Aside0.mk (blk_below (g := gb858) (o := .cells #[.int .u64 a1_0, .int .u64 a1_1] 26 (0, 0)) (by (with_reducible repeat (first | refine blk_drewN ?_ _ | refine blk_drew ?_ | refine blk_alloc ?_ _)); refine blk_far ?_ NB858_862.out _; (with_reducible repeat (first | refine blk_drewN ?_ _ | refine blk_drew ?_ | refine blk_alloc ?_ _)); refine blk_far ?_ NB858_862.out _; (with_reducible repeat (first | refine blk_drewN ?_ _ | refine blk_drew ?_ | refine blk_alloc ?_ _)); exact BK858.out) hb); have n2_ := Aside0.mk (blk_below (g := gb862) (o := .cells #[.int .u64 t859, .int .u64 t860] 26 (0, 0)) (by (with_reducible repeat (first | refine blk_drewN ?_ _ | refine blk_drew ?_ | refine blk_alloc ?_ _)); refine blk_put (cs := #[.int .u64 t859, .int .u64 0]) ?_ 1 _ rfl; (with_reducible repeat (first | refine blk_drewN ?_ _ | refine blk_drew ?_ | refine blk_alloc ?_ _)); refine blk_put (cs := #[.int .u64 0, .int .u64 0]) ?_ 0 _ rfl; (with_reducible repeat (first | refine blk_drewN ?_ _ | refine blk_drew ?_ | refine blk_alloc ?_ _)); exact BK862.out) hb); have n3_ := Aside0.mk (below_step (by repeat (first | (with_reducible first | exact HB.out | apply below_alloc | apply pw_below_drewN | apply below_drew1 | refine below_set ?_ GE858.out | refine below_set ?_ GE862.out) | exact HB.out)) hb); clear BK858; clear BK862; clear HB; have HO865 := n0_; have BK858 := n1_; have BK862 := n2_; have HB := n3_; clear n0_ n1_ n2_ n3_; clear hb ho37; obtain ⟨Ao38, co38, eo38⟩ := Kd.R_slice HO865.out; subst eo38) | ((with_reducible refine gate_callee (f := 11) rfl ?_); refine goesL_ (some 17) rfl rfl Try.func11 (by kernel_rfl) rfl #[.int .u8 a0, .slice Ao38 y863.length co38] rfl (by (try simp only [List.map_toArray, List.map_cons, List.map_nil]); first | done | rfl | (simp only [List.length_drop, List.length_take]; rfl)) ?_; (with_reducible refine (cutplaneref10_Good.calls k a0 _ _ y863 t866 _ ?side1 ?side2 A4.out).mono ?_); (case side1 => repeat (first | exact (Kd.R_reads' HO865.out).2.2 | (with_reducible refine Kd.C_alloc ?_ _) | (with_reducible refine Kd.C_drewN ?_ _) | (with_reducible refine Kd.C_drew ?_))); (case side2 => exact (Kd.R_reads' HO865.out).2.1); rintro e w' ⟨rfl, ⟨nd, rfl⟩⟩; refine ⟨_, rfl, ?_⟩; have hcz39_0 : w36.cell? ⟨gb858, 0, none⟩ = some (.int .u64 a1_0) := (blk_cell BK858.out 0).trans rfl; have hcz39_1 : w36.cell? ⟨gb858, 1, none⟩ = some (.int .u64 a1_1) := (blk_cell BK858.out 1).trans rfl; have hfz39_0 := blk_frozen BK858.out 0; have hfz39_1 := blk_frozen BK858.out 1) | (go_at_call 12; (with_reducible refine (cutplaneref10_Class.calls k a0 a1_0 a1_1 t867 _ A6.out).mono ?_); rintro e w40 ⟨rfl, hb⟩; have n0_ := Aside0.mk (Kd.R_below (by (with_reducible repeat (first | apply Kd.R_alloc | apply Kd.R_drewN | apply Kd.R_drew)); exact HO865.out) hb); have n1_ := Aside0.mk (blk_below (g := gb858) (o := .cells #[.int .u64 a1_0, .int .u64 a1_1] 26 (0, 0)) (by (with_reducible repeat (first | refine blk_drewN ?_ _ | refine blk_drew ?_ | refine blk_alloc ?_ _)); exact BK858.out) hb); have n2_ := Aside0.mk (blk_below (g := gb862) (o := .cells #[.int .u64 t859, .int .u64 t860] 26 (0, 0)) (by (with_reducible repeat (first | refine blk_drewN ?_ _ | refine blk_drew ?_ | refine blk_alloc ?_ _)); exact BK862.out) hb); have n3_ := Aside0.mk (below_step (by repeat (first | (with_reducible first | exact HB.out | apply below_alloc | apply pw_below_drewN | apply below_drew1 | refine below_set ?_ GE858.out | refine below_set ?_ GE862.out) | exact HB.out)) hb); clear HO865; clear BK858; clear BK862; clear HB; have HO865 := n0_; have BK858 := n1_; have BK862 := n2_; have HB := n3_; clear n0_ n1_ n2_ n3_; (try clear hb); (try clear hb2); (try clear hk); (try clear hi)))
          have n0_ := Aside0.mk (Kd.R_drew HO865.out)
          have n1_ := Aside0.mk (blk_drew BK858.out)
          have n2_ := Aside0.mk (blk_drew BK862.out)
          have n3_ := Aside0.mk (below_drew1 HB.out)
          clear HO865
          clear BK858
          clear BK862
          clear HB
          have HO865 := n0_
          have BK858 := n1_
          have BK862 := n2_
          have HB := n3_
          clear n0_ n1_ n2_ n3_
          refine start_ (n := 13) (S := fun w' => w'.cell? ⟨gb862, 0, none⟩ = some (.int .u64 t859) ∧ w'.cell? ⟨gb862, 1, none⟩ = some (.int .u64 t860) ∧ w'.cell? ⟨gb858, 0, none⟩ = some (.int .u64 a1_0) ∧ w'.cell? ⟨gb858, 1, none⟩ = some (.int .u64 a1_1)) (ds := []) #[false, false, false, false, false, false, false, false, false, false, false, false, false] (by kernel_rfl) rfl rfl ⟨(blk_cell BK862.out 0).trans rfl, (blk_cell BK862.out 1).trans rfl, (blk_cell BK858.out 0).trans rfl, (blk_cell BK858.out 1).trans rfl⟩ (fun hHeld => ?_); refine with_tabW cutplanelaw11_SpecialBoxes.tab7 cutplanelaw11_SpecialBoxes.bits7 (fun HT_ HW_ => ?_)
          generalize w40.drew = w41 at HO865 BK858 BK862 HB hHeld ⊢
          refine pure_ (i := 1) (N := some 40) (v := ?_) (a' := ?_) #[false, true, false, false, false, false, false, false, false, false, false, false, false] rfl rfl (any_of HT_.out (by kernel_rfl)) (fun _ _ _ h => h) (Or.inl ⟨by rfl, ?_⟩) ?_ ?_
          rotate_left
          · intro w'
            go_simp
            with_reducible rfl
          rotate_left
          · simp only [Act.put, List.setIfInBounds_toArray, List.set_cons_zero, List.set_cons_succ, i64_w, i32_w]
            rfl
          refine take_ (i := 0) (N := some 39) (v := ?_) (a' := ?_) #[true, true, false, false, false, false, false, false, false, false, false, false, false] rfl rfl (take_ofW HT_.out HW_.out (by kernel_rfl)) (fun _ _ _ h => h) (Or.inl ⟨by rfl, ?_⟩) hHeld ?_ ?_
          rotate_left
          · rintro w' ⟨s0, s1, s2, s3⟩
            go_simp
            with_reducible rfl
          rotate_left
          · simp only [Act.put, List.setIfInBounds_toArray, List.set_cons_zero, List.set_cons_succ, i64_w, i32_w]
            rfl
          refine take_ (i := 2) (N := some 41) (v := ?_) (a' := ?_) #[true, true, true, false, false, false, false, false, false, false, false, false, false] rfl rfl (take_ofW HT_.out HW_.out (by kernel_rfl)) (fun _ _ _ h => h) (Or.inl ⟨by rfl, ?_⟩) hHeld ?_ ?_
          rotate_left
          · rintro w' ⟨s0, s1, s2, s3⟩
            go_simp
            with_reducible rfl
          rotate_left
          · simp only [Act.put, List.setIfInBounds_toArray, List.set_cons_zero, List.set_cons_succ, i64_w, i32_w]
            rfl
          refine one_ (i := 3) (N := some 42) #[true, true, true, true, false, false, false, false, false, false, false, false, false] rfl rfl (one_of HT_.out (by kernel_rfl)) (by decide) (fun K hK => ?_)
          refine goes_ Try.func13 (by kernel_rfl) rfl #[.int .u8 a0, .agg #[.int .u64 a1_0, .int .u64 a1_1]] (by rfl) rfl rfl (by (try simp only [List.map_toArray, List.map_cons, List.map_nil]); first | done | rfl | (simp only [List.length_drop, List.length_take]; rfl)) ?_
          with_reducible refine (cutplaneref11_Box.calls k a0 a1_0 a1_1 t869 t870 _ A25.out).mono ?_
          rintro e w42 ⟨rfl, hb⟩
          refine ⟨_, rfl, ?_⟩
          have n0_ := Aside0.mk (Kd.R_below (by (with_reducible repeat (first | apply Kd.R_alloc | apply Kd.R_drewN | apply Kd.R_drew)); exact HO865.out) hb)
          have n1_ := Aside0.mk (blk_below (g := gb858) (o := .cells #[.int .u64 a1_0, .int .u64 a1_1] 26 (0, 0)) (by (with_reducible repeat (first | refine blk_drewN ?_ _ | refine blk_drew ?_ | refine blk_alloc ?_ _)); exact BK858.out) hb)
          have n2_ := Aside0.mk (blk_below (g := gb862) (o := .cells #[.int .u64 t859, .int .u64 t860] 26 (0, 0)) (by (with_reducible repeat (first | refine blk_drewN ?_ _ | refine blk_drew ?_ | refine blk_alloc ?_ _)); exact BK862.out) hb)
          have n3_ := Aside0.mk (below_step (by repeat (first | (with_reducible first | exact HB.out | apply below_alloc | apply pw_below_drewN | apply below_drew1 | refine below_set ?_ GE858.out | refine below_set ?_ GE862.out) | exact HB.out)) hb)
          clear HO865
          clear BK858
          clear BK862
          clear HB
          have HO865 := n0_
          have BK858 := n1_
          have BK862 := n2_
          have HB := n3_
          clear n0_ n1_ n2_ n3_
          (try clear hb)
          (try clear hb2)
          (try clear hk)
          (try clear hi)
          refine hK.out _ _ ⟨(blk_cell BK862.out 0).trans rfl, (blk_cell BK862.out 1).trans rfl, (blk_cell BK858.out 0).trans rfl, (blk_cell BK858.out 1).trans rfl⟩ (fun hHeld => ?_)
          clear hK K
          refine norm_ (a' := ?_) ?_ ?_
          rotate_left
          · show Act.put _ (some 42) _ = _
            simp only [Act.put, List.setIfInBounds_toArray, List.set_cons_zero, List.set_cons_succ, i64_w, i32_w]
            rfl
          refine pure_ (i := 4) (N := some 43) (v := ?_) (a' := ?_) #[true, true, true, true, true, false, false, false, false, false, false, false, false] rfl rfl (any_of HT_.out (by kernel_rfl)) (fun _ _ _ h => h) (Or.inl ⟨by rfl, ?_⟩) ?_ ?_
          rotate_left
          · intro w'
            go_simp
            with_reducible rfl
          rotate_left
          · simp only [Act.put, List.setIfInBounds_toArray, List.set_cons_zero, List.set_cons_succ, i64_w, i32_w]
            rfl
          refine pure_ (i := 5) (N := some 44) (v := ?_) (a' := ?_) #[true, true, true, true, true, true, false, false, false, false, false, false, false] rfl rfl (any_of HT_.out (by kernel_rfl)) (fun _ _ _ h => h) (Or.inl ⟨by rfl, ?_⟩) ?_ ?_
          rotate_left
          · intro w'
            go_simp
            with_reducible rfl
          rotate_left
          · simp only [Act.put, List.setIfInBounds_toArray, List.set_cons_zero, List.set_cons_succ, i64_w, i32_w]
            rfl
          refine pure_ (i := 6) (N := some 45) (v := ?_) (a' := ?_) #[true, true, true, true, true, true, true, false, false, false, false, false, false] rfl rfl (any_of HT_.out (by kernel_rfl)) (fun _ _ _ h => h) (Or.inl ⟨by rfl, ?_⟩) ?_ ?_
          rotate_left
          · intro w'
            go_simp
            with_reducible rfl
          rotate_left
          · simp only [Act.put, List.setIfInBounds_toArray, List.set_cons_zero, List.set_cons_succ, i64_w, i32_w]
            rfl
          refine pure_ (i := 7) (N := some 46) (v := ?_) (a' := ?_) #[true, true, true, true, true, true, true, true, false, false, false, false, false] rfl rfl (any_of HT_.out (by kernel_rfl)) (fun _ _ _ h => h) (Or.inl ⟨by rfl, ?_⟩) ?_ ?_
          rotate_left
          · intro w'
            go_simp
            with_reducible rfl
          rotate_left
          · simp only [Act.put, List.setIfInBounds_toArray, List.set_cons_zero, List.set_cons_succ, i64_w, i32_w]
            rfl
          refine pure_ (i := 8) (N := some 47) (v := ?_) (a' := ?_) #[true, true, true, true, true, true, true, true, true, false, false, false, false] rfl rfl (any_of HT_.out (by kernel_rfl)) (fun _ _ _ h => h) (Or.inl ⟨by rfl, ?_⟩) ?_ ?_
          rotate_left
          · intro w'
            go_simp
            with_reducible rfl
          rotate_left
          · simp only [Act.put, List.setIfInBounds_toArray, List.set_cons_zero, List.set_cons_succ, i64_w, i32_w]
            rfl
          refine pure_ (i := 9) (N := some 48) (v := ?_) (a' := ?_) #[true, true, true, true, true, true, true, true, true, true, false, false, false] rfl rfl (any_of HT_.out (by kernel_rfl)) (fun _ _ _ h => h) (Or.inl ⟨by rfl, ?_⟩) ?_ ?_
          rotate_left
          · intro w'
            go_simp
            with_reducible rfl
          rotate_left
          · simp only [Act.put, List.setIfInBounds_toArray, List.set_cons_zero, List.set_cons_succ, i64_w, i32_w]
            rfl
          refine one_ (i := 10) (N := some 49) #[true, true, true, true, true, true, true, true, true, true, true, false, false] rfl rfl (one_of HT_.out (by kernel_rfl)) (by decide) (fun K hK => ?_)
          refine goes_ Try.func8 (by kernel_rfl) rfl #[] (by rfl) rfl rfl (by (try simp only [List.map_toArray, List.map_cons, List.map_nil]); first | done | rfl | (simp only [List.length_drop, List.length_take]; rfl)) ?_
          with_reducible refine (cutplanelaw11_known.calls k  t871 _ A28.out).mono ?_
          rintro e w43 ⟨rfl, hb⟩
          refine ⟨_, rfl, ?_⟩
          have n0_ := Aside0.mk (Kd.R_below (by (with_reducible repeat (first | apply Kd.R_alloc | apply Kd.R_drewN | apply Kd.R_drew)); exact HO865.out) hb)
          have n1_ := Aside0.mk (blk_below (g := gb858) (o := .cells #[.int .u64 a1_0, .int .u64 a1_1] 26 (0, 0)) (by (with_reducible repeat (first | refine blk_drewN ?_ _ | refine blk_drew ?_ | refine blk_alloc ?_ _)); exact BK858.out) hb)
          have n2_ := Aside0.mk (blk_below (g := gb862) (o := .cells #[.int .u64 t859, .int .u64 t860] 26 (0, 0)) (by (with_reducible repeat (first | refine blk_drewN ?_ _ | refine blk_drew ?_ | refine blk_alloc ?_ _)); exact BK862.out) hb)
          have n3_ := Aside0.mk (below_step (by repeat (first | (with_reducible first | exact HB.out | apply below_alloc | apply pw_below_drewN | apply below_drew1 | refine below_set ?_ GE858.out | refine below_set ?_ GE862.out) | exact HB.out)) hb)
          clear HO865
          clear BK858
          clear BK862
          clear HB
          have HO865 := n0_
          have BK858 := n1_
          have BK862 := n2_
          have HB := n3_
          clear n0_ n1_ n2_ n3_
          (try clear hb)
          (try clear hb2)
          (try clear hk)
          (try clear hi)
          refine hK.out _ _ ⟨(blk_cell BK862.out 0).trans rfl, (blk_cell BK862.out 1).trans rfl, (blk_cell BK858.out 0).trans rfl, (blk_cell BK858.out 1).trans rfl⟩ (fun hHeld => ?_)
          clear hK K
          refine norm_ (a' := ?_) ?_ ?_
          rotate_left
          · show Act.put _ (some 49) _ = _
            simp only [Act.put, List.setIfInBounds_toArray, List.set_cons_zero, List.set_cons_succ, i64_w, i32_w]
            rfl
          refine pure_ (i := 11) (N := some 50) (v := ?_) (a' := ?_) #[true, true, true, true, true, true, true, true, true, true, true, true, false] rfl rfl (any_of HT_.out (by kernel_rfl)) (fun _ _ _ h => h) (Or.inl ⟨by rfl, ?_⟩) ?_ ?_
          rotate_left
          · intro w'
            go_simp
            with_reducible rfl
          rotate_left
          · simp only [Act.put, List.setIfInBounds_toArray, List.set_cons_zero, List.set_cons_succ, i64_w, i32_w]
            rfl
          refine pure_ (i := 12) (N := some 4) (v := ?_) (a' := ?_) #[true, true, true, true, true, true, true, true, true, true, true, true, true] rfl rfl (any_of HT_.out (by kernel_rfl)) (fun _ _ _ h => h) (Or.inl ⟨by rfl, ?_⟩) ?_ ?_
          rotate_left
          · intro w'
            go_simp
            with_reducible rfl
          rotate_left
          · simp only [Act.put, List.setIfInBounds_toArray, List.set_cons_zero, List.set_cons_succ, i64_w, i32_w]
            rfl
          refine done_ (done_of HT_.out (by kernel_rfl)) ?_
          try go_wp2
          go_ret
          exact ⟨by first | rfl | (simp [errW_none, errW_some] <;> rfl) | (simp [*, errW_none, errW_some] <;> rfl), by repeat (first | (with_reducible first | exact HB.out | apply below_alloc | apply pw_below_drewN | apply below_drew1 | refine below_set ?_ GE858.out | refine below_set ?_ GE862.out) | exact HB.out)⟩
        · rw [if_neg c27] at H
          have c27b0 : (t861 == 0) = false := beq_eq_false_iff_ne.mpr c27
          have c27b1 : (t861 != 0) = true := bne_iff_ne.mpr c27
          exact absurd H (by simp)
      · rw [if_neg c26] at H
        have c26b0 : (t859 == t869 && (t860 == t870)) = false := by simpa using c26
        (try (have c26b1 : decide (t859 = t869 && (t860 == t870)) = false := by simpa using c26))
        (try (have c26b2 : (t859 == t869 && (t860 == t870)) = false := by simpa using c26))
        (try (have c26b3 : ¬ (t859 = t869 && (t860 == t870)) := by simpa using c26))
        clear c26
        exact absurd H (by simp)
  · rw [if_neg c5] at H
    have c5b0 : (t866 == 0) = false := beq_eq_false_iff_ne.mpr c5
    have c5b1 : (t866 != 0) = true := bne_iff_ne.mpr c5
    by_cases c44 : (t859 == 0 && (t860 == 0)) = true
    · rw [if_pos c44] at H
      have c44b0 : (t859 == 0 && (t860 == 0)) = true := c44
      (try (have c44b1 : decide (t859 = 0 && (t860 == 0)) = true := by simpa using c44))
      (try (have c44b2 : (t859 == 0 && (t860 == 0)) = true := by simpa using c44))
      clear c44
      by_cases c45 : t861 = t866
      · rw [if_pos c45] at H
        have c45b0 : (t861 == t866) = true := beq_iff_eq.mpr c45
        have c45b1 : (t861 != t866) = false := bne_eq_false_iff_eq.mpr c45
        clear c45
        replace H := Option.bind_eq_some_iff.mp H
        obtain ⟨t872, A460, H⟩ := H
        replace H : (some t872) = some r := H
        have A46 := Aside0.mk A460
        clear A460
        obtain rfl := Option.some.inj H
        go_enter Try.func4, Try.ntmps4
        go_wp2_with (first | ((with_reducible refine gate_dst (N := 3) rfl ?_); refine box_event ?hg (N := 3) ?hd (cs := #[.int .u64 a1_0, .int .u64 a1_1]) (t := 26) ?hr ?_; (case hd => rfl); (case hg => rfl); (case hr => first | (go_simp; done) | (go_simp; rfl)); intro gb858 hg w47 hbox hb; have n0_ := Aside0.mk (below_step (by repeat (first | (with_reducible first | exact HB.out | apply below_alloc | apply pw_below_drewN | apply below_drew1) | exact HB.out)) hb); have n1_ := Aside0.mk (hbox); have n2_ := Aside0.mk ((by rw [hg]; exact (below_size (by repeat (first | (with_reducible first | exact HB.out | apply below_alloc | apply pw_below_drewN | apply below_drew1) | exact HB.out))) : w.heap.size ≤ gb858)); have n3_ := Aside0.mk ((by rw [hg]; exact (below_size (by repeat (first | (with_reducible first | exact HB.out | apply below_alloc | apply pw_below_drewN | apply below_drew1) | exact HB.out))) : w.heap.size ≤ gb858)); clear HB; have HB := n0_; have BK858 := n1_; have GW858 := n2_; have GE858 := n3_; clear n0_ n1_ n2_ n3_; clear hb hbox hg; have hcz48_0 : w47.cell? ⟨gb858, 0, none⟩ = some (.int .u64 a1_0) := (blk_cell BK858.out 0).trans rfl; have hcz48_1 : w47.cell? ⟨gb858, 1, none⟩ = some (.int .u64 a1_1) := (blk_cell BK858.out 1).trans rfl; have hfz48_0 := blk_frozen BK858.out 0; have hfz48_1 := blk_frozen BK858.out 1) | ((with_reducible refine gate_callee (f := 10) rfl ?_); refine goesL_ (some 11) rfl rfl Try.func10 (by kernel_rfl) rfl #[.int .u8 a0, .agg #[.int .u64 a1_0, .int .u64 a1_1]] rfl (by (try simp only [List.map_toArray, List.map_cons, List.map_nil]); first | done | rfl | (simp only [List.length_drop, List.length_take]; rfl)) ?_; (with_reducible refine (special_Box.calls k a0 a1_0 a1_1 t859 t860 t861 _ A3.out).mono ?_); rintro e w49 ⟨rfl, hb⟩; refine ⟨_, rfl, ?_⟩; have n0_ := Aside0.mk (blk_below (g := gb858) (o := .cells #[.int .u64 a1_0, .int .u64 a1_1] 26 (0, 0)) (by (with_reducible repeat (first | refine blk_drewN ?_ _ | refine blk_drew ?_ | refine blk_alloc ?_ _)); exact BK858.out) hb); have n1_ := Aside0.mk (below_step (by repeat (first | (with_reducible first | exact HB.out | apply below_alloc | apply pw_below_drewN | apply below_drew1 | refine below_set ?_ GE858.out) | exact HB.out)) hb); clear BK858; clear HB; have BK858 := n0_; have HB := n1_; clear n0_ n1_; (try clear hb); (try clear hb2); (try clear hk); (try clear hi)) | ((with_reducible refine gate_dst (N := 5) rfl ?_); refine box_event ?hg (N := 5) ?hd (cs := #[.int .u64 0, .int .u64 0]) (t := 26) ?hr ?_; (case hd => rfl); (case hg => rfl); (case hr => first | (go_simp; done) | (go_simp; rfl)); intro gb862 hg w50 hbox hb; have n0_ := Aside0.mk (blk_below (g := gb858) (o := .cells #[.int .u64 a1_0, .int .u64 a1_1] 26 (0, 0)) (by (with_reducible repeat (first | refine blk_drewN ?_ _ | refine blk_drew ?_ | refine blk_alloc ?_ _)); exact BK858.out) hb); have n1_ := Aside0.mk (below_step (by repeat (first | (with_reducible first | exact HB.out | apply below_alloc | apply pw_below_drewN | apply below_drew1 | refine below_set ?_ GE858.out) | exact HB.out)) hb); have n2_ := Aside0.mk (hbox); have n3_ := Aside0.mk ((by rw [hg]; exact (below_size (by repeat (first | (with_reducible first | exact HB.out | apply below_alloc | apply pw_below_drewN | apply below_drew1 | refine below_set ?_ GE858.out) | exact HB.out))) : w.heap.size ≤ gb862)); have n4_ := Aside0.mk ((by rw [hg]; exact (below_size (by repeat (first | (with_reducible first | exact HB.out | apply below_alloc | apply pw_below_drewN | apply below_drew1 | refine below_set ?_ GE858.out) | exact HB.out))) : w.heap.size ≤ gb862)); have n5_ := Aside0.mk ((by rw [hg]; exact Nat.ne_of_lt (blk_lt (g := gb858) (o := .cells #[.int .u64 a1_0, .int .u64 a1_1] 26 (0, 0)) (by (with_reducible repeat (first | refine blk_drewN ?_ _ | refine blk_drew ?_ | refine blk_alloc ?_ _)); exact BK858.out)) : gb858 ≠ gb862)); have n6_ := Aside0.mk ((by rw [hg]; exact Nat.ne_of_gt (blk_lt (g := gb858) (o := .cells #[.int .u64 a1_0, .int .u64 a1_1] 26 (0, 0)) (by (with_reducible repeat (first | refine blk_drewN ?_ _ | refine blk_drew ?_ | refine blk_alloc ?_ _)); exact BK858.out)) : gb862 ≠ gb858)); clear BK858; clear HB; have BK858 := n0_; have HB := n1_; have BK862 := n2_; have GW862 := n3_; have GE862 := n4_; have NB858_862 := n5_; have NB862_858 := n6_; clear n0_ n1_ n2_ n3_ n4_ n5_ n6_; clear hb hbox hg; have hnb51 := NB862_858.out; have hnc51 := NB858_862.out; have hcz52_0 : w50.cell? ⟨gb862, 0, none⟩ = some (.int .u64 0) := (blk_cell BK862.out 0).trans rfl; have hcz52_1 : w50.cell? ⟨gb862, 1, none⟩ = some (.int .u64 0) := (blk_cell BK862.out 1).trans rfl; have hfz52_0 := blk_frozen BK862.out 0; have hfz52_1 := blk_frozen BK862.out 1; have hcz53_0 : w50.cell? ⟨gb858, 0, none⟩ = some (.int .u64 a1_0) := (blk_cell BK858.out 0).trans rfl; have hcz53_1 : w50.cell? ⟨gb858, 1, none⟩ = some (.int .u64 a1_1) := (blk_cell BK858.out 1).trans rfl; have hfz53_0 := blk_frozen BK858.out 0; have hfz53_1 := blk_frozen BK858.out 1) | ((with_reducible refine gate_dst (N := 16) rfl ?_); refine Kd.R_lit k26 _ 26 ?hg (N := 16) ?hd (xs := ([(⟨a1_0, a1_1⟩ : S26)] : List (S26))) (inner := [.int .u64 a1_0, .int .u64 a1_1]) (ok := fun _ => True) (okp := fun _ => True) ?hr ?hp (fun _ hk => hk) trivial (Below.refl _ _) (Nat.le_refl _) (by simp) ?_; (case hd => rfl); (case hg => rfl); (case hr => first | (go_simp; done) | (go_simp; rfl)); (case hp => exact (Reps.c2 (show Kd.M k26 _ _ _ (⟨a1_0, a1_1⟩ : S26) [.int .u64 a1_0, .int .u64 a1_1] from (k26_mkM _ _ _ (⟨a1_0, a1_1⟩ : S26) )) (Reps.none _ _))); intro v864 w54 ho55 hb hg_ hnew_; clear hg_ hnew_; (first | rw [← Ny863.out] at ho55 | (simp only [Int.reduceToNat] at ho55; rw [← Ny863.out] at ho55)); have n0_ := Aside0.mk (Kd.R_lower (Kd.R_newB (Kd.R_newB ho55 (g := gb858) (o := .cells #[.int .u64 a1_0, .int .u64 a1_1] 26 (0, 0)) (by (with_reducible repeat (first | refine blk_drewN ?_ _ | refine blk_drew ?_ | refine blk_alloc ?_ _)); refine blk_far ?_ NB858_862.out _; (with_reducible repeat (first | refine blk_drewN ?_ _ | refine blk_drew ?_ | refine blk_alloc ?_ _)); refine blk_far ?_ NB858_862.out _; (with_reducible repeat (first | refine blk_drewN ?_ _ | refine blk_drew ?_ | refine blk_alloc ?_ _)); exact BK858.out)) (g := gb862) (o := .cells #[.int .u64 t859, .int .u64 t860] 26 (0, 0)) (by (with_reducible repeat (first | refine blk_drewN ?_ _ | refine blk_drew ?_ | refine blk_alloc ?_ _)); refine blk_put (cs := #[.int .u64 t859, .int .u64 0]) ?_ 1 _ rfl; (with_reducible repeat (first | refine blk_drewN ?_ _ | refine blk_drew ?_ | refine blk_alloc ?_ _)); refine blk_put (cs := #[.int .u64 0, .int .u64 0]) ?_ 0 _ rfl; (with_reducible repeat (first | refine blk_drewN ?_ _ | refine blk_drew ?_ | refine blk_alloc ?_ _)); exact BK862.out)) (below_size (by repeat (first | (with_reducible first | exact HB.out | apply below_alloc | apply pw_below_drewN | apply below_drew1 | refine below_set ?_ GE858.out | refine below_set ?_ GE862.out) | exact HB.out)))); have n1_ := Aside0.mk (blk_below (g := gb858) (o := .cells #[.int .u64 a1_0, .int .u64 a1_1] 26 (0, 0)) (by (with_reducible repeat (first | refine blk_drewN ?_ _ | refine blk_drew ?_ | refine blk_alloc ?_ _)); refine blk_far ?_ NB858_862.out _; (with_reducible repeat (first | refine blk_drewN ?_ _ | refine blk_drew ?_ | refine blk_alloc ?_ _)); refine blk_far ?_ NB858_862.out _; (with_reducible repeat (first | refine blk_drewN ?_ _ | refine blk_drew ?_ | refine blk_alloc ?_ _)); exact BK858.out) hb); have n2_ := Aside0.mk (blk_below (g := gb862) (o := .cells #[.int .u64 t859, .int .u64 t860] 26 (0, 0)) (by (with_reducible repeat (first | refine blk_drewN ?_ _ | refine blk_drew ?_ | refine blk_alloc ?_ _)); refine blk_put (cs := #[.int .u64 t859, .int .u64 0]) ?_ 1 _ rfl; (with_reducible repeat (first | refine blk_drewN ?_ _ | refine blk_drew ?_ | refine blk_alloc ?_ _)); refine blk_put (cs := #[.int .u64 0, .int .u64 0]) ?_ 0 _ rfl; (with_reducible repeat (first | refine blk_drewN ?_ _ | refine blk_drew ?_ | refine blk_alloc ?_ _)); exact BK862.out) hb); have n3_ := Aside0.mk (below_step (by repeat (first | (with_reducible first | exact HB.out | apply below_alloc | apply pw_below_drewN | apply below_drew1 | refine below_set ?_ GE858.out | refine below_set ?_ GE862.out) | exact HB.out)) hb); clear BK858; clear BK862; clear HB; have HO865 := n0_; have BK858 := n1_; have BK862 := n2_; have HB := n3_; clear n0_ n1_ n2_ n3_; clear hb ho55; obtain ⟨Ao56, co56, eo56⟩ := Kd.R_slice HO865.out; subst eo56) | ((with_reducible refine gate_callee (f := 11) rfl ?_); refine goesL_ (some 17) rfl rfl Try.func11 (by kernel_rfl) rfl #[.int .u8 a0, .slice Ao56 y863.length co56] rfl (by (try simp only [List.map_toArray, List.map_cons, List.map_nil]); first | done | rfl | (simp only [List.length_drop, List.length_take]; rfl)) ?_; (with_reducible refine (cutplaneref10_Good.calls k a0 _ _ y863 t866 _ ?side1 ?side2 A4.out).mono ?_); (case side1 => repeat (first | exact (Kd.R_reads' HO865.out).2.2 | (with_reducible refine Kd.C_alloc ?_ _) | (with_reducible refine Kd.C_drewN ?_ _) | (with_reducible refine Kd.C_drew ?_))); (case side2 => exact (Kd.R_reads' HO865.out).2.1); rintro e w' ⟨rfl, ⟨nd, rfl⟩⟩; refine ⟨_, rfl, ?_⟩; have hcz57_0 : w54.cell? ⟨gb862, 0, none⟩ = some (.int .u64 t859) := (blk_cell BK862.out 0).trans rfl; have hcz57_1 : w54.cell? ⟨gb862, 1, none⟩ = some (.int .u64 t860) := (blk_cell BK862.out 1).trans rfl; have hfz57_0 := blk_frozen BK862.out 0; have hfz57_1 := blk_frozen BK862.out 1) | (go_at_call 8; (with_reducible refine (cutplanelaw11_known.calls k  t872 _ A46.out).mono ?_); rintro e w58 ⟨rfl, hb⟩; have n0_ := Aside0.mk (Kd.R_below (by (with_reducible repeat (first | apply Kd.R_alloc | apply Kd.R_drewN | apply Kd.R_drew)); exact HO865.out) hb); have n1_ := Aside0.mk (blk_below (g := gb858) (o := .cells #[.int .u64 a1_0, .int .u64 a1_1] 26 (0, 0)) (by (with_reducible repeat (first | refine blk_drewN ?_ _ | refine blk_drew ?_ | refine blk_alloc ?_ _)); exact BK858.out) hb); have n2_ := Aside0.mk (blk_below (g := gb862) (o := .cells #[.int .u64 t859, .int .u64 t860] 26 (0, 0)) (by (with_reducible repeat (first | refine blk_drewN ?_ _ | refine blk_drew ?_ | refine blk_alloc ?_ _)); exact BK862.out) hb); have n3_ := Aside0.mk (below_step (by repeat (first | (with_reducible first | exact HB.out | apply below_alloc | apply pw_below_drewN | apply below_drew1 | refine below_set ?_ GE858.out | refine below_set ?_ GE862.out) | exact HB.out)) hb); clear HO865; clear BK858; clear BK862; clear HB; have HO865 := n0_; have BK858 := n1_; have BK862 := n2_; have HB := n3_; clear n0_ n1_ n2_ n3_; (try clear hb); (try clear hb2); (try clear hk); (try clear hi)))
        go_ret
        exact ⟨by first | rfl | (simp [errW_none, errW_some] <;> rfl) | (simp [*, errW_none, errW_some] <;> rfl), by repeat (first | (with_reducible first | exact HB.out | apply below_alloc | apply pw_below_drewN | apply below_drew1 | refine below_set ?_ GE858.out | refine below_set ?_ GE862.out) | exact HB.out)⟩
      · rw [if_neg c45] at H
        exact absurd H (by simp)
    · rw [if_neg c44] at H
      exact absurd H (by simp)
/-- THE ONE PURE STATEMENT of cutplanelaw11_SpecialBoxes: yours. -/
def cutplanelaw11_SpecialBoxes.Pure : Prop := ∀ (a0 : Int) (a1_0 : Int) (a1_1 : Int), (Lit.int .u8 a0).wf = true → (Lit.int .u64 a1_0).wf = true → (Lit.int .u64 a1_1).wf = true → ∃ k, cutplanelaw11_SpecialBoxes.f k a0 a1_0 a1_1 = some true
theorem cutplanelaw11_SpecialBoxes.walk (P : cutplanelaw11_SpecialBoxes.Pure) (a0 : Int) (a1_0 : Int) (a1_1 : Int) (w : World) (w0 : (Lit.int .u8 a0).wf = true) (w1_0 : (Lit.int .u64 a1_0).wf = true) (w1_1 : (Lit.int .u64 a1_1).wf = true) :
    Calls Try.prog 4 #[.int .u8 a0, .agg #[.int .u64 a1_0, .int .u64 a1_1]] w fun e w' => e = .returned (.bool true) ∧ Below w.heap.size w w' := by
  obtain ⟨k, h⟩ := P a0 a1_0 a1_1 w0 w1_0 w1_1
  refine (cutplanelaw11_SpecialBoxes.calls k a0 a1_0 a1_1 true w h).mono ?_
  rintro e w' ⟨rfl, hd⟩
  exact ⟨rfl, hd⟩
end Go.Proofs.Ytlgapmhjaaajfaa.PA
end

section
namespace Go.Proofs.Ytlgapmhjaaajfaa.Wd
open Go
theorem nat_and_lt {n a : Nat} (h : a < 2 ^ n) : a &&& 2 ^ n = 0 := by
  apply Nat.eq_of_testBit_eq
  intro i
  rw [Nat.testBit_and, Nat.testBit_two_pow, Nat.zero_testBit]
  by_cases e : n = i
  · subst e; simp [Nat.testBit_lt_two_pow h]
  · simp [e]
theorem nat_and_ge {n l : Nat} (h : l < 2 ^ n) : (2 ^ n + l) &&& 2 ^ n = 2 ^ n := by
  apply Nat.eq_of_testBit_eq
  intro i
  rw [Nat.testBit_and, Nat.testBit_two_pow]
  by_cases e : n = i
  · subst e; rw [Nat.testBit_two_pow_add_eq, Nat.testBit_lt_two_pow h]; simp
  · simp [e]
theorem nat_or_lt {n a : Nat} (h : a < 2 ^ n) : a ||| 2 ^ n = 2 ^ n + a := by
  have := Nat.two_pow_add_eq_or_of_lt h 1
  rw [Nat.mul_one] at this
  rw [this, Nat.or_comm]
theorem nat_xor_lt {n a : Nat} (h : a < 2 ^ n) : a ^^^ 2 ^ n = 2 ^ n + a := by
  rw [← nat_or_lt h]
  apply Nat.eq_of_testBit_eq
  intro i
  rw [Nat.testBit_xor, Nat.testBit_or, Nat.testBit_two_pow]
  by_cases e : n = i
  · subst e; simp [Nat.testBit_lt_two_pow h]
  · simp [e]
theorem nat_xor_ge {n l : Nat} (h : l < 2 ^ n) : (2 ^ n + l) ^^^ 2 ^ n = l := by
  rw [← nat_xor_lt h, Nat.xor_assoc, Nat.xor_self, Nat.xor_zero]
theorem nat_mask {n a : Nat} (hn : n ≤ 63) (h : a < 2 ^ (n + 1)) : a &&& (2 ^ 64 - (2 ^ n + 1)) = a % 2 ^ n := by
  apply Nat.eq_of_testBit_eq
  intro i
  rw [Nat.testBit_and, Nat.testBit_mod_two_pow, Nat.testBit_two_pow_sub_succ (by exact Nat.pow_lt_pow_right (by decide) (by omega)), Nat.testBit_two_pow]
  by_cases e : i < n
  · simp [e, show n ≠ i by omega, show i < 64 by omega]
  · by_cases e2 : n = i
    · subst e2; simp
    · have : a.testBit i = false := Nat.testBit_lt_two_pow (Nat.lt_of_lt_of_le h (Nat.pow_le_pow_right (by decide) (by omega)))
      simp [this]
section
variable {w : Int}
theorem andNot31 (h0 : 0 ≤ w) (h1 : w < 4294967296) : Go.bits .andNot .u64 w 2147483648 = w % 2147483648 := by
  obtain ⟨a, rfl⟩ := Int.eq_ofNat_of_zero_le h0
  have ha : a < 2 ^ (31 + 1) := by omega
  have e := u64_andNot_nat a 2147483648 (by omega) (by decide)
  have m : a &&& 18446744071562067967 = a % 2147483648 := nat_mask (n := 31) (by decide) ha
  rw [show ((2147483648 : Int)) = ((2147483648 : Nat) : Int) from rfl, e, show (18446744073709551615 - 2147483648 : Nat) = 18446744071562067967 from rfl, m]
  omega
theorem andNot63 (h0 : 0 ≤ w) (h1 : w < 18446744073709551616) : Go.bits .andNot .u64 w 9223372036854775808 = w % 9223372036854775808 := by
  obtain ⟨a, rfl⟩ := Int.eq_ofNat_of_zero_le h0
  have ha : a < 2 ^ (63 + 1) := by omega
  have e := u64_andNot_nat a 9223372036854775808 (by omega) (by decide)
  have m : a &&& 9223372036854775807 = a % 9223372036854775808 := nat_mask (n := 63) (by decide) ha
  rw [show ((9223372036854775808 : Int)) = ((9223372036854775808 : Nat) : Int) from rfl, e, show (18446744073709551615 - 9223372036854775808 : Nat) = 9223372036854775807 from rfl, m]
  omega
theorem and31 (h0 : 0 ≤ w) (h1 : w < 4294967296) : Go.bits .and .u64 w 2147483648 = if w ≥ 2147483648 then 2147483648 else 0 := by
  obtain ⟨a, rfl⟩ := Int.eq_ofNat_of_zero_le h0
  have e := u64_and_nat a 2147483648 (by omega) (by decide)
  rw [show ((2147483648 : Int)) = ((2147483648 : Nat) : Int) from rfl, e]
  by_cases c : a < 2 ^ 31
  · have m : a &&& 2147483648 = 0 := nat_and_lt (n := 31) c
    rw [m, if_neg (by omega)]; rfl
  · obtain ⟨l, rfl⟩ : ∃ l, a = 2 ^ 31 + l := ⟨a - 2 ^ 31, by omega⟩
    have m : (2 ^ 31 + l) &&& 2147483648 = 2147483648 := nat_and_ge (n := 31) (l := l) (by omega)
    rw [m, if_pos (by omega)]
theorem and63 (h0 : 0 ≤ w) (h1 : w < 18446744073709551616) : Go.bits .and .u64 w 9223372036854775808 = if w ≥ 9223372036854775808 then 9223372036854775808 else 0 := by
  obtain ⟨a, rfl⟩ := Int.eq_ofNat_of_zero_le h0
  have e := u64_and_nat a 9223372036854775808 (by omega) (by decide)
  rw [show ((9223372036854775808 : Int)) = ((9223372036854775808 : Nat) : Int) from rfl, e]
  by_cases c : a < 2 ^ 63
  · have m : a &&& 9223372036854775808 = 0 := nat_and_lt (n := 63) c
    rw [m, if_neg (by omega)]; rfl
  · obtain ⟨l, rfl⟩ : ∃ l, a = 2 ^ 63 + l := ⟨a - 2 ^ 63, by omega⟩
    have m : (2 ^ 63 + l) &&& 9223372036854775808 = 9223372036854775808 := nat_and_ge (n := 63) (l := l) (by omega)
    rw [m, if_pos (by omega)]
theorem xor31 (h0 : 0 ≤ w) (h1 : w < 4294967296) : Go.bits .xor .u64 w 2147483648 = if w ≥ 2147483648 then w - 2147483648 else w + 2147483648 := by
  obtain ⟨a, rfl⟩ := Int.eq_ofNat_of_zero_le h0
  have e := u64_xor_nat a 2147483648 (by omega) (by decide)
  rw [show ((2147483648 : Int)) = ((2147483648 : Nat) : Int) from rfl, e]
  by_cases c : a < 2 ^ 31
  · have m : a ^^^ 2147483648 = 2 ^ 31 + a := nat_xor_lt (n := 31) c
    rw [m, if_neg (by omega)]; omega
  · obtain ⟨l, rfl⟩ : ∃ l, a = 2 ^ 31 + l := ⟨a - 2 ^ 31, by omega⟩
    have m : (2 ^ 31 + l) ^^^ 2147483648 = l := nat_xor_ge (n := 31) (l := l) (by omega)
    rw [m, if_pos (by omega)]; omega
theorem xor63 (h0 : 0 ≤ w) (h1 : w < 18446744073709551616) : Go.bits .xor .u64 w 9223372036854775808 = if w ≥ 9223372036854775808 then w - 9223372036854775808 else w + 9223372036854775808 := by
  obtain ⟨a, rfl⟩ := Int.eq_ofNat_of_zero_le h0
  have e := u64_xor_nat a 9223372036854775808 (by omega) (by decide)
  rw [show ((9223372036854775808 : Int)) = ((9223372036854775808 : Nat) : Int) from rfl, e]
  by_cases c : a < 2 ^ 63
  · have m : a ^^^ 9223372036854775808 = 2 ^ 63 + a := nat_xor_lt (n := 63) c
    rw [m, if_neg (by omega)]; omega
  · obtain ⟨l, rfl⟩ : ∃ l, a = 2 ^ 63 + l := ⟨a - 2 ^ 63, by omega⟩
    have m : (2 ^ 63 + l) ^^^ 9223372036854775808 = l := nat_xor_ge (n := 63) (l := l) (by omega)
    rw [m, if_pos (by omega)]; omega
theorem wrapu64 (n : Int) : IntKind.u64.wrap n = n % 18446744073709551616 := by simp [IntKind.wrap, IntKind.bits, IntKind.signed]
theorem wraps_u64 (n : Int) (h₀ : 0 ≤ n) (h₁ : n < 2 ^ 64) : IntKind.u64.wrap n = n := by
  rw [wrapu64]; omega
theorem and23 (h0 : 0 ≤ w) (h1 : w < 18446744073709551616) : Go.bits .and .u64 w 8388607 = w % 8388608 :=
  bits_mask .u64 64 (by decide) wraps_u64 23 (by decide) w h0 (by omega)
theorem and52 (h0 : 0 ≤ w) (h1 : w < 18446744073709551616) : Go.bits .and .u64 w 4503599627370495 = w % 4503599627370496 :=
  bits_mask .u64 64 (by decide) wraps_u64 52 (by decide) w h0 (by omega)
end
end Go.Proofs.Ytlgapmhjaaajfaa.Wd
end

section
namespace Go.Proofs.Ytlgapmhjaaajfaa.PA
open Go.RowKit Go.Proofs.YtlgapmhjaaajfaaW.PrintWords Go.Proofs.YtlgapmhjaaajfaaW.PrintLast Go.Proofs.YtlgapmhjaaajfaaW.PrintMore Go.Proofs.Ytlgapmhjaaajfaa.Wd
set_option linter.unusedSimpArgs false
set_option linter.unusedVariables false
/-- the class of a size: P one above the fractions, I the infinite size -/
def cls (P I s : Int) : Int := if s = 0 then 1 else if s < P then 2 else if s < I then 3 else if s = I then 4 else 5
def sgn (f : Int) : Int := if f = 1 then 2147483648 else 9223372036854775808
def one (f : Int) : Int := if f = 1 then 8388608 else 4503599627370496
def infw (f : Int) : Int := if f = 1 then 2139095040 else 9218868437227405312
def nanw (f : Int) : Int := if f = 1 then 2143289344 else 9221120237041090560
def cl (f w : Int) : Int := cls (one f) (infw f) (w % sgn f)
/-- the error of a word, as Good tells it -/
def err (f w : Int) : Int := if f = 1 then (if w ≥ 4294967296 then 6 else 0) else if f = 2 then 0 else 4
/-- a good word -/
def Gd (f w : Int) : Prop := (f = 1 ∧ 0 ≤ w ∧ w < 4294967296) ∨ (f = 2 ∧ 0 ≤ w ∧ w < 18446744073709551616)
def U (w : Int) : Prop := 0 ≤ w ∧ w < 18446744073709551616
theorem Gd.u {f w : Int} (h : Gd f w) : U w := by rcases h with ⟨_, a, b⟩ | ⟨_, a, b⟩ <;> exact ⟨a, by omega⟩
theorem Gd.err {f w : Int} (h : Gd f w) : err f w = 0 := by
  rcases h with ⟨rfl, a, b⟩ | ⟨rfl, a, b⟩
  · simp [PA.err]; omega
  · simp [PA.err]
theorem gd_of {f w : Int} (h : err f w = 0) (hu : U w) : Gd f w := by
  unfold err at h
  unfold U at hu
  unfold Gd
  split at h
  · split at h
    · omega
    · omega
  · split at h <;> omega
theorem u_of {w : Int} (h : (Lit.int .u64 w).wf = true) : U w := by have := bounds_u64 h; exact ⟨by omega, by omega⟩
theorem rd_zero (w : Int) : rd [w] 0 = w := by rfl
theorem top31 : Go.bits .or .u64 2147483648 (IntKind.u64.wrap (2147483648 - 1)) = 4294967295 := by decide +kernel
theorem top63 : Go.bits .or .u64 9223372036854775808 (IntKind.u64.wrap (9223372036854775808 - 1)) = 18446744073709551615 := by decide +kernel
/-- the shape of a format -/
def shp (f : Int) : Int × Int × Int := if f = 1 then (23, 255, 2147483648) else if f = 2 then (52, 2047, 9223372036854775808) else (0, 0, 0)
theorem open_one (k : Nat) (f w : Int) (hu : U w) : word_open.f (k + 2) f [w] = some ((shp f).1, (shp f).2.1, (shp f).2.2, err f w) := by
  obtain ⟨h0, h3⟩ := hu
  unfold word_open.f word_shapeOf.f shp err
  by_cases h1 : f = 1
  · subst h1
    have l1 : (([w] : List Int).length : Int) = 1 := rfl
    have w1 : wrap64 (0 + 1) = 1 := by decide +kernel
    simp only [if_true, Option.bind_some, word_open.l0, l1, rd_zero, top31, Int.zero_lt_one, Int.le_refl, w1]
    by_cases c : w ≥ 4294967296
    · rw [if_pos (by omega)]; simp [c]
    · rw [if_neg (by omega)]; simp [c]
  · by_cases h2 : f = 2
    · subst h2
      have l1 : (([w] : List Int).length : Int) = 1 := rfl
      have w1 : wrap64 (0 + 1) = 1 := by decide +kernel
      simp only [show (¬ ((2 : Int) = 1)) by decide, if_false, if_true, Option.bind_some, word_open.l0, l1, rd_zero, top63, Int.zero_lt_one, Int.le_refl, w1]
      rw [if_neg (by omega)]
      simp
    · simp [h1, h2]
theorem shape_inf1 : word_shape_inf.f 23 255 2147483648 = some 2139095040 := by decide +kernel
theorem shape_inf2 : word_shape_inf.f 52 2047 9223372036854775808 = some 9218868437227405312 := by decide +kernel
theorem shape_none1 : word_shape_none.f 23 255 2147483648 = some 2143289344 := by decide +kernel
theorem shape_none2 : word_shape_none.f 52 2047 9223372036854775808 = some 9221120237041090560 := by decide +kernel
theorem shl23 : shl .u64 1 23 = 8388608 := by decide +kernel
theorem shl52 : shl .u64 1 52 = 4503599627370496 := by decide +kernel
theorem shape_class {f w : Int} (h : Gd f w) : word_shape_class.f (shp f).1 (shp f).2.1 (shp f).2.2 w = some (cl f w) := by
  rcases h with ⟨rfl, h0, h1⟩ | ⟨rfl, h0, h1⟩
  · have e1 : shp 1 = (23, 255, 2147483648) := rfl
    rw [e1]
    simp only [word_shape_class.f, andNot31 h0 h1, shape_inf1, Option.bind_some, shl23, cl, cls, one, infw, sgn, if_true]
    repeat' split
    all_goals first | rfl | (exfalso; omega)
  · have e1 : shp 2 = (52, 2047, 9223372036854775808) := rfl
    rw [e1]
    simp only [word_shape_class.f, andNot63 h0 h1, shape_inf2, Option.bind_some, shl52, cl, cls, one, infw, sgn]
    simp only [show (¬ ((2 : Int) = 1)) by decide, if_false]
    repeat' split
    all_goals first | rfl | (exfalso; omega)
theorem split_good (k : Nat) {f w : Int} (h : Gd f w) : word_Split.f (k + 2) f w = some (decide (w ≥ sgn f), w % sgn f / one f, w % one f, 0) := by
  unfold word_Split.f
  rw [open_one k f w h.u, h.err]
  rcases h with ⟨rfl, h0, h1⟩ | ⟨rfl, h0, h1⟩
  · have e1 : shp 1 = (23, 255, 2147483648) := rfl
    have e2 : IntKind.u64.wrap (8388608 - 1) = 8388607 := by decide +kernel
    have e3 : shr .u64 (w % 2147483648) 23 = w % 2147483648 / 8388608 := rfl
    rw [e1]
    simp only [Option.bind_some, if_true, word_shape_split.f, andNot31 h0 h1, and31 h0 h1, shl23, e2, e3, sgn, one]
    rw [and23 (by omega) (by omega)]
    have e4 : wrap64 (w % 2147483648 / 8388608) = w % 2147483648 / 8388608 := by unfold wrap64; omega
    have e5 : w % 2147483648 % 8388608 = w % 8388608 := by omega
    rw [e4, e5]
    by_cases c : w ≥ 2147483648 <;> simp [c]
  · have e1 : shp 2 = (52, 2047, 9223372036854775808) := rfl
    have e2 : IntKind.u64.wrap (4503599627370496 - 1) = 4503599627370495 := by decide +kernel
    have e3 : shr .u64 (w % 9223372036854775808) 52 = w % 9223372036854775808 / 4503599627370496 := rfl
    rw [e1]
    simp only [Option.bind_some, if_true, word_shape_split.f, andNot63 h0 h1, and63 h0 h1, shl52, e2, e3, sgn, one]
    rw [and52 (by omega) (by omega)]
    have e4 : wrap64 (w % 9223372036854775808 / 4503599627370496) = w % 9223372036854775808 / 4503599627370496 := by unfold wrap64; omega
    have e5 : w % 9223372036854775808 % 4503599627370496 = w % 4503599627370496 := by omega
    rw [e4, e5]
    by_cases c : w ≥ 9223372036854775808 <;> simp [c]
theorem class_good (k : Nat) {f w : Int} (h : Gd f w) : word_Class.f (k + 2) f w = some (cl f w, 0) := by
  unfold word_Class.f
  rw [open_one k f w h.u, h.err]
  simp only [Option.bind_some, if_true, shape_class h]
theorem class_bad (k : Nat) {f w : Int} (hu : U w) (h : err f w ≠ 0) : word_Class.f (k + 2) f w = some (0, err f w) := by
  unfold word_Class.f
  rw [open_one k f w hu]
  simp only [Option.bind_some]
  rw [if_neg h]
theorem ref_Is (f : Int) : cutplaneref03_Is.f f = some (decide (f = 1 ∨ f = 2)) := by
  unfold cutplaneref03_Is.f
  by_cases h1 : f = 1
  · simp [h1]
  · rw [if_neg h1]; by_cases h2 : f = 2 <;> simp [h1, h2]
theorem ref_Good (f w : Int) : cutplaneref03_Good.f f w = some (err f w) := by
  unfold cutplaneref03_Good.f err
  rw [ref_Is]
  by_cases h1 : f = 1
  · subst h1; simp
    split <;> rfl
  · by_cases h2 : f = 2 <;> simp [h1, h2]
theorem ref_Split (f : Int) {w : Int} (hu : U w) : cutplaneref03_Split.f f w = some (decide (w ≥ sgn f), w % sgn f / one f, w % one f) := by
  unfold cutplaneref03_Split.f sgn one
  unfold U at hu
  rw [if_pos hu]
  split <;> rfl
theorem ref_Most (f : Int) : cutplaneref03_Most.f f = some (if f = 1 then 255 else 2047) := by unfold cutplaneref03_Most.f; split <;> rfl
theorem ref_Class (k : Nat) (f : Int) {w : Int} (hu : U w) : cutplaneref03_Class.f (k + 1) f w = some (cl f w) := by
  obtain ⟨h0, h1⟩ := hu
  unfold cutplaneref03_Class.f
  rw [ref_Split f ⟨h0, h1⟩]
  simp only [Option.bind_some, cutplaneref03_Class.j0, ref_Most]
  unfold cl cls sgn one infw
  by_cases hf : f = 1
  · simp only [hf, if_true]
    by_cases a : w % 2147483648 / 8388608 = 0
    · rw [if_pos a]
      by_cases b : w % 8388608 = 0
      · rw [if_pos (by simp [b]), if_pos (by omega)]
      · rw [if_neg (by simp [b]), if_pos a, if_neg (by omega), if_pos (by omega)]
    · rw [if_neg a, if_neg (by decide), if_neg a]
      by_cases c : w % 2147483648 / 8388608 < 255
      · rw [if_pos c, if_neg (by omega), if_neg (by omega), if_pos (by omega)]
      · rw [if_neg c]
        by_cases d : w % 8388608 = 0
        · rw [if_pos d, if_neg (by omega), if_neg (by omega), if_neg (by omega), if_pos (by omega)]
        · rw [if_neg d, if_neg (by omega), if_neg (by omega), if_neg (by omega), if_neg (by omega)]
  · simp only [hf, if_false]
    by_cases a : w % 9223372036854775808 / 4503599627370496 = 0
    · rw [if_pos a]
      by_cases b : w % 4503599627370496 = 0
      · rw [if_pos (by simp [b]), if_pos (by omega)]
      · rw [if_neg (by simp [b]), if_pos a, if_neg (by omega), if_pos (by omega)]
    · rw [if_neg a, if_neg (by decide), if_neg a]
      by_cases c : w % 9223372036854775808 / 4503599627370496 < 2047
      · rw [if_pos c, if_neg (by omega), if_neg (by omega), if_pos (by omega)]
      · rw [if_neg c]
        by_cases d : w % 4503599627370496 = 0
        · rw [if_pos d, if_neg (by omega), if_neg (by omega), if_neg (by omega), if_pos (by omega)]
        · rw [if_neg d, if_neg (by omega), if_neg (by omega), if_neg (by omega), if_neg (by omega)]
theorem ref_Sign (f : Int) : cutplaneref03_Sign.f f = some (sgn f) := by unfold cutplaneref03_Sign.f sgn; split <;> rfl
theorem ref_Signed (f : Int) {w : Int} (hu : U w) (b : Bool) : cutplaneref03_Signed.f f w b = some (if b then w % sgn f + sgn f else w % sgn f) := by
  obtain ⟨h0, h1⟩ := hu
  unfold cutplaneref03_Signed.f
  rw [ref_Sign]
  simp only [Option.bind_some]
  have hs : sgn f = 2147483648 ∨ sgn f = 9223372036854775808 := by unfold sgn; split <;> simp
  have e : Int.tmod w (sgn f) = w % sgn f := Int.tmod_eq_emod_of_nonneg h0
  rw [if_neg (by omega), e, wrapu64]
  have e2 : (w % sgn f + sgn f) % 18446744073709551616 = w % sgn f + sgn f := by rcases hs with h | h <;> rw [h] <;> omega
  rw [e2]
  cases b <;> simp
def flipw (f w : Int) : Int := if w ≥ sgn f then w - sgn f else w + sgn f
def negw (f w : Int) : Int := if cl f w = 5 then nanw f else flipw f w
theorem shape_none {f w : Int} (h : Gd f w) : word_shape_none.f (shp f).1 (shp f).2.1 (shp f).2.2 = some (nanw f) := by
  rcases h with ⟨rfl, _, _⟩ | ⟨rfl, _, _⟩
  · exact shape_none1
  · exact shape_none2
theorem turned_good (k : Nat) {f w : Int} (h : Gd f w) {g : Int → Int → Int → Option Int} {z : Int} (hg : g (shp f).1 (shp f).2.1 (shp f).2.2 = some z) :
    word_turned.f (k + 2) f w g = some (if cl f w = 5 then nanw f else z, 0) := by
  unfold word_turned.f
  rw [open_one k f w h.u, h.err]
  simp only [Option.bind_some, if_true, shape_class h, shape_none h, hg]
  split <;> rfl
theorem shp3 {f w : Int} (h : Gd f w) : (shp f).2.2 = sgn f := by
  rcases h with ⟨rfl, _, _⟩ | ⟨rfl, _, _⟩ <;> rfl
theorem neg_good (k : Nat) {f w : Int} (h : Gd f w) : word_Neg.f (k + 2) f w = some (negw f w, 0) := by
  unfold word_Neg.f
  rw [turned_good k h (z := flipw f w) ?_]
  · rfl
  · unfold word_Neg_1.f flipw
    rw [shp3 h]
    rcases h with ⟨rfl, h0, h1⟩ | ⟨rfl, h0, h1⟩
    · exact congrArg some (xor31 h0 h1)
    · exact congrArg some (xor63 h0 h1)
end Go.Proofs.Ytlgapmhjaaajfaa.PA
end

section
namespace Go.Proofs.Ytlgapmhjaaajfaa.PA
open Go.RowKit Go.Proofs.YtlgapmhjaaajfaaW.PrintWords Go.Proofs.YtlgapmhjaaajfaaW.PrintLast Go.Proofs.YtlgapmhjaaajfaaW.PrintMore Go.Proofs.Ytlgapmhjaaajfaa.Wd
set_option linter.unusedSimpArgs false
set_option linter.unusedVariables false
def errz (f a b : Int) : Int := if err f a = 0 then err f b else err f a
def Gz (f a b : Int) : Prop := Gd f a ∧ Gd f b
theorem gz_of {f a b : Int} (h : errz f a b = 0) (ha : U a) (hb : U b) : Gz f a b := by
  unfold errz at h
  by_cases e : err f a = 0
  · rw [if_pos e] at h; exact ⟨gd_of e ha, gd_of h hb⟩
  · rw [if_neg e] at h; exact absurd h e
theorem Gz.err {f a b : Int} (h : Gz f a b) : errz f a b = 0 := by unfold errz; rw [h.1.err, h.2.err]; rfl
theorem err_val (f w : Int) : err f w = 0 ∨ err f w = 4 ∨ err f w = 6 := by
  unfold PA.err; repeat' split
  all_goals simp
theorem err_four (f w : Int) : err f w = 4 ↔ ¬ (f = 1 ∨ f = 2) := by
  unfold PA.err; repeat' split
  all_goals simp_all
theorem ref_Goodz (k : Nat) (f a b : Int) : cutplaneref10_Good.f (k + 2) f [⟨a, b⟩] = some (errz f a b) := by
  unfold cutplaneref10_Good.f errz
  rw [ref_Is]
  have l1 : (([⟨a, b⟩] : List S26).length : Int) = 1 := rfl
  have r0 : rd_T26 [⟨a, b⟩] 0 = ⟨a, b⟩ := rfl
  have w1 : wrap64 (0 + 1) = 1 := by decide +kernel
  by_cases hf : f = 1 ∨ f = 2
  · have ea := err_val f a
    have eb := err_val f b
    have fa : err f a ≠ 4 := fun c => (err_four f a).1 c hf
    have fb : err f b ≠ 4 := fun c => (err_four f b).1 c hf
    simp only [Option.bind_some, hf, decide_true, if_true, cutplaneref10_Good.l0, l1, r0, w1, ref_Good, Int.zero_lt_one, Int.le_refl]
    by_cases c : err f a = 0
    · rw [if_pos c, if_pos c]
      by_cases d : err f b = 0
      · rw [if_pos d, d]; rfl
      · rw [if_neg d]; congr 1; omega
    · rw [if_neg c, if_neg c]; congr 1; omega
  · have fa := (err_four f a).2 hf
    simp [hf, fa]
def zc (f a b : Int) : Int := if cl f a = 4 ∨ cl f b = 4 then 3 else if cl f a = 5 ∨ cl f b = 5 then 4 else if cl f a = 1 ∧ cl f b = 1 then 1 else 2
theorem classz_good (k : Nat) {f a b : Int} (h : Gz f a b) : pair_Class.f (k + 2) f a b = some (zc f a b, 0) := by
  unfold pair_Class.f zc
  rw [class_good k h.1, class_good k h.2]
  simp only [Option.bind_some, if_true, pair_Class.j0, pair_Class.j1]
  by_cases a4 : cl f a = 4 <;> by_cases b4 : cl f b = 4 <;> by_cases a5 : cl f a = 5 <;> by_cases b5 : cl f b = 5 <;> by_cases a1 : cl f a = 1 <;> by_cases b1 : cl f b = 1 <;> simp_all
theorem classz_bad (k : Nat) {f a b : Int} (ha : U a) (hb : U b) (h : errz f a b ≠ 0) : pair_Class.f (k + 2) f a b = some (0, errz f a b) := by
  unfold pair_Class.f
  unfold errz at h ⊢
  by_cases c : err f a = 0
  · rw [class_good k (gd_of c ha)]
    rw [if_pos c] at h ⊢
    simp only [Option.bind_some, if_true, class_bad k hb h]
    rw [if_neg h]
  · rw [class_bad k ha c]
    rw [if_neg c] at h ⊢
    simp only [Option.bind_some]
    rw [if_neg h]
theorem ref_Classz (k : Nat) (f : Int) {a b : Int} (ha : U a) (hb : U b) : cutplaneref10_Class.f (k + 2) f a b = some (zc f a b) := by
  unfold cutplaneref10_Class.f zc
  rw [ref_Class (k + 1) f ha, ref_Class (k + 1) f hb]
  simp only [Option.bind_some, cutplaneref10_Class.j0, cutplaneref10_Class.j1]
  by_cases a4 : cl f a = 4 <;> by_cases b4 : cl f b = 4 <;> by_cases a5 : cl f a = 5 <;> by_cases b5 : cl f b = 5 <;> by_cases a1 : cl f a = 1 <;> by_cases b1 : cl f b = 1 <;> simp_all
end Go.Proofs.Ytlgapmhjaaajfaa.PA
end

section
namespace Go.Proofs.Ytlgapmhjaaajfaa.PA
open Go.RowKit Go.Proofs.YtlgapmhjaaajfaaW.PrintWords Go.Proofs.YtlgapmhjaaajfaaW.PrintLast Go.Proofs.YtlgapmhjaaajfaaW.PrintMore Go.Proofs.Ytlgapmhjaaajfaa.Wd
set_option linter.unusedSimpArgs false
set_option linter.unusedVariables false
theorem up_ {α : Type} {g : Nat → Option α} (hm : ∀ k, LeO (g k) (g (k + 1))) {K : Nat} {r : α} (h : g K = some r) (k : Nat) : g (k + K) = some r := by
  induction k with
  | zero => rw [Nat.zero_add]; exact h
  | succ k ih => rw [show k + 1 + K = (k + K) + 1 by omega]; exact hm (k + K) r ih
def Md (m : Int) : Prop := 1 ≤ m ∧ m ≤ 5
instance (m : Int) : Decidable (Md m) := inferInstanceAs (Decidable (_ ∧ _))
theorem gd_fmt {f w : Int} (h : Gd f w) : f = 1 ∨ f = 2 := by rcases h with ⟨rfl, _⟩ | ⟨rfl, _⟩ <;> simp
def sd (f w : Int) (inf : Bool) : Int × Bool := if cl f w = 5 then (0, false) else if (if inf then cl f w = 4 else cl f w ≠ 1) then (if w ≥ sgn f then (-1, true) else (1, false)) else (0, decide (w ≥ sgn f))
theorem side_val (k : Nat) {f w : Int} (h : Gd f w) (inf : Bool) : special_sideOf.f (k + 3) f w inf = some (sd f w inf) := by
  unfold special_sideOf.f sd
  rw [class_good (k + 1) h, split_good (k + 1) h]
  simp only [Option.bind_some]
  cases inf <;> simp only [Bool.false_eq_true, if_false, if_true, special_sideOf.j0]
  · by_cases c5 : cl f w = 5 <;> by_cases c1 : cl f w = 1 <;> by_cases s : w ≥ sgn f <;> simp [c5, c1, s]
  · by_cases c5 : cl f w = 5 <;> by_cases c1 : cl f w = 4 <;> by_cases s : w ≥ sgn f <;> simp [c5, c1, s]
theorem box_val (k : Nat) {f a b : Int} (h : Gz f a b) (z : Int) : special_boxOf.f (k + 3) f a b z = some ((sd f a (z == 3)).1, (sd f a (z == 3)).2, (sd f b (z == 3)).1, (sd f b (z == 3)).2) := by
  unfold special_boxOf.f
  rw [side_val k h.1, side_val k h.2]; rfl
def onew (f : Int) : Int := if f = 1 then 1065353216 else 4607182418800017408
def wv (f size : Int) (s : Int × Bool) : Int := if s.2 then (if s.1 = 0 then 0 else size) + sgn f else (if s.1 = 0 then 0 else size)
theorem small_ok {f v : Int} (hf : f = 1 ∨ f = 2) (hv : v = 0 ∨ v = onew f ∨ v = infw f) : Gd f v ∧ cl f v ≠ 5 ∧ v < sgn f := by
  rcases hf with rfl | rfl
  · rcases hv with rfl | rfl | rfl
    · exact ⟨.inl ⟨rfl, by decide, by decide⟩, by decide, by decide⟩
    · exact ⟨.inl ⟨rfl, by decide, by decide⟩, by decide, by decide⟩
    · exact ⟨.inl ⟨rfl, by decide, by decide⟩, by decide, by decide⟩
  · rcases hv with rfl | rfl | rfl
    · exact ⟨.inr ⟨rfl, by decide, by decide⟩, by decide, by decide⟩
    · exact ⟨.inr ⟨rfl, by decide, by decide⟩, by decide, by decide⟩
    · exact ⟨.inr ⟨rfl, by decide, by decide⟩, by decide, by decide⟩
theorem part_val (k : Nat) {f size : Int} (hf : f = 1 ∨ f = 2) (hs : size = 0 ∨ size = onew f ∨ size = infw f) (n : Int) (g : Bool) : special_box_words.p (k + 2) f n g size = some (wv f size (n, g)) := by
  unfold special_box_words.p wv
  cases g
  · rfl
  · simp only [if_true]
    have hv : (if n = 0 then 0 else size) = 0 ∨ (if n = 0 then 0 else size) = onew f ∨ (if n = 0 then 0 else size) = infw f := by split; exact .inl rfl; exact hs
    generalize (if n = 0 then 0 else size) = v at hv ⊢
    obtain ⟨h1, h2, h3⟩ := small_ok hf hv
    rw [neg_good k h1]
    simp only [Option.bind_some]
    congr 1
    unfold negw flipw
    rw [if_neg h2, if_neg (by omega)]
theorem words_val (k : Nat) {f size : Int} (hf : f = 1 ∨ f = 2) (hs : size = 0 ∨ size = onew f ∨ size = infw f) (n0 : Int) (g0 : Bool) (n1 : Int) (g1 : Bool) : special_box_words.f (k + 2) n0 g0 n1 g1 f size = some (wv f size (n0, g0), wv f size (n1, g1)) := by
  unfold special_box_words.f
  rw [part_val k hf hs, part_val k hf hs]; rfl
theorem known11 (k : Nat) : cutplanelaw11_known.f (k + 24) = some true := up_ (g := fun k => cutplanelaw11_known.f k) (fun k => cutplanelaw11_known.mono k) (by decide +kernel) k
theorem ref_One {f : Int} (hf : f = 1 ∨ f = 2) (b : Bool) : cutplaneref11_One.f f b = some (if b then onew f + sgn f else onew f) := by
  rcases hf with rfl | rfl <;> cases b <;> decide +kernel
theorem ref_box (k : Nat) {f w : Int} (h : Gd f w) (big : Bool) (hb : cl f w = 5 → big = false) : cutplaneref11_box.f (k + 2) f w big = some (wv f (onew f) (if cl f w = 5 then (0, false) else if big then (if w ≥ sgn f then (-1, true) else (1, false)) else (0, decide (w ≥ sgn f)))) := by
  have hf := gd_fmt h
  have us : U (0 : Int) := ⟨by decide, by decide⟩
  unfold cutplaneref11_box.f
  rw [ref_Class (k + 1) f h.u]
  simp only [Option.bind_some]
  by_cases c5 : cl f w = 5
  · rw [if_pos c5, if_pos c5, hb c5]
    simp only [cutplaneref11_box.j0, Bool.false_eq_true, if_false, ref_Signed f us, Option.bind_some]
    simp [wv, Int.zero_emod]
  · rw [if_neg c5, if_neg c5, ref_Split f h.u]
    simp only [Option.bind_some, cutplaneref11_box.j0]
    cases big
    · simp only [Bool.false_eq_true, if_false, ref_Signed f us, Option.bind_some]
      by_cases s : w ≥ sgn f <;> simp [wv, s, Int.zero_emod]
    · simp only [if_true, ref_One hf, Option.bind_some]
      by_cases s : w ≥ sgn f <;> simp [wv, s]
/-- a number's direction -/
def bw (f a b : Int) : Int × Int := (wv f (onew f) (sd f a (zc f a b == 3)), wv f (onew f) (sd f b (zc f a b == 3)))
theorem sd_fin {f w : Int} : (if cl f w = 5 then ((0, false) : Int × Bool) else if (cl f w != 1) = true then (if w ≥ sgn f then (-1, true) else (1, false)) else (0, decide (w ≥ sgn f))) = sd f w false := by
  unfold sd
  by_cases c : cl f w = 1 <;> simp [c]
theorem sd_inf {f w : Int} : (if cl f w = 5 then ((0, false) : Int × Bool) else if (cl f w == 4) = true then (if w ≥ sgn f then (-1, true) else (1, false)) else (0, decide (w ≥ sgn f))) = sd f w true := by
  unfold sd
  by_cases c : cl f w = 4 <;> simp [c]
theorem zc_nan {f a b : Int} (h4 : zc f a b ≠ 4) (h3 : zc f a b ≠ 3) : cl f a ≠ 5 ∧ cl f b ≠ 5 := by
  unfold zc at h4 h3
  by_cases c4 : cl f a = 4 ∨ cl f b = 4
  · simp [c4] at h3
  · rw [if_neg c4] at h4
    by_cases c5 : cl f a = 5 ∨ cl f b = 5
    · simp [c5] at h4
    · exact ⟨fun h => c5 (.inl h), fun h => c5 (.inr h)⟩
theorem ref_Box (k : Nat) {f a b : Int} (h : Gz f a b) (h4 : zc f a b ≠ 4) : cutplaneref11_Box.f (k + 2) f a b = some (bw f a b) := by
  unfold cutplaneref11_Box.f bw
  rw [ref_Classz k f h.1.u h.2.u]
  simp only [Option.bind_some, ref_Class (k + 1) f h.1.u, ref_Class (k + 1) f h.2.u]
  by_cases h3 : zc f a b = 3
  · rw [if_pos h3, h3, ref_box k h.1 _ (fun c => by rw [c]; rfl), ref_box k h.2 _ (fun c => by rw [c]; rfl)]
    simp only [Option.bind_some, sd_inf]
    rfl
  · rw [if_neg h3]
    obtain ⟨n1, n2⟩ := zc_nan h4 h3
    rw [ref_box k h.1 _ (fun c => absurd c n1), ref_box k h.2 _ (fun c => absurd c n2)]
    simp only [Option.bind_some, sd_fin, show (zc f a b == 3) = false from beq_eq_false_iff_ne.mpr h3]
theorem of_one (k : Nat) {f : Int} (hf : f = 1 ∨ f = 2) : word_Of.f (k + 12) f false ([1] : List Int) 0 = some (onew f, 0) := by
  rcases hf with rfl | rfl
  · exact up_ (g := fun k => word_Of.f k 1 false [1] 0) (fun k => word_Of.mono _ _ _ _ k) (by decide +kernel) k
  · exact up_ (g := fun k => word_Of.f k 2 false [1] 0) (fun k => word_Of.mono _ _ _ _ k) (by decide +kernel) k
theorem zbox_good (k : Nat) {f a b : Int} (h : Gz f a b) (h4 : zc f a b ≠ 4) : special_Box.f (k + 12) f a b = some ((bw f a b).1, (bw f a b).2, 0) := by
  have hf := gd_fmt h.1
  unfold special_Box.f bw
  rw [classz_good _ h]
  simp only [Option.bind_some, if_true, if_neg h4, of_one k hf, box_val _ h, words_val _ hf (.inr (.inl rfl))]
theorem zbox_none (k : Nat) {f a b : Int} (h : Gz f a b) (h4 : zc f a b = 4) : special_Box.f (k + 2) f a b = some (0, 0, 7) := by
  unfold special_Box.f
  rw [classz_good _ h, h4]; rfl
theorem zbox_bad (k : Nat) {f a b : Int} (ha : U a) (hb : U b) (h : errz f a b ≠ 0) : special_Box.f (k + 2) f a b = some (0, 0, errz f a b) := by
  unfold special_Box.f
  rw [classz_bad _ ha hb h]
  simp only [Option.bind_some, if_neg h]
end Go.Proofs.Ytlgapmhjaaajfaa.PA
end

section
namespace Go.Proofs.Ytlgapmhjaaajfaa.Pure
open Go.RowKit Go.Proofs.Ytlgapmhjaaajfaa.PA Go.Proofs.YtlgapmhjaaajfaaW.PrintWords Go.Proofs.YtlgapmhjaaajfaaW.PrintLast Go.Proofs.YtlgapmhjaaajfaaW.PrintMore Go.Proofs.Ytlgapmhjaaajfaa.Wd
set_option linter.unusedSimpArgs false
set_option linter.unusedVariables false
theorem SpecialBoxes : cutplanelaw11_SpecialBoxes.Pure := by
  intro f a b _ ha hb
  have ua := u_of ha
  have ub := u_of hb
  refine ⟨30, ?_⟩
  unfold cutplanelaw11_SpecialBoxes.f
  by_cases e : errz f a b = 0
  · have h := gz_of e ua ub
    by_cases h4 : zc f a b = 4
    · rw [zbox_none 28 h h4]
      simp [ref_Goodz 28 f a b, e, ref_Classz 28 f ua ub, h4, known11 6]
    · rw [zbox_good 18 h h4]
      simp [ref_Goodz 28 f a b, e, ref_Classz 28 f ua ub, h4, known11 6, ref_Box 28 h h4]
  · rw [zbox_bad 28 ua ub e]
    simp [ref_Goodz 28 f a b, e, known11 6]
end Go.Proofs.Ytlgapmhjaaajfaa.Pure
end
