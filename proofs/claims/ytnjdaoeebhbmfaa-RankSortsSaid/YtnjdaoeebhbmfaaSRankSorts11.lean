/- Steps of Go functions that the law RankSorts uses, told as plain Lean functions, each with the proof that its call comes to what it tells; words on memory; plain facts. No condition beyond those that each text names. -/
import Derived.Test.YtnjdaoeebhbmfaaProg
import Derived.Below
import Derived.Deep.Draws
import Derived.Deep.AppendLies
import Derived.Maps.AppendAt
import Derived.OwnWalk
import Derived.Laws.BytesArg
import Derived.Laws.MakeOwn
import Derived.Laws.OwnMore
import Derived.Deep.OwnRows
import Derived.Tactics
import Derived.Lib.ConvBytes
import Derived.Laws.Slices
import Derived.WalkKit
import Derived.KernelRfl
import Derived.RowKit3
import Derived.Deep.LoopGhost
import Derived.Deep.QuietTactic
import Derived.BigQuiet
import Derived.WideLaws
import Derived.Deep.DeepCutAuto
import Derived.Deep.CutBlock
import Derived.Deep.RegionHeld3
import Derived.Laws.Rows
import Derived.Lib.AppendStr
import Derived.ArgAppend
import Derived.Laws.IdiomCopy
import Derived.OrdersHeld
import Derived.Laws.BitsLemmas
import Derived.RowKit
import Derived.Laws.StructEq
import Derived.Test.YtnjdaoeebhbmfaaSRankSorts0
import Derived.Test.YtnjdaoeebhbmfaaSRankSorts1
import Derived.Test.YtnjdaoeebhbmfaaSRankSorts3
import Derived.Test.YtnjdaoeebhbmfaaSRankSorts6
import Derived.Test.YtnjdaoeebhbmfaaSRankSorts7
import Derived.Test.YtnjdaoeebhbmfaaSRankSorts8
import Derived.Test.YtnjdaoeebhbmfaaSRankSorts9
import Derived.Test.YtnjdaoeebhbmfaaSRankSorts10
section
namespace Go.Proofs.Ytnjdaoeebhbmfaa.PA
open Go.RowKit Go.Proofs.YtnjdaoeebhbmfaaW.PrintWords Go.Proofs.YtnjdaoeebhbmfaaW.PrintLast Go.Proofs.YtnjdaoeebhbmfaaW.PrintMore
attribute [local go_sem] max2_int min2_int max_two min_two max_three min_three max_four min_four   -- for this text's walks alone
set_option linter.unusedVariables false
set_option linter.unusedSimpArgs false
def cutplaneref02_Neg.f (a0_0 : Bool) (l0_1 : List Int) (a0_2 : Int) : Option (Bool × List Int × Int) := if (l0_1.length : Int) > 0 then (some (!a0_0, l0_1, a0_2)) else (some (a0_0, l0_1, a0_2))
set_option maxHeartbeats 2000000 in
set_option maxRecDepth 100000 in
theorem cutplaneref02_Neg.calls (a0_0 : Bool) (P0_1_ : Nat → Prop) (u9000_ : Value) (l0_1 : List Int) (a0_2 : Int) (r1 : Bool) (r2 : List Int) (r3 : Int) (w0 w : World) (hB : Below w0.heap.size w0 w) (ho0_1 : Kd.R (Kd.int .u32) 103 w w0.heap.size P0_1_ u9000_ l0_1) (h : cutplaneref02_Neg.f a0_0 l0_1 a0_2 = some (r1, r2, r3)) :
  Calls Try.prog 81 #[.agg #[.bool a0_0, u9000_, .int .i64 a0_2]] w fun e w' => ∃ v1_ : Value, e = .returned (.agg #[.bool r1, v1_, .int .i64 r3]) ∧ Kd.R (Kd.int .u32) 103 w' w0.heap.size (fun k_ => (P0_1_ k_ ∨ w.heap.size ≤ k_)) v1_ r2 ∧ Below w0.heap.size w0 w' ∧ Kept w w' (fun k_ => P0_1_ k_) := by
 have hu64 := Try.underlying64
 have HO0_1 := A0_ (show Kd.R (Kd.int .u32) 103 w w0.heap.size (fun k_ => (P0_1_ k_ ∨ w.heap.size ≤ k_)) u9000_ l0_1 from Kd.R_mono ho0_1 (fun k_ hk => (.inl hk)))
 have HK := A0_ (Kept.refl w (fun k_ => P0_1_ k_))
 have HW0 := A0_ hB.size
 have HB := A0_ hB
 clear hB
 have H : (if (l0_1.length : Int) > 0 then (some (!a0_0, l0_1, a0_2)) else (some (a0_0, l0_1, a0_2))) = some (r1, r2, r3) := h
 clear h
 by_cases c2 : (l0_1.length : Int) > 0
 ·rw [if_pos c2] at H
  have c2b0 : decide (0 < (l0_1.length : Int)) = true := decide_eq_true c2
  have c2b1 : decide (0 < l0_1.length) = true := decide_eq_true (by omega)
  clear c2
  simp only [Option.some.injEq, Prod.mk.injEq] at H
  obtain ⟨rfl, rfl, rfl⟩ := H
  obtain ⟨Ao3, co3, eo3⟩ := Kd.R_slice HO0_1.out
  subst eo3
  go_enter Try.func81, Try.ntmps81
  go_wp2_with (first | ((with_reducible refine gate_dst (N := 1) rfl ?_); refine box_event ?hg (N := 1) ?hd (cs := #[.bool a0_0, .slice Ao3 l0_1.length co3, .int .i64 a0_2]) (t := 64) ?hr ?_; (case hd => rfl); (case hg => rfl); (case hr => first | (go_simp; done) | (go_simp; rfl)); intro gb337 hg w4 hbox hb; have n0_ := A0_ (Kd.R_below (by exact rm_ HO0_1.out) hb); have n1_ := A0_ (Kept.below (S := (fun k_ => P0_1_ k_)) (by repeat (first | (with_reducible first | exact HK.out | apply Kept.alloc | apply Kept.drewN | apply Kept.drew) | exact HK.out)) hb); have n2_ := A0_ (below_step (qm_ HB.out) hb); have n3_ := A0_ (hbox); have n4_ := A0_ ((by rw [hg]; exact (by first | exact HK.out.1 | exact (show Kept w _ (fun k_ => P0_1_ k_) from by repeat (first | (with_reducible first | exact HK.out | apply Kept.alloc | apply Kept.drewN | apply Kept.drew) | exact HK.out)).1) : w.heap.size ≤ gb337)); have n5_ := A0_ ((by rw [hg]; exact (below_size (qm_ HB.out)) : w0.heap.size ≤ gb337)); clear HO0_1 HK HB; have HO0_1 := n0_; have HK := n1_; have HB := n2_; have BK337 := n3_; have GW337 := n4_; have GE337 := n5_; clear n0_ n1_ n2_ n3_ n4_ n5_ hb hbox hg) | ((with_reducible refine gate_dst (N := 2) rfl ?_); refine box_event ?hg (N := 2) ?hd (cs := #[.bool false, .slice none 0 0, .int .i64 0]) (t := 64) ?hr ?_; (case hd => rfl); (case hg => rfl); (case hr => first | (go_simp; done) | (go_simp; rfl)); intro gb338 hg w5 hbox hb; have n0_ := A0_ (Kd.R_below (by exact rm_ HO0_1.out) hb); have n1_ := A0_ (blk_below (bm_ BK337.out) hb); have n2_ := A0_ (Kept.below (S := (fun k_ => P0_1_ k_)) (by repeat (first | (with_reducible first | exact HK.out | apply Kept.alloc | apply Kept.drewN | apply Kept.drew | refine Kept.setCell ?_ (.inr GW337.out) _) | exact HK.out)) hb); have n3_ := A0_ (below_step (by repeat (first | (with_reducible first | exact qm_ HB.out | apply qA_ | apply qN_ | apply qD_ | refine below_set ?_ GE337.out) | exact HB.out)) hb); have n4_ := A0_ (hbox); have n5_ := A0_ ((by rw [hg]; exact (by first | exact HK.out.1 | exact (show Kept w _ (fun k_ => P0_1_ k_) from by repeat (first | (with_reducible first | exact HK.out | apply Kept.alloc | apply Kept.drewN | apply Kept.drew | refine Kept.setCell ?_ (.inr GW337.out) _) | exact HK.out)).1) : w.heap.size ≤ gb338)); have n6_ := A0_ ((by rw [hg]; exact (below_size (by repeat (first | (with_reducible first | exact qm_ HB.out | apply qA_ | apply qN_ | apply qD_ | refine below_set ?_ GE337.out) | exact HB.out))) : w0.heap.size ≤ gb338)); have n7_ := A0_ ((by rw [hg]; exact Nat.ne_of_lt (blk_lt (bm_ BK337.out)) : gb337 ≠ gb338)); have n8_ := A0_ ((by rw [hg]; exact Nat.ne_of_gt (blk_lt (bm_ BK337.out)) : gb338 ≠ gb337)); clear HO0_1 BK337 HK HB; have HO0_1 := n0_; have BK337 := n1_; have HK := n2_; have HB := n3_; have BK338 := n4_; have GW338 := n5_; have GE338 := n6_; have NB337_338 := n7_; have NB338_337 := n8_; clear n0_ n1_ n2_ n3_ n4_ n5_ n6_ n7_ n8_ hb hbox hg; have hnb6 := NB337_338.out; have hnc6 := NB338_337.out; have hcz7 := bc3_ BK337.out; have hfz7 := bf3_ BK337.out; have hcz8 := bc3_ BK338.out; have hfz8 := bf3_ BK338.out))
  refine bodyPost_ret (results_cell_row rfl _ _ gb338 64 #[.bool (!a0_0), .slice Ao3 l0_1.length co3, .int .i64 a0_2] (0, 0) _ rfl (by (with_reducible repeat first | apply bN_ | apply bD_ | apply bA_); refine blk_put (cs := #[.bool (!a0_0), .slice Ao3 l0_1.length co3, .int .i64 0]) ?_ 2 _ rfl; (with_reducible repeat first | apply bN_ | apply bD_ | apply bA_); refine blk_put (cs := #[.bool (!a0_0), .slice none 0 0, .int .i64 0]) ?_ 1 _ rfl; (with_reducible repeat first | apply bN_ | apply bD_ | apply bA_); refine blk_put (cs := #[.bool false, .slice none 0 0, .int .i64 0]) ?_ 0 _ rfl; (with_reducible repeat first | apply bN_ | apply bD_ | apply bA_); refine blk_far ?_ NB338_337.out _; (with_reducible repeat first | apply bN_ | apply bD_ | apply bA_); exact BK338.out) Try.underlying64 rfl (by kernel_rfl)) rfl ?_
  exact ⟨_, by first | rfl | (simp [errW_none, errW_some] <;> rfl) | (simp [*, errW_none, errW_some] <;> rfl), by (with_reducible repeat (first | apply Kd.R_alloc | apply Kd.R_drewN | apply Kd.R_drew)); exact Kd.R_mono (Kd.R_far (p := ⟨gb338, 2, none⟩) (Kd.R_far (p := ⟨gb338, 1, none⟩) (Kd.R_far (p := ⟨gb338, 0, none⟩) (Kd.R_far (p := ⟨gb337, 0, none⟩) (Kd.R_types (Kd.R_types HO0_1.out BK337.out (by decide)) BK338.out (by decide)) (fun _ hk => hk.1.2) (.bool (!a0_0))) (fun _ hk => hk.2) (.bool (!a0_0))) (fun _ hk => hk.2) (.slice Ao3 l0_1.length co3)) (fun _ hk => hk.2) (.int .i64 a0_2)) (fun _ hk => hk.1.1), by repeat (first | (with_reducible first | exact qm_ HB.out | apply qA_ | apply qN_ | apply qD_ | refine below_set ?_ GE337.out | refine below_set ?_ GE338.out) | exact HB.out), by repeat (first | (with_reducible first | exact HK.out | apply Kept.alloc | apply Kept.drewN | apply Kept.drew | refine Kept.setCell ?_ (.inr GW337.out) _ | refine Kept.setCell ?_ (.inr GW338.out) _) | exact HK.out)⟩
 ·rw [if_neg c2] at H
  have c2b0 : decide (0 < (l0_1.length : Int)) = false := decide_eq_false c2
  have c2b1 : decide (0 < l0_1.length) = false := decide_eq_false (by omega)
  clear c2
  simp only [Option.some.injEq, Prod.mk.injEq] at H
  obtain ⟨rfl, rfl, rfl⟩ := H
  obtain ⟨Ao9, co9, eo9⟩ := Kd.R_slice HO0_1.out
  subst eo9
  go_enter Try.func81, Try.ntmps81
  go_wp2_with (first | ((with_reducible refine gate_dst (N := 1) rfl ?_); refine box_event ?hg (N := 1) ?hd (cs := #[.bool a0_0, .slice Ao9 l0_1.length co9, .int .i64 a0_2]) (t := 64) ?hr ?_; (case hd => rfl); (case hg => rfl); (case hr => first | (go_simp; done) | (go_simp; rfl)); intro gb337 hg w10 hbox hb; have n0_ := A0_ (Kd.R_below (by exact rm_ HO0_1.out) hb); have n1_ := A0_ (Kept.below (S := (fun k_ => P0_1_ k_)) (by repeat (first | (with_reducible first | exact HK.out | apply Kept.alloc | apply Kept.drewN | apply Kept.drew) | exact HK.out)) hb); have n2_ := A0_ (below_step (qm_ HB.out) hb); have n3_ := A0_ (hbox); have n4_ := A0_ ((by rw [hg]; exact (by first | exact HK.out.1 | exact (show Kept w _ (fun k_ => P0_1_ k_) from by repeat (first | (with_reducible first | exact HK.out | apply Kept.alloc | apply Kept.drewN | apply Kept.drew) | exact HK.out)).1) : w.heap.size ≤ gb337)); have n5_ := A0_ ((by rw [hg]; exact (below_size (qm_ HB.out)) : w0.heap.size ≤ gb337)); clear HO0_1 HK HB; have HO0_1 := n0_; have HK := n1_; have HB := n2_; have BK337 := n3_; have GW337 := n4_; have GE337 := n5_; clear n0_ n1_ n2_ n3_ n4_ n5_ hb hbox hg) | ((with_reducible refine gate_dst (N := 2) rfl ?_); refine box_event ?hg (N := 2) ?hd (cs := #[.bool false, .slice none 0 0, .int .i64 0]) (t := 64) ?hr ?_; (case hd => rfl); (case hg => rfl); (case hr => first | (go_simp; done) | (go_simp; rfl)); intro gb338 hg w11 hbox hb; have n0_ := A0_ (Kd.R_below (by exact rm_ HO0_1.out) hb); have n1_ := A0_ (blk_below (bm_ BK337.out) hb); have n2_ := A0_ (Kept.below (S := (fun k_ => P0_1_ k_)) (by repeat (first | (with_reducible first | exact HK.out | apply Kept.alloc | apply Kept.drewN | apply Kept.drew | refine Kept.setCell ?_ (.inr GW337.out) _) | exact HK.out)) hb); have n3_ := A0_ (below_step (by repeat (first | (with_reducible first | exact qm_ HB.out | apply qA_ | apply qN_ | apply qD_ | refine below_set ?_ GE337.out) | exact HB.out)) hb); have n4_ := A0_ (hbox); have n5_ := A0_ ((by rw [hg]; exact (by first | exact HK.out.1 | exact (show Kept w _ (fun k_ => P0_1_ k_) from by repeat (first | (with_reducible first | exact HK.out | apply Kept.alloc | apply Kept.drewN | apply Kept.drew | refine Kept.setCell ?_ (.inr GW337.out) _) | exact HK.out)).1) : w.heap.size ≤ gb338)); have n6_ := A0_ ((by rw [hg]; exact (below_size (by repeat (first | (with_reducible first | exact qm_ HB.out | apply qA_ | apply qN_ | apply qD_ | refine below_set ?_ GE337.out) | exact HB.out))) : w0.heap.size ≤ gb338)); have n7_ := A0_ ((by rw [hg]; exact Nat.ne_of_lt (blk_lt (bm_ BK337.out)) : gb337 ≠ gb338)); have n8_ := A0_ ((by rw [hg]; exact Nat.ne_of_gt (blk_lt (bm_ BK337.out)) : gb338 ≠ gb337)); clear HO0_1 BK337 HK HB; have HO0_1 := n0_; have BK337 := n1_; have HK := n2_; have HB := n3_; have BK338 := n4_; have GW338 := n5_; have GE338 := n6_; have NB337_338 := n7_; have NB338_337 := n8_; clear n0_ n1_ n2_ n3_ n4_ n5_ n6_ n7_ n8_ hb hbox hg; have hnb12 := NB337_338.out; have hnc12 := NB338_337.out; have hcz13 := bc3_ BK337.out; have hfz13 := bf3_ BK337.out; have hcz14 := bc3_ BK338.out; have hfz14 := bf3_ BK338.out))
  refine bodyPost_ret (results_cell_row rfl _ _ gb338 64 #[.bool a0_0, .slice Ao9 l0_1.length co9, .int .i64 a0_2] (0, 0) _ rfl (by (with_reducible repeat first | apply bN_ | apply bD_ | apply bA_); refine blk_put (cs := #[.bool a0_0, .slice Ao9 l0_1.length co9, .int .i64 0]) ?_ 2 _ rfl; (with_reducible repeat first | apply bN_ | apply bD_ | apply bA_); refine blk_put (cs := #[.bool a0_0, .slice none 0 0, .int .i64 0]) ?_ 1 _ rfl; (with_reducible repeat first | apply bN_ | apply bD_ | apply bA_); refine blk_put (cs := #[.bool false, .slice none 0 0, .int .i64 0]) ?_ 0 _ rfl; (with_reducible repeat first | apply bN_ | apply bD_ | apply bA_); exact BK338.out) Try.underlying64 rfl (by kernel_rfl)) rfl ?_
  exact ⟨_, by first | rfl | (simp [errW_none, errW_some] <;> rfl) | (simp [*, errW_none, errW_some] <;> rfl), by (with_reducible repeat (first | apply Kd.R_alloc | apply Kd.R_drewN | apply Kd.R_drew)); exact Kd.R_mono (Kd.R_far (p := ⟨gb338, 2, none⟩) (Kd.R_far (p := ⟨gb338, 1, none⟩) (Kd.R_far (p := ⟨gb338, 0, none⟩) (Kd.R_types HO0_1.out BK338.out (by decide)) (fun _ hk => hk.2) (.bool a0_0)) (fun _ hk => hk.2) (.slice Ao9 l0_1.length co9)) (fun _ hk => hk.2) (.int .i64 a0_2)) (fun _ hk => hk.1), by repeat (first | (with_reducible first | exact qm_ HB.out | apply qA_ | apply qN_ | apply qD_ | refine below_set ?_ GE337.out | refine below_set ?_ GE338.out) | exact HB.out), by repeat (first | (with_reducible first | exact HK.out | apply Kept.alloc | apply Kept.drewN | apply Kept.drew | refine Kept.setCell ?_ (.inr GW337.out) _ | refine Kept.setCell ?_ (.inr GW338.out) _) | exact HK.out)⟩
def cutplaneref02_Sub.f (k : Nat) (a0_0 : Bool) (l0_1 : List Int) (a0_2 : Int) (a1_0 : Bool) (l1_1 : List Int) (a1_2 : Int) : Option (Bool × List Int × Int) := (cutplaneref02_Neg.f a1_0 l1_1 a1_2).bind fun bt342 => ((cutplaneref02_Add.f k a0_0 l0_1 a0_2 bt342.1 bt342.2.1 bt342.2.2).bind fun bt347 => (some (bt347.1, bt347.2.1, bt347.2.2)))
theorem cutplaneref02_Sub.mono : ∀ a0 a1 a2 a3 a4 a5 k, LeO (cutplaneref02_Sub.f k a0 a1 a2 a3 a4 a5) (cutplaneref02_Sub.f (k + 1) a0 a1 a2 a3 a4 a5) := by
 intro a0 a1 a2 a3 a4 a5 k
 unfold cutplaneref02_Sub.f
 repeat' first
   | (with_reducible exact cutplaneref02_Add.mono _ _ _ _ _ _ _)
   | (with_reducible exact LeO.refl _)
   | (with_reducible exact LeO.none _)
   | (with_reducible refine LeO.ite ?_ ?_)
   | (with_reducible refine LeO.bind ?_ (fun _ => ?_))
   | exact cutplaneref02_Add.mono _ _ _ _ _ _ _
   | exact LeO.none _
   | refine LeO.ite ?_ ?_
   | refine LeO.bind ?_ (fun _ => ?_)
set_option maxHeartbeats 2000000 in
set_option maxRecDepth 100000 in
theorem cutplaneref02_Sub.calls (k : Nat) (a0_0 : Bool) (P0_1_ : Nat → Prop) (u9000_ : Value) (l0_1 : List Int) (a0_2 : Int) (a1_0 : Bool) (P1_1_ : Nat → Prop) (u9001_ : Value) (l1_1 : List Int) (a1_2 : Int) (r1 : Bool) (r2 : List Int) (r3 : Int) (w0 w : World) (hB : Below w0.heap.size w0 w) (ho0_1 : Kd.R (Kd.int .u32) 103 w w0.heap.size P0_1_ u9000_ l0_1) (hp0_1_1_1 : ∀ k_, P0_1_ k_ → ¬ P1_1_ k_) (ho1_1 : Kd.R (Kd.int .u32) 103 w w0.heap.size P1_1_ u9001_ l1_1) (hp1_1_0_1 : ∀ k_, P1_1_ k_ → ¬ P0_1_ k_) (h : cutplaneref02_Sub.f k a0_0 l0_1 a0_2 a1_0 l1_1 a1_2 = some (r1, r2, r3)) :
  Calls Try.prog 62 #[.agg #[.bool a0_0, u9000_, .int .i64 a0_2], .agg #[.bool a1_0, u9001_, .int .i64 a1_2]] w fun e w' => ∃ v1_ : Value, e = .returned (.agg #[.bool r1, v1_, .int .i64 r3]) ∧ Kd.R (Kd.int .u32) 103 w' w0.heap.size (fun k_ => ((P0_1_ k_ ∨ P1_1_ k_) ∨ w.heap.size ≤ k_)) v1_ r2 ∧ Below w0.heap.size w0 w' ∧ Kept w w' (fun k_ => P0_1_ k_ ∨ P1_1_ k_) := by
 have hu64 := Try.underlying64
 have HO0_1 := A0_ (show Kd.R (Kd.int .u32) 103 w w0.heap.size (fun k_ => ((P0_1_ k_ ∨ P1_1_ k_) ∨ w.heap.size ≤ k_) ∧ some k_ ≠ (u9001_ : Value).ownBlock) u9000_ l0_1 from Kd.R_mono ho0_1 (fun k_ hk => ⟨(.inl (.inl hk)), fun e_ => hp0_1_1_1 k_ hk (ho1_1.1 k_ e_.symm)⟩))
 have HO1_1 := A0_ (show Kd.R (Kd.int .u32) 103 w w0.heap.size (fun k_ => ((P0_1_ k_ ∨ P1_1_ k_) ∨ w.heap.size ≤ k_) ∧ some k_ ≠ (u9000_ : Value).ownBlock) u9001_ l1_1 from Kd.R_mono ho1_1 (fun k_ hk => ⟨(.inl (.inr hk)), fun e_ => hp1_1_0_1 k_ hk (ho0_1.1 k_ e_.symm)⟩))
 have HK := A0_ (Kept.refl w (fun k_ => P0_1_ k_ ∨ P1_1_ k_))
 have HW0 := A0_ hB.size
 have HB := A0_ hB
 clear hB
 have H : ((cutplaneref02_Neg.f a1_0 l1_1 a1_2).bind fun bt342 => ((cutplaneref02_Add.f k a0_0 l0_1 a0_2 bt342.1 bt342.2.1 bt342.2.2).bind fun bt347 => (some (bt347.1, bt347.2.1, bt347.2.2)))) = some (r1, r2, r3) := h
 clear h
 replace H := Option.bind_eq_some_iff.mp H
 obtain ⟨⟨t342, t343, t346⟩, A30, H⟩ := H
 replace H : ((cutplaneref02_Add.f k a0_0 l0_1 a0_2 t342 t343 t346).bind fun bt347 => (some (bt347.1, bt347.2.1, bt347.2.2))) = some (r1, r2, r3) := H
 have A3 := A0_ A30
 clear A30
 replace H := Option.bind_eq_some_iff.mp H
 obtain ⟨⟨t347, t348, t351⟩, A40, H⟩ := H
 replace H : (some (t347, t348, t351)) = some (r1, r2, r3) := H
 have A4 := A0_ A40
 clear A40
 simp only [Option.some.injEq, Prod.mk.injEq] at H
 obtain ⟨rfl, rfl, rfl⟩ := H
 obtain ⟨Ao5, co5, eo5⟩ := Kd.R_slice HO0_1.out
 subst eo5
 go_enter Try.func62, Try.ntmps62
 try go_wp2_with (first | ((with_reducible refine gate_dst (N := 2) rfl ?_); refine box_event ?hg (N := 2) ?hd (cs := #[.bool a0_0, .slice Ao5 l0_1.length co5, .int .i64 a0_2]) (t := 64) ?hr ?_; (case hd => rfl); (case hg => rfl); (case hr => first | (go_simp; done) | (go_simp; rfl)); intro gb339 hg w6 hbox hb; have n0_ := A0_ (Kd.R_below (by exact rm_ HO0_1.out) hb); have n1_ := A0_ (Kd.R_below (by exact rm_ HO1_1.out) hb); have n2_ := A0_ (Kept.below (S := (fun k_ => P0_1_ k_ ∨ P1_1_ k_)) (by repeat (first | (with_reducible first | exact HK.out | apply Kept.alloc | apply Kept.drewN | apply Kept.drew) | exact HK.out)) hb); have n3_ := A0_ (below_step (qm_ HB.out) hb); have n4_ := A0_ (hbox); have n5_ := A0_ ((by rw [hg]; exact (by first | exact HK.out.1 | exact (show Kept w _ (fun k_ => P0_1_ k_ ∨ P1_1_ k_) from by repeat (first | (with_reducible first | exact HK.out | apply Kept.alloc | apply Kept.drewN | apply Kept.drew) | exact HK.out)).1) : w.heap.size ≤ gb339)); have n6_ := A0_ ((by rw [hg]; exact (below_size (qm_ HB.out)) : w0.heap.size ≤ gb339)); clear HO0_1 HO1_1 HK HB; have HO0_1 := n0_; have HO1_1 := n1_; have HK := n2_; have HB := n3_; have BK339 := n4_; have GW339 := n5_; have GE339 := n6_; clear n0_ n1_ n2_ n3_ n4_ n5_ n6_ hb hbox hg; obtain ⟨Ao7, co7, eo7⟩ := Kd.R_slice HO1_1.out; subst eo7) | ((with_reducible refine gate_dst (N := 3) rfl ?_); refine box_event ?hg (N := 3) ?hd (cs := #[.bool a1_0, .slice Ao7 l1_1.length co7, .int .i64 a1_2]) (t := 64) ?hr ?_; (case hd => rfl); (case hg => rfl); (case hr => first | (go_simp; done) | (go_simp; rfl)); intro gb340 hg w8 hbox hb; have n0_ := A0_ (Kd.R_below (by exact rm_ HO0_1.out) hb); have n1_ := A0_ (Kd.R_below (by exact rm_ HO1_1.out) hb); have n2_ := A0_ (blk_below (bm_ BK339.out) hb); have n3_ := A0_ (Kept.below (S := (fun k_ => P0_1_ k_ ∨ P1_1_ k_)) (by repeat (first | (with_reducible first | exact HK.out | apply Kept.alloc | apply Kept.drewN | apply Kept.drew | refine Kept.setCell ?_ (.inr GW339.out) _) | exact HK.out)) hb); have n4_ := A0_ (below_step (by repeat (first | (with_reducible first | exact qm_ HB.out | apply qA_ | apply qN_ | apply qD_ | refine below_set ?_ GE339.out) | exact HB.out)) hb); have n5_ := A0_ (hbox); have n6_ := A0_ ((by rw [hg]; exact (by first | exact HK.out.1 | exact (show Kept w _ (fun k_ => P0_1_ k_ ∨ P1_1_ k_) from by repeat (first | (with_reducible first | exact HK.out | apply Kept.alloc | apply Kept.drewN | apply Kept.drew | refine Kept.setCell ?_ (.inr GW339.out) _) | exact HK.out)).1) : w.heap.size ≤ gb340)); have n7_ := A0_ ((by rw [hg]; exact (below_size (by repeat (first | (with_reducible first | exact qm_ HB.out | apply qA_ | apply qN_ | apply qD_ | refine below_set ?_ GE339.out) | exact HB.out))) : w0.heap.size ≤ gb340)); have n8_ := A0_ ((by rw [hg]; exact Nat.ne_of_lt (blk_lt (bm_ BK339.out)) : gb339 ≠ gb340)); have n9_ := A0_ ((by rw [hg]; exact Nat.ne_of_gt (blk_lt (bm_ BK339.out)) : gb340 ≠ gb339)); clear HO0_1 HO1_1 BK339 HK HB; have HO0_1 := n0_; have HO1_1 := n1_; have BK339 := n2_; have HK := n3_; have HB := n4_; have BK340 := n5_; have GW340 := n6_; have GE340 := n7_; have NB339_340 := n8_; have NB340_339 := n9_; clear n0_ n1_ n2_ n3_ n4_ n5_ n6_ n7_ n8_ n9_ hb hbox hg) | ((with_reducible refine gate_dst (N := 4) rfl ?_); refine box_event ?hg (N := 4) ?hd (cs := #[.bool false, .slice none 0 0, .int .i64 0]) (t := 64) ?hr ?_; (case hd => rfl); (case hg => rfl); (case hr => first | (go_simp; done) | (go_simp; rfl)); intro gb341 hg w9 hbox hb; have n0_ := A0_ (Kd.R_below (by exact rm_ HO0_1.out) hb); have n1_ := A0_ (Kd.R_below (by exact rm_ HO1_1.out) hb); have n2_ := A0_ (blk_below (bm_ BK339.out) hb); have n3_ := A0_ (blk_below (bm_ BK340.out) hb); have n4_ := A0_ (Kept.below (S := (fun k_ => P0_1_ k_ ∨ P1_1_ k_)) (by repeat (first | (with_reducible first | exact HK.out | apply Kept.alloc | apply Kept.drewN | apply Kept.drew | refine Kept.setCell ?_ (.inr GW339.out) _ | refine Kept.setCell ?_ (.inr GW340.out) _) | exact HK.out)) hb); have n5_ := A0_ (below_step (by repeat (first | (with_reducible first | exact qm_ HB.out | apply qA_ | apply qN_ | apply qD_ | refine below_set ?_ GE339.out | refine below_set ?_ GE340.out) | exact HB.out)) hb); have n6_ := A0_ (hbox); have n7_ := A0_ ((by rw [hg]; exact (by first | exact HK.out.1 | exact (show Kept w _ (fun k_ => P0_1_ k_ ∨ P1_1_ k_) from by repeat (first | (with_reducible first | exact HK.out | apply Kept.alloc | apply Kept.drewN | apply Kept.drew | refine Kept.setCell ?_ (.inr GW339.out) _ | refine Kept.setCell ?_ (.inr GW340.out) _) | exact HK.out)).1) : w.heap.size ≤ gb341)); have n8_ := A0_ ((by rw [hg]; exact (below_size (by repeat (first | (with_reducible first | exact qm_ HB.out | apply qA_ | apply qN_ | apply qD_ | refine below_set ?_ GE339.out | refine below_set ?_ GE340.out) | exact HB.out))) : w0.heap.size ≤ gb341)); have n9_ := A0_ ((by rw [hg]; exact Nat.ne_of_lt (blk_lt (bm_ BK339.out)) : gb339 ≠ gb341)); have n10_ := A0_ ((by rw [hg]; exact Nat.ne_of_gt (blk_lt (bm_ BK339.out)) : gb341 ≠ gb339)); have n11_ := A0_ ((by rw [hg]; exact Nat.ne_of_lt (blk_lt (bm_ BK340.out)) : gb340 ≠ gb341)); have n12_ := A0_ ((by rw [hg]; exact Nat.ne_of_gt (blk_lt (bm_ BK340.out)) : gb341 ≠ gb340)); clear HO0_1 HO1_1 BK339 BK340 HK HB; have HO0_1 := n0_; have HO1_1 := n1_; have BK339 := n2_; have BK340 := n3_; have HK := n4_; have HB := n5_; have BK341 := n6_; have GW341 := n7_; have GE341 := n8_; have NB339_341 := n9_; have NB341_339 := n10_; have NB340_341 := n11_; have NB341_340 := n12_; clear n0_ n1_ n2_ n3_ n4_ n5_ n6_ n7_ n8_ n9_ n10_ n11_ n12_ hb hbox hg))
 have n0_ := A0_ (Kd.R_drew HO0_1.out)
 have n1_ := A0_ (Kd.R_drew HO1_1.out)
 have n2_ := A0_ (blk_drew BK339.out)
 have n3_ := A0_ (blk_drew BK340.out)
 have n4_ := A0_ (blk_drew BK341.out)
 have n5_ := A0_ (Kept.drew HK.out)
 have n6_ := A0_ (below_drew1 HB.out)
 clear HO0_1 HO1_1 BK339 BK340 BK341 HK HB
 have HO0_1 := n0_
 have HO1_1 := n1_
 have BK339 := n2_
 have BK340 := n3_
 have BK341 := n4_
 have HK := n5_
 have HB := n6_
 clear n0_ n1_ n2_ n3_ n4_ n5_ n6_
 refine start_ (n := 5) (S := fun w' => w'.cell? ⟨gb339, 0, none⟩ = some (.bool a0_0) ∧ w'.cell? ⟨gb339, 1, none⟩ = some (.slice Ao5 l0_1.length co5) ∧ w'.cell? ⟨gb339, 2, none⟩ = some (.int .i64 a0_2) ∧ w'.cell? ⟨gb340, 0, none⟩ = some (.bool a1_0) ∧ w'.cell? ⟨gb340, 1, none⟩ = some (.slice Ao7 l1_1.length co7) ∧ w'.cell? ⟨gb340, 2, none⟩ = some (.int .i64 a1_2)) (ds := []) #[false, false, false, false, false] (by kernel_rfl) rfl rfl ⟨bC_ BK339.out 0, bC_ BK339.out 1, bC_ BK339.out 2, bC_ BK340.out 0, bC_ BK340.out 1, bC_ BK340.out 2⟩ (fun hHeld => ?_)
 generalize w9.drew = w10 at HO0_1 HO1_1 BK339 BK340 BK341 HK HB hHeld ⊢
 refine take_ (i := 0) (N := some 5) (v := ?_) (a' := ?_) #[true, false, false, false, false] rfl rfl (by kernel_rfl) (fun _ _ _ h => h) (Or.inl ⟨by rfl, ?_⟩) hHeld ?_ ?_
 rotate_left
 ·rintro w' ⟨s0, s1, s2, s3, s4, s5⟩
  go_simp
  with_reducible rfl
 rotate_left
 ·simp only [Act.put, sp_, i64_w, i32_w]
  rfl
 refine take_ (i := 1) (N := some 6) (v := ?_) (a' := ?_) #[true, true, false, false, false] rfl rfl (by kernel_rfl) (fun _ _ _ h => h) (Or.inl ⟨by rfl, ?_⟩) hHeld ?_ ?_
 rotate_left
 ·rintro w' ⟨s0, s1, s2, s3, s4, s5⟩
  go_simp
  with_reducible rfl
 rotate_left
 ·simp only [Act.put, sp_, i64_w, i32_w]
  rfl
 refine one_ (i := 2) (N := some 7) #[true, true, true, false, false] rfl rfl (by kernel_rfl) (by decide) (fun K hK => ?_)
 refine goes_ Try.func81 (by kernel_rfl) rfl #[.agg #[.bool a1_0, .slice Ao7 l1_1.length co7, .int .i64 a1_2]] (by rfl) rfl rfl (by (try simp only [List.map_toArray, List.map_cons, List.map_nil]); first | done | rfl | (simp only [List.length_drop, List.length_take]; rfl)) ?_
 with_reducible refine (cutplaneref02_Neg.calls a1_0 (fun k_ => some k_ = (.slice Ao7 l1_1.length co7 : Value).ownBlock) (.slice Ao7 l1_1.length co7) l1_1 a1_2 t342 t343 t346 w0 _ ?side1 ?side2 A3.out).mono ?_
 (case side1 => repeat (first | (with_reducible first | exact HB.out | apply below_alloc | apply pw_below_drewN | apply below_drew1 | refine below_set ?_ GE339.out | refine below_set ?_ GE340.out | refine below_set ?_ GE341.out) | exact HB.out))
 (case side2 => exact Kd.R_tight rfl HO1_1.out)
 rintro e w11 ⟨v344, rfl, ho0, hb, hkp⟩
 refine ⟨_, rfl, ?_⟩
 have n0_ := A0_ (Kd.R_mono (ok' := fun k_ => ((P0_1_ k_ ∨ P1_1_ k_) ∨ w.heap.size ≤ k_) ∧ some k_ ≠ (v344 : Value).ownBlock) (Kd.R_keptB (HO0_1.out) hkp (fun k_ hk_ hs_ => (hk_.2) hs_)) (fun k_ hk_ => ⟨hk_.1.1, fun e_ => Or.elim (ho0.1 k_ e_.symm) (fun hs_ => hk_.2.1 hs_) (fun hn_ => Nat.not_le.2 hk_.2.2 hn_)⟩))
 have n1_ := A0_ (blk_kept (bm_ BK339.out) hkp (fun hs_ => (fun e_ => (Kd.R_ne HO1_1.out BK339.out (by decide)) e_) hs_))
 have n2_ := A0_ (blk_kept (bm_ BK340.out) hkp (fun hs_ => (fun e_ => (Kd.R_ne HO1_1.out BK340.out (by decide)) e_) hs_))
 have n3_ := A0_ (blk_kept (bm_ BK341.out) hkp (fun hs_ => (fun e_ => (Kd.R_ne HO1_1.out BK341.out (by decide)) e_) hs_))
 have n4_ := A0_ (Kd.R_mono (ok' := fun k_ => ((P0_1_ k_ ∨ P1_1_ k_) ∨ w.heap.size ≤ k_) ∧ some k_ ≠ (.slice Ao5 l0_1.length co5 : Value).ownBlock) ho0 (fun k_ hk_ => ⟨Or.elim hk_ (fun hs_ => (HO1_1.out.1 k_ (hs_).symm).1) (fun hn_ => (.inr (Nat.le_trans (by first | exact HK.out.1 | exact (show Kept w _ (fun k_ => P0_1_ k_ ∨ P1_1_ k_) from by repeat (first | (with_reducible first | exact HK.out | apply Kept.alloc | apply Kept.drewN | apply Kept.drew | refine Kept.setCell ?_ (.inr GW339.out) _ | refine Kept.setCell ?_ (.inr GW340.out) _ | refine Kept.setCell ?_ (.inr GW341.out) _) | exact HK.out)).1) hn_))), Or.elim hk_ (fun hs_ => fun e_ => (((HO0_1.out).1 k_ e_.symm).2) hs_) (fun hn_ => (Kd.fresh' (Kd.R_lt (by exact rm_ HO0_1.out)) k_ hn_))⟩))
 have n5_ := A0_ (Kept.then_ (S := (fun k_ => P0_1_ k_ ∨ P1_1_ k_)) (by repeat (first | (with_reducible first | exact HK.out | apply Kept.alloc | apply Kept.drewN | apply Kept.drew | refine Kept.setCell ?_ (.inr GW339.out) _ | refine Kept.setCell ?_ (.inr GW340.out) _ | refine Kept.setCell ?_ (.inr GW341.out) _) | exact HK.out)) hkp (fun k_ hs_ => (fun e_ => (HO1_1.out.1 k_ e_.symm).1) hs_))
 have n6_ := A0_ (hb)
 clear HO0_1 BK339 BK340 BK341 HK HB HO1_1
 have HO0_1 := n0_
 have BK339 := n1_
 have BK340 := n2_
 have BK341 := n3_
 have HO345 := n4_
 have HK := n5_
 have HB := n6_
 clear n0_ n1_ n2_ n3_ n4_ n5_ n6_
 (try clear hb)
 (try clear hkp)
 (try clear ho0)
 obtain ⟨Ao12, co12, eo12⟩ := Kd.R_slice HO345.out
 (first | subst eo12 | (injection eo12 with f1_ f2_ f3_; have f4_ := f1_.symm; have f5_ := f3_.symm; clear f1_ f2_ f3_; subst f4_; subst f5_))
 refine hK.out _ _ ⟨bC_ BK339.out 0, bC_ BK339.out 1, bC_ BK339.out 2, bC_ BK340.out 0, bC_ BK340.out 1, bC_ BK340.out 2⟩ (fun hHeld => ?_)
 clear hK K
 refine norm_ (a' := ?_) ?_ ?_
 rotate_left
 ·show Act.put _ (some 7) _ = _
  simp only [Act.put, sp_, i64_w, i32_w]
  rfl
 refine one_ (i := 3) (N := some 8) #[true, true, true, true, false] rfl rfl (by kernel_rfl) (by decide) (fun K hK => ?_)
 refine goes_ Try.func80 (by kernel_rfl) rfl #[.agg #[.bool a0_0, .slice Ao5 l0_1.length co5, .int .i64 a0_2], .agg #[.bool t342, .slice Ao12 t343.length co12, .int .i64 t346]] (by rfl) rfl rfl (by (try simp only [List.map_toArray, List.map_cons, List.map_nil]); first | done | rfl | (simp only [List.length_drop, List.length_take]; rfl)) ?_
 with_reducible refine (cutplaneref02_Add.calls k a0_0 (fun k_ => some k_ = (.slice Ao5 l0_1.length co5 : Value).ownBlock) (.slice Ao5 l0_1.length co5) l0_1 a0_2 t342 (fun k_ => some k_ = (.slice Ao12 t343.length co12 : Value).ownBlock) (.slice Ao12 t343.length co12) t343 t346 t347 t348 t351 w0 _ ?side1 ?side2 ?side3 ?side4 ?side5 A4.out).mono ?_
 (case side1 => repeat (first | (with_reducible first | exact HB.out | apply below_alloc | apply pw_below_drewN | apply below_drew1 | refine below_set ?_ GE339.out | refine below_set ?_ GE340.out | refine below_set ?_ GE341.out) | exact HB.out))
 (case side2 => exact Kd.R_tight rfl HO0_1.out)
 (case side3 => exact fun k_ e_ => (HO0_1.out.1 k_ e_.symm).2)
 (case side4 => exact Kd.R_tight rfl HO345.out)
 (case side5 => exact fun k_ e_ => (HO345.out.1 k_ e_.symm).2)
 rintro e w13 ⟨v349, rfl, ho0, hb, hkp⟩
 refine ⟨_, rfl, ?_⟩
 have n0_ := A0_ (blk_kept (bm_ BK339.out) hkp (fun hs_ => Or.elim hs_ (fun e_ => (fun e_ => (Kd.R_ne HO0_1.out BK339.out (by decide)) e_) e_) (fun e_ => (fun e_ => (Kd.R_ne HO345.out BK339.out (by decide)) e_) e_)))
 have n1_ := A0_ (blk_kept (bm_ BK340.out) hkp (fun hs_ => Or.elim hs_ (fun e_ => (fun e_ => (Kd.R_ne HO0_1.out BK340.out (by decide)) e_) e_) (fun e_ => (fun e_ => (Kd.R_ne HO345.out BK340.out (by decide)) e_) e_)))
 have n2_ := A0_ (blk_kept (bm_ BK341.out) hkp (fun hs_ => Or.elim hs_ (fun e_ => (fun e_ => (Kd.R_ne HO0_1.out BK341.out (by decide)) e_) e_) (fun e_ => (fun e_ => (Kd.R_ne HO345.out BK341.out (by decide)) e_) e_)))
 have n3_ := A0_ (Kd.R_mono (ok' := fun k_ => ((P0_1_ k_ ∨ P1_1_ k_) ∨ w.heap.size ≤ k_)) ho0 (fun k_ hk_ => Or.elim hk_ (fun hs_ => Or.elim hs_ (fun hs_ => (HO0_1.out.1 k_ (hs_).symm).1) (fun hs_ => (HO345.out.1 k_ (hs_).symm).1)) (fun hn_ => (.inr (Nat.le_trans (by first | exact HK.out.1 | exact (show Kept w _ (fun k_ => P0_1_ k_ ∨ P1_1_ k_) from by repeat (first | (with_reducible first | exact HK.out | apply Kept.alloc | apply Kept.drewN | apply Kept.drew | refine Kept.setCell ?_ (.inr GW339.out) _ | refine Kept.setCell ?_ (.inr GW340.out) _ | refine Kept.setCell ?_ (.inr GW341.out) _) | exact HK.out)).1) hn_)))))
 have n4_ := A0_ (Kept.then_ (S := (fun k_ => P0_1_ k_ ∨ P1_1_ k_)) (by repeat (first | (with_reducible first | exact HK.out | apply Kept.alloc | apply Kept.drewN | apply Kept.drew | refine Kept.setCell ?_ (.inr GW339.out) _ | refine Kept.setCell ?_ (.inr GW340.out) _ | refine Kept.setCell ?_ (.inr GW341.out) _) | exact HK.out)) hkp (fun k_ hs_ => Or.elim hs_ (fun e_ => (fun e_ => (HO0_1.out.1 k_ e_.symm).1) e_) (fun e_ => (fun e_ => (HO345.out.1 k_ e_.symm).1) e_)))
 have n5_ := A0_ (hb)
 clear BK339 BK340 BK341 HK HB HO0_1 HO345
 have BK339 := n0_
 have BK340 := n1_
 have BK341 := n2_
 have HO350 := n3_
 have HK := n4_
 have HB := n5_
 clear n0_ n1_ n2_ n3_ n4_ n5_
 (try clear hb)
 (try clear hkp)
 (try clear ho0)
 obtain ⟨Ao15, co15, eo15⟩ := Kd.R_slice HO350.out
 (first | subst eo15 | (injection eo15 with f1_ f2_ f3_; have f4_ := f1_.symm; have f5_ := f3_.symm; clear f1_ f2_ f3_; subst f4_; subst f5_))
 refine hK.out _ _ ⟨bC_ BK339.out 0, bC_ BK339.out 1, bC_ BK339.out 2, bC_ BK340.out 0, bC_ BK340.out 1, bC_ BK340.out 2⟩ (fun hHeld => ?_)
 clear hK K
 refine norm_ (a' := ?_) ?_ ?_
 rotate_left
 ·show Act.put _ (some 8) _ = _
  simp only [Act.put, sp_, i64_w, i32_w]
  rfl
 refine one_ (i := 4) (N := none) #[true, true, true, true, true] rfl rfl (by kernel_rfl) (by decide) (fun K hK => ?_)
 have hs14 : w13.cell? ⟨gb341, 0, none⟩ = some (.bool false) := (blk_cell BK341.out 0).trans rfl
 have hfs14 := blk_frozen BK341.out 0
 have hns14_0 := NB339_341.out
 have hns14_1 := NB340_341.out
 have hms14_0 := NB341_339.out
 have hms14_1 := NB341_340.out
 have hs16 : w13.cell? ⟨gb341, 1, none⟩ = some (.slice none 0 0) := (blk_cell BK341.out 1).trans rfl
 have hfs16 := blk_frozen BK341.out 1
 have hns16_0 := NB339_341.out
 have hns16_1 := NB340_341.out
 have hms16_0 := NB341_339.out
 have hms16_1 := NB341_340.out
 have hs17 : w13.cell? ⟨gb341, 2, none⟩ = some (.int .i64 0) := (blk_cell BK341.out 2).trans rfl
 have hfs17 := blk_frozen BK341.out 2
 have hns17_0 := NB339_341.out
 have hns17_1 := NB340_341.out
 have hms17_0 := NB341_339.out
 have hms17_1 := NB341_340.out
 refine skip_ (w1 := ?_) (by rfl) rfl ?_ ?_
 rotate_left
 ·go_simp
  rfl
 refine hK.out _ _ ⟨((cell_far (p := ⟨gb341, _, none⟩) NB339_341.out _).trans (((cell_far (p := ⟨gb341, _, none⟩) NB339_341.out _).trans (((cell_far (p := ⟨gb341, _, none⟩) NB339_341.out _).trans (hHeld.1)))))), ((cell_far (p := ⟨gb341, _, none⟩) NB339_341.out _).trans (((cell_far (p := ⟨gb341, _, none⟩) NB339_341.out _).trans (((cell_far (p := ⟨gb341, _, none⟩) NB339_341.out _).trans (hHeld.2.1)))))), ((cell_far (p := ⟨gb341, _, none⟩) NB339_341.out _).trans (((cell_far (p := ⟨gb341, _, none⟩) NB339_341.out _).trans (((cell_far (p := ⟨gb341, _, none⟩) NB339_341.out _).trans (hHeld.2.2.1)))))), ((cell_far (p := ⟨gb341, _, none⟩) NB340_341.out _).trans (((cell_far (p := ⟨gb341, _, none⟩) NB340_341.out _).trans (((cell_far (p := ⟨gb341, _, none⟩) NB340_341.out _).trans (hHeld.2.2.2.1)))))), ((cell_far (p := ⟨gb341, _, none⟩) NB340_341.out _).trans (((cell_far (p := ⟨gb341, _, none⟩) NB340_341.out _).trans (((cell_far (p := ⟨gb341, _, none⟩) NB340_341.out _).trans (hHeld.2.2.2.2.1)))))), ((cell_far (p := ⟨gb341, _, none⟩) NB340_341.out _).trans (((cell_far (p := ⟨gb341, _, none⟩) NB340_341.out _).trans (((cell_far (p := ⟨gb341, _, none⟩) NB340_341.out _).trans (hHeld.2.2.2.2.2))))))⟩ (fun hHeld => ?_)
 clear hK K
 refine done_ (by kernel_rfl) ?_
 try go_wp2
 refine bodyPost_ret (results_cell_row rfl _ _ gb341 64 #[.bool t347, .slice Ao15 t348.length co15, .int .i64 t351] (0, 0) _ rfl (by (with_reducible repeat first | apply bN_ | apply bD_ | apply bA_); refine blk_put (cs := #[.bool t347, .slice Ao15 t348.length co15, .int .i64 0]) ?_ 2 _ rfl; (with_reducible repeat first | apply bN_ | apply bD_ | apply bA_); refine blk_put (cs := #[.bool t347, .slice none 0 0, .int .i64 0]) ?_ 1 _ rfl; (with_reducible repeat first | apply bN_ | apply bD_ | apply bA_); refine blk_put (cs := #[.bool false, .slice none 0 0, .int .i64 0]) ?_ 0 _ rfl; (with_reducible repeat first | apply bN_ | apply bD_ | apply bA_); exact BK341.out) Try.underlying64 rfl (by kernel_rfl)) rfl ?_
 exact ⟨_, by first | rfl | (simp [errW_none, errW_some] <;> rfl) | (simp [*, errW_none, errW_some] <;> rfl), by (with_reducible repeat (first | apply Kd.R_alloc | apply Kd.R_drewN | apply Kd.R_drew)); exact Kd.R_mono (Kd.R_far (p := ⟨gb341, 2, none⟩) (Kd.R_far (p := ⟨gb341, 1, none⟩) (Kd.R_far (p := ⟨gb341, 0, none⟩) (Kd.R_types HO350.out BK341.out (by decide)) (fun _ hk => hk.2) (.bool t347)) (fun _ hk => hk.2) (.slice Ao15 t348.length co15)) (fun _ hk => hk.2) (.int .i64 t351)) (fun _ hk => hk.1), by repeat (first | (with_reducible first | exact qm_ HB.out | apply qA_ | apply qN_ | apply qD_ | refine below_set ?_ GE339.out | refine below_set ?_ GE340.out | refine below_set ?_ GE341.out) | exact HB.out), by repeat (first | (with_reducible first | exact HK.out | apply Kept.alloc | apply Kept.drewN | apply Kept.drew | refine Kept.setCell ?_ (.inr GW339.out) _ | refine Kept.setCell ?_ (.inr GW340.out) _ | refine Kept.setCell ?_ (.inr GW341.out) _) | exact HK.out)⟩
end Go.Proofs.Ytnjdaoeebhbmfaa.PA
end
