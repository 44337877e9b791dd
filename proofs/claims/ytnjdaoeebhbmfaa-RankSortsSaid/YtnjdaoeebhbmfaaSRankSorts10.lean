/- Steps of Go functions that the law RankSorts uses, told as plain Lean functions, each with the proof that its call comes to what it tells; words on memory; plain facts. No condition beyond those that each text names. -/
import Derived.Test.YtnjdaoeebhbmfaaProg
import Derived.Below
import Derived.Deep.Draws
import Derived.Deep.AppendLies
import Derived.Maps.AppendAt
import Derived.OwnWalk
import Derived.Laws.BytesArg
import Derived.Laws.MakeOwn
import Derived.Laws.OwnMore
import Derived.Deep.OwnRows
import Derived.Tactics
import Derived.Lib.ConvBytes
import Derived.Laws.Slices
import Derived.WalkKit
import Derived.KernelRfl
import Derived.RowKit3
import Derived.Deep.LoopGhost
import Derived.Deep.QuietTactic
import Derived.BigQuiet
import Derived.WideLaws
import Derived.Deep.DeepCutAuto
import Derived.Deep.CutBlock
import Derived.Deep.RegionHeld3
import Derived.Laws.Rows
import Derived.Lib.AppendStr
import Derived.ArgAppend
import Derived.Laws.IdiomCopy
import Derived.OrdersHeld
import Derived.Laws.BitsLemmas
import Derived.RowKit
import Derived.Laws.StructEq
import Derived.Test.YtnjdaoeebhbmfaaSRankSorts0
import Derived.Test.YtnjdaoeebhbmfaaSRankSorts1
import Derived.Test.YtnjdaoeebhbmfaaSRankSorts3
import Derived.Test.YtnjdaoeebhbmfaaSRankSorts6
import Derived.Test.YtnjdaoeebhbmfaaSRankSorts7
import Derived.Test.YtnjdaoeebhbmfaaSRankSorts8
import Derived.Test.YtnjdaoeebhbmfaaSRankSorts9
section
namespace Go.Proofs.Ytnjdaoeebhbmfaa.PA
open Go.RowKit Go.Proofs.YtnjdaoeebhbmfaaW.PrintWords Go.Proofs.YtnjdaoeebhbmfaaW.PrintLast Go.Proofs.YtnjdaoeebhbmfaaW.PrintMore
attribute [local go_sem] max2_int min2_int max_two min_two max_three min_three max_four min_four   -- for this text's walks alone
set_option linter.unusedVariables false
set_option linter.unusedSimpArgs false
def cutplaneref02_Add.j0 : Nat → Int → Bool → List Int → Int → Bool → List Int → Int → Option (Bool × List Int × Int)
 | 0, _, _, _, _, _, _, _ => none
 | k + 1, x5, x304000, x304001, x304002, x305000, x305001, x305002 => (cutplaneref01_Up.f k x304001 (wrap64 (x304002 - x5))).bind fun t306 => ((cutplaneref01_Up.f k x305001 (wrap64 (x305002 - x5))).bind fun t309 => (if (x304000 == x305000) = true then ((cutplaneref01_Add.f k t306 t309).bind fun t312 => ((cutplaneref02_Form.f k x304000 t312 x5).bind fun bt315 => (some (bt315.1, bt315.2.1, bt315.2.2)))) else ((cutplaneref01_Cmp.f k t306 t309).bind fun t320 => (if t320 ≥ 0 then ((cutplaneref01_Sub.f k t306 t309).bind fun t321 => ((cutplaneref02_Form.f k x304000 t321 x5).bind fun bt324 => (some (bt324.1, bt324.2.1, bt324.2.2)))) else ((cutplaneref01_Sub.f k t309 t306).bind fun t329 => ((cutplaneref02_Form.f k x305000 t329 x5).bind fun bt332 => (some (bt332.1, bt332.2.1, bt332.2.2))))))))
def cutplaneref02_Add.f (k : Nat) (a0_0 : Bool) (l0_1 : List Int) (a0_2 : Int) (a1_0 : Bool) (l1_1 : List Int) (a1_2 : Int) : Option (Bool × List Int × Int) := if (l0_1.length : Int) = 0 then (some (a1_0, l1_1, a1_2)) else (if (l1_1.length : Int) = 0 then (some (a0_0, l0_1, a0_2)) else (if a1_2 < a0_2 then (cutplaneref02_Add.j0 k a1_2 a0_0 l0_1 a0_2 a1_0 l1_1 a1_2) else (cutplaneref02_Add.j0 k a0_2 a0_0 l0_1 a0_2 a1_0 l1_1 a1_2)))
theorem cutplaneref02_Add.mono_l : ∀ k, (∀ y0 y1 y2 y3 y4 y5 y6, LeO (cutplaneref02_Add.j0 k y0 y1 y2 y3 y4 y5 y6) (cutplaneref02_Add.j0 (k + 1) y0 y1 y2 y3 y4 y5 y6))
 | 0 => fun _ _ _ _ _ _ _ r h => by simp [cutplaneref02_Add.j0] at h
 | k + 1 => by
  have ih0 := cutplaneref02_Add.mono_l k
  ·intro y0 y1 y2 y3 y4 y5 y6
   unfold cutplaneref02_Add.j0
   repeat' first
   | (with_reducible exact ih0 _ _ _ _ _ _ _)
   | (with_reducible exact cutplaneref01_Add.mono _ _ _)
   | (with_reducible exact cutplaneref01_Cmp.mono _ _ _)
   | (with_reducible exact cutplaneref01_Sub.mono _ _ _)
   | (with_reducible exact cutplaneref01_Up.mono _ _ _)
   | (with_reducible exact cutplaneref02_Form.mono _ _ _ _)
   | (with_reducible exact LeO.refl _)
   | (with_reducible exact LeO.none _)
   | (with_reducible refine LeO.ite ?_ ?_)
   | (with_reducible refine LeO.bind ?_ (fun _ => ?_))
   | exact ih0 _ _ _ _ _ _ _
   | exact cutplaneref01_Add.mono _ _ _
   | exact cutplaneref01_Cmp.mono _ _ _
   | exact cutplaneref01_Sub.mono _ _ _
   | exact cutplaneref01_Up.mono _ _ _
   | exact cutplaneref02_Form.mono _ _ _ _
   | exact LeO.none _
   | refine LeO.ite ?_ ?_
   | refine LeO.bind ?_ (fun _ => ?_)
theorem cutplaneref02_Add.mono : ∀ a0 a1 a2 a3 a4 a5 k, LeO (cutplaneref02_Add.f k a0 a1 a2 a3 a4 a5) (cutplaneref02_Add.f (k + 1) a0 a1 a2 a3 a4 a5) := by
 intro a0 a1 a2 a3 a4 a5 k
 have ih0 := cutplaneref02_Add.mono_l k
 unfold cutplaneref02_Add.f
 repeat' first
   | (with_reducible exact ih0 _ _ _ _ _ _ _)
   | (with_reducible exact cutplaneref01_Add.mono _ _ _)
   | (with_reducible exact cutplaneref01_Cmp.mono _ _ _)
   | (with_reducible exact cutplaneref01_Sub.mono _ _ _)
   | (with_reducible exact cutplaneref01_Up.mono _ _ _)
   | (with_reducible exact cutplaneref02_Form.mono _ _ _ _)
   | (with_reducible exact LeO.refl _)
   | (with_reducible exact LeO.none _)
   | (with_reducible refine LeO.ite ?_ ?_)
   | (with_reducible refine LeO.bind ?_ (fun _ => ?_))
   | exact ih0 _ _ _ _ _ _ _
   | exact cutplaneref01_Add.mono _ _ _
   | exact cutplaneref01_Cmp.mono _ _ _
   | exact cutplaneref01_Sub.mono _ _ _
   | exact cutplaneref01_Up.mono _ _ _
   | exact cutplaneref02_Form.mono _ _ _ _
   | exact LeO.none _
   | refine LeO.ite ?_ ?_
   | refine LeO.bind ?_ (fun _ => ?_)
def cutplaneref02_Add.T11 : Bool × List (List Nat × List Nat) := (true, [([], []), ([0], [0]), ([], []), ([], []), ([2, 3], [2, 3]), ([], []), ([1, 4, 5, 4], [1, 4, 5]), ([6, 6, 0, 1, 2, 3, 4, 5, 6], [6])])
def cutplaneref02_Add.B11 : List Nat := [0, 1, 0, 0, 12, 0, 63, 127]
theorem cutplaneref02_Add.tab11 : rtab .any (opsOf Try.f80 11) = cutplaneref02_Add.T11 := by kernel_rfl
theorem cutplaneref02_Add.bits11 : waitsOk cutplaneref02_Add.T11.2 cutplaneref02_Add.B11 = true := by kernel_rfl
def cutplaneref02_Add.T13 : Bool × List (List Nat × List Nat) := (true, [([], []), ([0], [0]), ([], []), ([], []), ([2, 3], [2, 3]), ([], []), ([1, 4, 5, 4], [1, 4, 5]), ([6, 6, 0, 1, 2, 3, 4, 5, 6], [6])])
def cutplaneref02_Add.B13 : List Nat := [0, 1, 0, 0, 12, 0, 63, 127]
theorem cutplaneref02_Add.tab13 : rtab .any (opsOf Try.f80 13) = cutplaneref02_Add.T13 := by kernel_rfl
theorem cutplaneref02_Add.bits13 : waitsOk cutplaneref02_Add.T13.2 cutplaneref02_Add.B13 = true := by kernel_rfl
def cutplaneref02_Add.T14 : Bool × List (List Nat × List Nat) := (true, [([], []), ([0], [0]), ([], []), ([], []), ([2, 3], [2, 3]), ([], []), ([1, 4, 5, 4], [1, 4, 5]), ([6, 6, 0, 1, 2, 3, 4, 5, 6], [6])])
def cutplaneref02_Add.B14 : List Nat := [0, 1, 0, 0, 12, 0, 63, 127]
theorem cutplaneref02_Add.tab14 : rtab .any (opsOf Try.f80 14) = cutplaneref02_Add.T14 := by kernel_rfl
theorem cutplaneref02_Add.bits14 : waitsOk cutplaneref02_Add.T14.2 cutplaneref02_Add.B14 = true := by kernel_rfl
set_option maxHeartbeats 2000000 in
set_option maxRecDepth 100000 in
theorem cutplaneref02_Add.calls (k : Nat) (a0_0 : Bool) (P0_1_ : Nat → Prop) (u9000_ : Value) (l0_1 : List Int) (a0_2 : Int) (a1_0 : Bool) (P1_1_ : Nat → Prop) (u9001_ : Value) (l1_1 : List Int) (a1_2 : Int) (r1 : Bool) (r2 : List Int) (r3 : Int) (w0 w : World) (hB : Below w0.heap.size w0 w) (ho0_1 : Kd.R (Kd.int .u32) 103 w w0.heap.size P0_1_ u9000_ l0_1) (hp0_1_1_1 : ∀ k_, P0_1_ k_ → ¬ P1_1_ k_) (ho1_1 : Kd.R (Kd.int .u32) 103 w w0.heap.size P1_1_ u9001_ l1_1) (hp1_1_0_1 : ∀ k_, P1_1_ k_ → ¬ P0_1_ k_) (h : cutplaneref02_Add.f k a0_0 l0_1 a0_2 a1_0 l1_1 a1_2 = some (r1, r2, r3)) :
  Calls Try.prog 80 #[.agg #[.bool a0_0, u9000_, .int .i64 a0_2], .agg #[.bool a1_0, u9001_, .int .i64 a1_2]] w fun e w' => ∃ v1_ : Value, e = .returned (.agg #[.bool r1, v1_, .int .i64 r3]) ∧ Kd.R (Kd.int .u32) 103 w' w0.heap.size (fun k_ => ((P0_1_ k_ ∨ P1_1_ k_) ∨ w.heap.size ≤ k_)) v1_ r2 ∧ Below w0.heap.size w0 w' ∧ Kept w w' (fun k_ => P0_1_ k_ ∨ P1_1_ k_) := by
 have hu64 := Try.underlying64
 have HO0_1 := A0_ (show Kd.R (Kd.int .u32) 103 w w0.heap.size (fun k_ => ((P0_1_ k_ ∨ P1_1_ k_) ∨ w.heap.size ≤ k_) ∧ some k_ ≠ (u9001_ : Value).ownBlock) u9000_ l0_1 from Kd.R_mono ho0_1 (fun k_ hk => ⟨(.inl (.inl hk)), fun e_ => hp0_1_1_1 k_ hk (ho1_1.1 k_ e_.symm)⟩))
 have HO1_1 := A0_ (show Kd.R (Kd.int .u32) 103 w w0.heap.size (fun k_ => ((P0_1_ k_ ∨ P1_1_ k_) ∨ w.heap.size ≤ k_) ∧ some k_ ≠ (u9000_ : Value).ownBlock) u9001_ l1_1 from Kd.R_mono ho1_1 (fun k_ hk => ⟨(.inl (.inr hk)), fun e_ => hp1_1_0_1 k_ hk (ho0_1.1 k_ e_.symm)⟩))
 have HK := A0_ (Kept.refl w (fun k_ => P0_1_ k_ ∨ P1_1_ k_))
 have HW0 := A0_ hB.size
 have HB := A0_ hB
 clear hB
 have H : (if (l0_1.length : Int) = 0 then (some (a1_0, l1_1, a1_2)) else (if (l1_1.length : Int) = 0 then (some (a0_0, l0_1, a0_2)) else (if a1_2 < a0_2 then (cutplaneref02_Add.j0 k a1_2 a0_0 l0_1 a0_2 a1_0 l1_1 a1_2) else (cutplaneref02_Add.j0 k a0_2 a0_0 l0_1 a0_2 a1_0 l1_1 a1_2)))) = some (r1, r2, r3) := h
 clear h
 by_cases c3 : (l0_1.length : Int) = 0
 ·rw [if_pos c3] at H
  have c3b0 : ((l0_1.length : Int) == 0) = true := beq_iff_eq.mpr c3
  have c3b1 : ((l0_1.length : Int) != 0) = false := bne_eq_false_iff_eq.mpr c3
  clear c3
  simp only [Option.some.injEq, Prod.mk.injEq] at H
  obtain ⟨rfl, rfl, rfl⟩ := H
  obtain ⟨Ao4, co4, eo4⟩ := Kd.R_slice HO0_1.out
  subst eo4
  go_enter Try.func80, Try.ntmps80
  go_wp2_with (first | ((with_reducible refine gate_dst (N := 2) rfl ?_); refine box_event ?hg (N := 2) ?hd (cs := #[.bool a0_0, .slice Ao4 l0_1.length co4, .int .i64 a0_2]) (t := 64) ?hr ?_; (case hd => rfl); (case hg => rfl); (case hr => first | (go_simp; done) | (go_simp; rfl)); intro gb303 hg w5 hbox hb; have n0_ := A0_ (Kd.R_below (by exact rm_ HO0_1.out) hb); have n1_ := A0_ (Kd.R_below (by exact rm_ HO1_1.out) hb); have n2_ := A0_ (Kept.below (S := (fun k_ => P0_1_ k_ ∨ P1_1_ k_)) (by repeat (first | (with_reducible first | exact HK.out | apply Kept.alloc | apply Kept.drewN | apply Kept.drew) | exact HK.out)) hb); have n3_ := A0_ (below_step (qm_ HB.out) hb); have n4_ := A0_ (hbox); have n5_ := A0_ ((by rw [hg]; exact (by first | exact HK.out.1 | exact (show Kept w _ (fun k_ => P0_1_ k_ ∨ P1_1_ k_) from by repeat (first | (with_reducible first | exact HK.out | apply Kept.alloc | apply Kept.drewN | apply Kept.drew) | exact HK.out)).1) : w.heap.size ≤ gb303)); have n6_ := A0_ ((by rw [hg]; exact (below_size (qm_ HB.out)) : w0.heap.size ≤ gb303)); clear HO0_1 HO1_1 HK HB; have HO0_1 := n0_; have HO1_1 := n1_; have HK := n2_; have HB := n3_; have BK303 := n4_; have GW303 := n5_; have GE303 := n6_; clear n0_ n1_ n2_ n3_ n4_ n5_ n6_ hb hbox hg; obtain ⟨Ao6, co6, eo6⟩ := Kd.R_slice HO1_1.out; subst eo6) | ((with_reducible refine gate_dst (N := 3) rfl ?_); refine box_event ?hg (N := 3) ?hd (cs := #[.bool a1_0, .slice Ao6 l1_1.length co6, .int .i64 a1_2]) (t := 64) ?hr ?_; (case hd => rfl); (case hg => rfl); (case hr => first | (go_simp; done) | (go_simp; rfl)); intro gb304 hg w7 hbox hb; have n0_ := A0_ (Kd.R_below (by exact rm_ HO0_1.out) hb); have n1_ := A0_ (Kd.R_below (by exact rm_ HO1_1.out) hb); have n2_ := A0_ (blk_below (bm_ BK303.out) hb); have n3_ := A0_ (Kept.below (S := (fun k_ => P0_1_ k_ ∨ P1_1_ k_)) (by repeat (first | (with_reducible first | exact HK.out | apply Kept.alloc | apply Kept.drewN | apply Kept.drew | refine Kept.setCell ?_ (.inr GW303.out) _) | exact HK.out)) hb); have n4_ := A0_ (below_step (by repeat (first | (with_reducible first | exact qm_ HB.out | apply qA_ | apply qN_ | apply qD_ | refine below_set ?_ GE303.out) | exact HB.out)) hb); have n5_ := A0_ (hbox); have n6_ := A0_ ((by rw [hg]; exact (by first | exact HK.out.1 | exact (show Kept w _ (fun k_ => P0_1_ k_ ∨ P1_1_ k_) from by repeat (first | (with_reducible first | exact HK.out | apply Kept.alloc | apply Kept.drewN | apply Kept.drew | refine Kept.setCell ?_ (.inr GW303.out) _) | exact HK.out)).1) : w.heap.size ≤ gb304)); have n7_ := A0_ ((by rw [hg]; exact (below_size (by repeat (first | (with_reducible first | exact qm_ HB.out | apply qA_ | apply qN_ | apply qD_ | refine below_set ?_ GE303.out) | exact HB.out))) : w0.heap.size ≤ gb304)); have n8_ := A0_ ((by rw [hg]; exact Nat.ne_of_lt (blk_lt (bm_ BK303.out)) : gb303 ≠ gb304)); have n9_ := A0_ ((by rw [hg]; exact Nat.ne_of_gt (blk_lt (bm_ BK303.out)) : gb304 ≠ gb303)); clear HO0_1 HO1_1 BK303 HK HB; have HO0_1 := n0_; have HO1_1 := n1_; have BK303 := n2_; have HK := n3_; have HB := n4_; have BK304 := n5_; have GW304 := n6_; have GE304 := n7_; have NB303_304 := n8_; have NB304_303 := n9_; clear n0_ n1_ n2_ n3_ n4_ n5_ n6_ n7_ n8_ n9_ hb hbox hg) | ((with_reducible refine gate_dst (N := 4) rfl ?_); refine box_event ?hg (N := 4) ?hd (cs := #[.bool false, .slice none 0 0, .int .i64 0]) (t := 64) ?hr ?_; (case hd => rfl); (case hg => rfl); (case hr => first | (go_simp; done) | (go_simp; rfl)); intro gb305 hg w8 hbox hb; have n0_ := A0_ (Kd.R_below (by exact rm_ HO0_1.out) hb); have n1_ := A0_ (Kd.R_below (by exact rm_ HO1_1.out) hb); have n2_ := A0_ (blk_below (bm_ BK303.out) hb); have n3_ := A0_ (blk_below (bm_ BK304.out) hb); have n4_ := A0_ (Kept.below (S := (fun k_ => P0_1_ k_ ∨ P1_1_ k_)) (by repeat (first | (with_reducible first | exact HK.out | apply Kept.alloc | apply Kept.drewN | apply Kept.drew | refine Kept.setCell ?_ (.inr GW303.out) _ | refine Kept.setCell ?_ (.inr GW304.out) _) | exact HK.out)) hb); have n5_ := A0_ (below_step (by repeat (first | (with_reducible first | exact qm_ HB.out | apply qA_ | apply qN_ | apply qD_ | refine below_set ?_ GE303.out | refine below_set ?_ GE304.out) | exact HB.out)) hb); have n6_ := A0_ (hbox); have n7_ := A0_ ((by rw [hg]; exact (by first | exact HK.out.1 | exact (show Kept w _ (fun k_ => P0_1_ k_ ∨ P1_1_ k_) from by repeat (first | (with_reducible first | exact HK.out | apply Kept.alloc | apply Kept.drewN | apply Kept.drew | refine Kept.setCell ?_ (.inr GW303.out) _ | refine Kept.setCell ?_ (.inr GW304.out) _) | exact HK.out)).1) : w.heap.size ≤ gb305)); have n8_ := A0_ ((by rw [hg]; exact (below_size (by repeat (first | (with_reducible first | exact qm_ HB.out | apply qA_ | apply qN_ | apply qD_ | refine below_set ?_ GE303.out | refine below_set ?_ GE304.out) | exact HB.out))) : w0.heap.size ≤ gb305)); have n9_ := A0_ ((by rw [hg]; exact Nat.ne_of_lt (blk_lt (bm_ BK303.out)) : gb303 ≠ gb305)); have n10_ := A0_ ((by rw [hg]; exact Nat.ne_of_gt (blk_lt (bm_ BK303.out)) : gb305 ≠ gb303)); have n11_ := A0_ ((by rw [hg]; exact Nat.ne_of_lt (blk_lt (bm_ BK304.out)) : gb304 ≠ gb305)); have n12_ := A0_ ((by rw [hg]; exact Nat.ne_of_gt (blk_lt (bm_ BK304.out)) : gb305 ≠ gb304)); clear HO0_1 HO1_1 BK303 BK304 HK HB; have HO0_1 := n0_; have HO1_1 := n1_; have BK303 := n2_; have BK304 := n3_; have HK := n4_; have HB := n5_; have BK305 := n6_; have GW305 := n7_; have GE305 := n8_; have NB303_305 := n9_; have NB305_303 := n10_; have NB304_305 := n11_; have NB305_304 := n12_; clear n0_ n1_ n2_ n3_ n4_ n5_ n6_ n7_ n8_ n9_ n10_ n11_ n12_ hb hbox hg; have hnb9 := NB303_304.out; have hnc9 := NB304_303.out; have hnb10 := NB303_305.out; have hnc10 := NB305_303.out; have hcz11 := bc3_ BK303.out; have hfz11 := bf3_ BK303.out; have hnb12 := NB304_305.out; have hnc12 := NB305_304.out; have hcz13 := bc3_ BK304.out; have hfz13 := bf3_ BK304.out; have hcz14 := bc3_ BK305.out; have hfz14 := bf3_ BK305.out))
  refine bodyPost_ret (results_cell_row rfl _ _ gb305 64 #[.bool a1_0, .slice Ao6 l1_1.length co6, .int .i64 a1_2] (0, 0) _ rfl (by (with_reducible repeat first | apply bN_ | apply bD_ | apply bA_); refine blk_put (cs := #[.bool a1_0, .slice Ao6 l1_1.length co6, .int .i64 0]) ?_ 2 _ rfl; (with_reducible repeat first | apply bN_ | apply bD_ | apply bA_); refine blk_put (cs := #[.bool a1_0, .slice none 0 0, .int .i64 0]) ?_ 1 _ rfl; (with_reducible repeat first | apply bN_ | apply bD_ | apply bA_); refine blk_put (cs := #[.bool false, .slice none 0 0, .int .i64 0]) ?_ 0 _ rfl; (with_reducible repeat first | apply bN_ | apply bD_ | apply bA_); exact BK305.out) Try.underlying64 rfl (by kernel_rfl)) rfl ?_
  exact ⟨_, by first | rfl | (simp [errW_none, errW_some] <;> rfl) | (simp [*, errW_none, errW_some] <;> rfl), by (with_reducible repeat (first | apply Kd.R_alloc | apply Kd.R_drewN | apply Kd.R_drew)); exact Kd.R_mono (Kd.R_far (p := ⟨gb305, 2, none⟩) (Kd.R_far (p := ⟨gb305, 1, none⟩) (Kd.R_far (p := ⟨gb305, 0, none⟩) (Kd.R_types HO1_1.out BK305.out (by decide)) (fun _ hk => hk.2) (.bool a1_0)) (fun _ hk => hk.2) (.slice Ao6 l1_1.length co6)) (fun _ hk => hk.2) (.int .i64 a1_2)) (fun _ hk => hk.1.1), by repeat (first | (with_reducible first | exact qm_ HB.out | apply qA_ | apply qN_ | apply qD_ | refine below_set ?_ GE303.out | refine below_set ?_ GE304.out | refine below_set ?_ GE305.out) | exact HB.out), by repeat (first | (with_reducible first | exact HK.out | apply Kept.alloc | apply Kept.drewN | apply Kept.drew | refine Kept.setCell ?_ (.inr GW303.out) _ | refine Kept.setCell ?_ (.inr GW304.out) _ | refine Kept.setCell ?_ (.inr GW305.out) _) | exact HK.out)⟩
 ·rw [if_neg c3] at H
  have c3b0 : ((l0_1.length : Int) == 0) = false := beq_eq_false_iff_ne.mpr c3
  have c3b1 : ((l0_1.length : Int) != 0) = true := bne_iff_ne.mpr c3
  have c3b2 : ¬ (l0_1 = []) := fun h_ => c3 (by rw [h_]; rfl)
  by_cases c15 : (l1_1.length : Int) = 0
  ·rw [if_pos c15] at H
   have c15b0 : ((l1_1.length : Int) == 0) = true := beq_iff_eq.mpr c15
   have c15b1 : ((l1_1.length : Int) != 0) = false := bne_eq_false_iff_eq.mpr c15
   clear c15
   simp only [Option.some.injEq, Prod.mk.injEq] at H
   obtain ⟨rfl, rfl, rfl⟩ := H
   obtain ⟨Ao16, co16, eo16⟩ := Kd.R_slice HO0_1.out
   subst eo16
   go_enter Try.func80, Try.ntmps80
   go_wp2_with (first | ((with_reducible refine gate_dst (N := 2) rfl ?_); refine box_event ?hg (N := 2) ?hd (cs := #[.bool a0_0, .slice Ao16 l0_1.length co16, .int .i64 a0_2]) (t := 64) ?hr ?_; (case hd => rfl); (case hg => rfl); (case hr => first | (go_simp; done) | (go_simp; rfl)); intro gb303 hg w17 hbox hb; have n0_ := A0_ (Kd.R_below (by exact rm_ HO0_1.out) hb); have n1_ := A0_ (Kd.R_below (by exact rm_ HO1_1.out) hb); have n2_ := A0_ (Kept.below (S := (fun k_ => P0_1_ k_ ∨ P1_1_ k_)) (by repeat (first | (with_reducible first | exact HK.out | apply Kept.alloc | apply Kept.drewN | apply Kept.drew) | exact HK.out)) hb); have n3_ := A0_ (below_step (qm_ HB.out) hb); have n4_ := A0_ (hbox); have n5_ := A0_ ((by rw [hg]; exact (by first | exact HK.out.1 | exact (show Kept w _ (fun k_ => P0_1_ k_ ∨ P1_1_ k_) from by repeat (first | (with_reducible first | exact HK.out | apply Kept.alloc | apply Kept.drewN | apply Kept.drew) | exact HK.out)).1) : w.heap.size ≤ gb303)); have n6_ := A0_ ((by rw [hg]; exact (below_size (qm_ HB.out)) : w0.heap.size ≤ gb303)); clear HO0_1 HO1_1 HK HB; have HO0_1 := n0_; have HO1_1 := n1_; have HK := n2_; have HB := n3_; have BK303 := n4_; have GW303 := n5_; have GE303 := n6_; clear n0_ n1_ n2_ n3_ n4_ n5_ n6_ hb hbox hg; obtain ⟨Ao18, co18, eo18⟩ := Kd.R_slice HO1_1.out; subst eo18) | ((with_reducible refine gate_dst (N := 3) rfl ?_); refine box_event ?hg (N := 3) ?hd (cs := #[.bool a1_0, .slice Ao18 l1_1.length co18, .int .i64 a1_2]) (t := 64) ?hr ?_; (case hd => rfl); (case hg => rfl); (case hr => first | (go_simp; done) | (go_simp; rfl)); intro gb304 hg w19 hbox hb; have n0_ := A0_ (Kd.R_below (by exact rm_ HO0_1.out) hb); have n1_ := A0_ (Kd.R_below (by exact rm_ HO1_1.out) hb); have n2_ := A0_ (blk_below (bm_ BK303.out) hb); have n3_ := A0_ (Kept.below (S := (fun k_ => P0_1_ k_ ∨ P1_1_ k_)) (by repeat (first | (with_reducible first | exact HK.out | apply Kept.alloc | apply Kept.drewN | apply Kept.drew | refine Kept.setCell ?_ (.inr GW303.out) _) | exact HK.out)) hb); have n4_ := A0_ (below_step (by repeat (first | (with_reducible first | exact qm_ HB.out | apply qA_ | apply qN_ | apply qD_ | refine below_set ?_ GE303.out) | exact HB.out)) hb); have n5_ := A0_ (hbox); have n6_ := A0_ ((by rw [hg]; exact (by first | exact HK.out.1 | exact (show Kept w _ (fun k_ => P0_1_ k_ ∨ P1_1_ k_) from by repeat (first | (with_reducible first | exact HK.out | apply Kept.alloc | apply Kept.drewN | apply Kept.drew | refine Kept.setCell ?_ (.inr GW303.out) _) | exact HK.out)).1) : w.heap.size ≤ gb304)); have n7_ := A0_ ((by rw [hg]; exact (below_size (by repeat (first | (with_reducible first | exact qm_ HB.out | apply qA_ | apply qN_ | apply qD_ | refine below_set ?_ GE303.out) | exact HB.out))) : w0.heap.size ≤ gb304)); have n8_ := A0_ ((by rw [hg]; exact Nat.ne_of_lt (blk_lt (bm_ BK303.out)) : gb303 ≠ gb304)); have n9_ := A0_ ((by rw [hg]; exact Nat.ne_of_gt (blk_lt (bm_ BK303.out)) : gb304 ≠ gb303)); clear HO0_1 HO1_1 BK303 HK HB; have HO0_1 := n0_; have HO1_1 := n1_; have BK303 := n2_; have HK := n3_; have HB := n4_; have BK304 := n5_; have GW304 := n6_; have GE304 := n7_; have NB303_304 := n8_; have NB304_303 := n9_; clear n0_ n1_ n2_ n3_ n4_ n5_ n6_ n7_ n8_ n9_ hb hbox hg) | ((with_reducible refine gate_dst (N := 4) rfl ?_); refine box_event ?hg (N := 4) ?hd (cs := #[.bool false, .slice none 0 0, .int .i64 0]) (t := 64) ?hr ?_; (case hd => rfl); (case hg => rfl); (case hr => first | (go_simp; done) | (go_simp; rfl)); intro gb305 hg w20 hbox hb; have n0_ := A0_ (Kd.R_below (by exact rm_ HO0_1.out) hb); have n1_ := A0_ (Kd.R_below (by exact rm_ HO1_1.out) hb); have n2_ := A0_ (blk_below (bm_ BK303.out) hb); have n3_ := A0_ (blk_below (bm_ BK304.out) hb); have n4_ := A0_ (Kept.below (S := (fun k_ => P0_1_ k_ ∨ P1_1_ k_)) (by repeat (first | (with_reducible first | exact HK.out | apply Kept.alloc | apply Kept.drewN | apply Kept.drew | refine Kept.setCell ?_ (.inr GW303.out) _ | refine Kept.setCell ?_ (.inr GW304.out) _) | exact HK.out)) hb); have n5_ := A0_ (below_step (by repeat (first | (with_reducible first | exact qm_ HB.out | apply qA_ | apply qN_ | apply qD_ | refine below_set ?_ GE303.out | refine below_set ?_ GE304.out) | exact HB.out)) hb); have n6_ := A0_ (hbox); have n7_ := A0_ ((by rw [hg]; exact (by first | exact HK.out.1 | exact (show Kept w _ (fun k_ => P0_1_ k_ ∨ P1_1_ k_) from by repeat (first | (with_reducible first | exact HK.out | apply Kept.alloc | apply Kept.drewN | apply Kept.drew | refine Kept.setCell ?_ (.inr GW303.out) _ | refine Kept.setCell ?_ (.inr GW304.out) _) | exact HK.out)).1) : w.heap.size ≤ gb305)); have n8_ := A0_ ((by rw [hg]; exact (below_size (by repeat (first | (with_reducible first | exact qm_ HB.out | apply qA_ | apply qN_ | apply qD_ | refine below_set ?_ GE303.out | refine below_set ?_ GE304.out) | exact HB.out))) : w0.heap.size ≤ gb305)); have n9_ := A0_ ((by rw [hg]; exact Nat.ne_of_lt (blk_lt (bm_ BK303.out)) : gb303 ≠ gb305)); have n10_ := A0_ ((by rw [hg]; exact Nat.ne_of_gt (blk_lt (bm_ BK303.out)) : gb305 ≠ gb303)); have n11_ := A0_ ((by rw [hg]; exact Nat.ne_of_lt (blk_lt (bm_ BK304.out)) : gb304 ≠ gb305)); have n12_ := A0_ ((by rw [hg]; exact Nat.ne_of_gt (blk_lt (bm_ BK304.out)) : gb305 ≠ gb304)); clear HO0_1 HO1_1 BK303 BK304 HK HB; have HO0_1 := n0_; have HO1_1 := n1_; have BK303 := n2_; have BK304 := n3_; have HK := n4_; have HB := n5_; have BK305 := n6_; have GW305 := n7_; have GE305 := n8_; have NB303_305 := n9_; have NB305_303 := n10_; have NB304_305 := n11_; have NB305_304 := n12_; clear n0_ n1_ n2_ n3_ n4_ n5_ n6_ n7_ n8_ n9_ n10_ n11_ n12_ hb hbox hg; have hnb21 := NB303_304.out; have hnc21 := NB304_303.out; have hnb22 := NB303_305.out; have hnc22 := NB305_303.out; have hcz23 := bc3_ BK303.out; have hfz23 := bf3_ BK303.out; have hnb24 := NB304_305.out; have hnc24 := NB305_304.out; have hcz25 := bc3_ BK304.out; have hfz25 := bf3_ BK304.out; have hcz26 := bc3_ BK305.out; have hfz26 := bf3_ BK305.out))
   refine bodyPost_ret (results_cell_row rfl _ _ gb305 64 #[.bool a0_0, .slice Ao16 l0_1.length co16, .int .i64 a0_2] (0, 0) _ rfl (by (with_reducible repeat first | apply bN_ | apply bD_ | apply bA_); refine blk_put (cs := #[.bool a0_0, .slice Ao16 l0_1.length co16, .int .i64 0]) ?_ 2 _ rfl; (with_reducible repeat first | apply bN_ | apply bD_ | apply bA_); refine blk_put (cs := #[.bool a0_0, .slice none 0 0, .int .i64 0]) ?_ 1 _ rfl; (with_reducible repeat first | apply bN_ | apply bD_ | apply bA_); refine blk_put (cs := #[.bool false, .slice none 0 0, .int .i64 0]) ?_ 0 _ rfl; (with_reducible repeat first | apply bN_ | apply bD_ | apply bA_); exact BK305.out) Try.underlying64 rfl (by kernel_rfl)) rfl ?_
   exact ⟨_, by first | rfl | (simp [errW_none, errW_some] <;> rfl) | (simp [*, errW_none, errW_some] <;> rfl), by (with_reducible repeat (first | apply Kd.R_alloc | apply Kd.R_drewN | apply Kd.R_drew)); exact Kd.R_mono (Kd.R_far (p := ⟨gb305, 2, none⟩) (Kd.R_far (p := ⟨gb305, 1, none⟩) (Kd.R_far (p := ⟨gb305, 0, none⟩) (Kd.R_types HO0_1.out BK305.out (by decide)) (fun _ hk => hk.2) (.bool a0_0)) (fun _ hk => hk.2) (.slice Ao16 l0_1.length co16)) (fun _ hk => hk.2) (.int .i64 a0_2)) (fun _ hk => hk.1.1), by repeat (first | (with_reducible first | exact qm_ HB.out | apply qA_ | apply qN_ | apply qD_ | refine below_set ?_ GE303.out | refine below_set ?_ GE304.out | refine below_set ?_ GE305.out) | exact HB.out), by repeat (first | (with_reducible first | exact HK.out | apply Kept.alloc | apply Kept.drewN | apply Kept.drew | refine Kept.setCell ?_ (.inr GW303.out) _ | refine Kept.setCell ?_ (.inr GW304.out) _ | refine Kept.setCell ?_ (.inr GW305.out) _) | exact HK.out)⟩
  ·rw [if_neg c15] at H
   have c15b0 : ((l1_1.length : Int) == 0) = false := beq_eq_false_iff_ne.mpr c15
   have c15b1 : ((l1_1.length : Int) != 0) = true := bne_iff_ne.mpr c15
   have c15b2 : ¬ (l1_1 = []) := fun h_ => c15 (by rw [h_]; rfl)
   have HC27 := A0_ H
   clear H
   obtain ⟨Ao28, co28, eo28⟩ := Kd.R_slice HO0_1.out
   subst eo28
   go_enter Try.func80, Try.ntmps80
   go_upto_if 23 with (first | ((with_reducible refine gate_dst (N := 2) rfl ?_); refine box_event ?hg (N := 2) ?hd (cs := #[.bool a0_0, .slice Ao28 l0_1.length co28, .int .i64 a0_2]) (t := 64) ?hr ?_; (case hd => rfl); (case hg => rfl); (case hr => first | (go_simp; done) | (go_simp; rfl)); intro gb303 hg w29 hbox hb; have n0_ := A0_ (Kd.R_below (by exact rm_ HO0_1.out) hb); have n1_ := A0_ (Kd.R_below (by exact rm_ HO1_1.out) hb); have n2_ := A0_ (Kept.below (S := (fun k_ => P0_1_ k_ ∨ P1_1_ k_)) (by repeat (first | (with_reducible first | exact HK.out | apply Kept.alloc | apply Kept.drewN | apply Kept.drew) | exact HK.out)) hb); have n3_ := A0_ (below_step (qm_ HB.out) hb); have n4_ := A0_ (hbox); have n5_ := A0_ ((by rw [hg]; exact (by first | exact HK.out.1 | exact (show Kept w _ (fun k_ => P0_1_ k_ ∨ P1_1_ k_) from by repeat (first | (with_reducible first | exact HK.out | apply Kept.alloc | apply Kept.drewN | apply Kept.drew) | exact HK.out)).1) : w.heap.size ≤ gb303)); have n6_ := A0_ ((by rw [hg]; exact (below_size (qm_ HB.out)) : w0.heap.size ≤ gb303)); clear HO0_1 HO1_1 HK HB; have HO0_1 := n0_; have HO1_1 := n1_; have HK := n2_; have HB := n3_; have BK303 := n4_; have GW303 := n5_; have GE303 := n6_; clear n0_ n1_ n2_ n3_ n4_ n5_ n6_ hb hbox hg; obtain ⟨Ao30, co30, eo30⟩ := Kd.R_slice HO1_1.out; subst eo30) | ((with_reducible refine gate_dst (N := 3) rfl ?_); refine box_event ?hg (N := 3) ?hd (cs := #[.bool a1_0, .slice Ao30 l1_1.length co30, .int .i64 a1_2]) (t := 64) ?hr ?_; (case hd => rfl); (case hg => rfl); (case hr => first | (go_simp; done) | (go_simp; rfl)); intro gb304 hg w31 hbox hb; have n0_ := A0_ (Kd.R_below (by exact rm_ HO0_1.out) hb); have n1_ := A0_ (Kd.R_below (by exact rm_ HO1_1.out) hb); have n2_ := A0_ (blk_below (bm_ BK303.out) hb); have n3_ := A0_ (Kept.below (S := (fun k_ => P0_1_ k_ ∨ P1_1_ k_)) (by repeat (first | (with_reducible first | exact HK.out | apply Kept.alloc | apply Kept.drewN | apply Kept.drew | refine Kept.setCell ?_ (.inr GW303.out) _) | exact HK.out)) hb); have n4_ := A0_ (below_step (by repeat (first | (with_reducible first | exact qm_ HB.out | apply qA_ | apply qN_ | apply qD_ | refine below_set ?_ GE303.out) | exact HB.out)) hb); have n5_ := A0_ (hbox); have n6_ := A0_ ((by rw [hg]; exact (by first | exact HK.out.1 | exact (show Kept w _ (fun k_ => P0_1_ k_ ∨ P1_1_ k_) from by repeat (first | (with_reducible first | exact HK.out | apply Kept.alloc | apply Kept.drewN | apply Kept.drew | refine Kept.setCell ?_ (.inr GW303.out) _) | exact HK.out)).1) : w.heap.size ≤ gb304)); have n7_ := A0_ ((by rw [hg]; exact (below_size (by repeat (first | (with_reducible first | exact qm_ HB.out | apply qA_ | apply qN_ | apply qD_ | refine below_set ?_ GE303.out) | exact HB.out))) : w0.heap.size ≤ gb304)); have n8_ := A0_ ((by rw [hg]; exact Nat.ne_of_lt (blk_lt (bm_ BK303.out)) : gb303 ≠ gb304)); have n9_ := A0_ ((by rw [hg]; exact Nat.ne_of_gt (blk_lt (bm_ BK303.out)) : gb304 ≠ gb303)); clear HO0_1 HO1_1 BK303 HK HB; have HO0_1 := n0_; have HO1_1 := n1_; have BK303 := n2_; have HK := n3_; have HB := n4_; have BK304 := n5_; have GW304 := n6_; have GE304 := n7_; have NB303_304 := n8_; have NB304_303 := n9_; clear n0_ n1_ n2_ n3_ n4_ n5_ n6_ n7_ n8_ n9_ hb hbox hg) | ((with_reducible refine gate_dst (N := 4) rfl ?_); refine box_event ?hg (N := 4) ?hd (cs := #[.bool false, .slice none 0 0, .int .i64 0]) (t := 64) ?hr ?_; (case hd => rfl); (case hg => rfl); (case hr => first | (go_simp; done) | (go_simp; rfl)); intro gb305 hg w32 hbox hb; have n0_ := A0_ (Kd.R_below (by exact rm_ HO0_1.out) hb); have n1_ := A0_ (Kd.R_below (by exact rm_ HO1_1.out) hb); have n2_ := A0_ (blk_below (bm_ BK303.out) hb); have n3_ := A0_ (blk_below (bm_ BK304.out) hb); have n4_ := A0_ (Kept.below (S := (fun k_ => P0_1_ k_ ∨ P1_1_ k_)) (by repeat (first | (with_reducible first | exact HK.out | apply Kept.alloc | apply Kept.drewN | apply Kept.drew | refine Kept.setCell ?_ (.inr GW303.out) _ | refine Kept.setCell ?_ (.inr GW304.out) _) | exact HK.out)) hb); have n5_ := A0_ (below_step (by repeat (first | (with_reducible first | exact qm_ HB.out | apply qA_ | apply qN_ | apply qD_ | refine below_set ?_ GE303.out | refine below_set ?_ GE304.out) | exact HB.out)) hb); have n6_ := A0_ (hbox); have n7_ := A0_ ((by rw [hg]; exact (by first | exact HK.out.1 | exact (show Kept w _ (fun k_ => P0_1_ k_ ∨ P1_1_ k_) from by repeat (first | (with_reducible first | exact HK.out | apply Kept.alloc | apply Kept.drewN | apply Kept.drew | refine Kept.setCell ?_ (.inr GW303.out) _ | refine Kept.setCell ?_ (.inr GW304.out) _) | exact HK.out)).1) : w.heap.size ≤ gb305)); have n8_ := A0_ ((by rw [hg]; exact (below_size (by repeat (first | (with_reducible first | exact qm_ HB.out | apply qA_ | apply qN_ | apply qD_ | refine below_set ?_ GE303.out | refine below_set ?_ GE304.out) | exact HB.out))) : w0.heap.size ≤ gb305)); have n9_ := A0_ ((by rw [hg]; exact Nat.ne_of_lt (blk_lt (bm_ BK303.out)) : gb303 ≠ gb305)); have n10_ := A0_ ((by rw [hg]; exact Nat.ne_of_gt (blk_lt (bm_ BK303.out)) : gb305 ≠ gb303)); have n11_ := A0_ ((by rw [hg]; exact Nat.ne_of_lt (blk_lt (bm_ BK304.out)) : gb304 ≠ gb305)); have n12_ := A0_ ((by rw [hg]; exact Nat.ne_of_gt (blk_lt (bm_ BK304.out)) : gb305 ≠ gb304)); clear HO0_1 HO1_1 BK303 BK304 HK HB; have HO0_1 := n0_; have HO1_1 := n1_; have BK303 := n2_; have BK304 := n3_; have HK := n4_; have HB := n5_; have BK305 := n6_; have GW305 := n7_; have GE305 := n8_; have NB303_305 := n9_; have NB305_303 := n10_; have NB304_305 := n11_; have NB305_304 := n12_; clear n0_ n1_ n2_ n3_ n4_ n5_ n6_ n7_ n8_ n9_ n10_ n11_ n12_ hb hbox hg; have hnb33 := NB303_304.out; have hnc33 := NB304_303.out; have hnb34 := NB303_305.out; have hnc34 := NB305_303.out; have hcz35 := bc3_ BK303.out; have hfz35 := bf3_ BK303.out; have hnb36 := NB304_305.out; have hnc36 := NB305_304.out; have hcz37 := bc3_ BK304.out; have hfz37 := bf3_ BK304.out))
   (try simp only [Act.put, sp_])
   go_cut [5] (fun v5 wc => ∃ (kq : Nat) (x5_26 : Int), v5 = .int .i64 x5_26 ∧ Aside0 (cutplaneref02_Add.j0 kq x5_26 a0_0 l0_1 a0_2 a1_0 l1_1 a1_2 = some (r1, r2, r3)) ∧ Aside0 (kq ≤ k) ∧ Aside0 (Kd.R (Kd.int .u32) 103 wc w0.heap.size (fun k_ => ((P0_1_ k_ ∨ P1_1_ k_) ∨ w.heap.size ≤ k_) ∧ some k_ ≠ ((.slice Ao30 l1_1.length co30) : Value).ownBlock) (.slice Ao28 l0_1.length co28) l0_1) ∧ Aside0 (Kd.R (Kd.int .u32) 103 wc w0.heap.size (fun k_ => ((P0_1_ k_ ∨ P1_1_ k_) ∨ w.heap.size ≤ k_) ∧ some k_ ≠ ((.slice Ao28 l0_1.length co28) : Value).ownBlock) (.slice Ao30 l1_1.length co30) l1_1) ∧ Aside0 (wc.heap[gb303]? = some (.cells #[.bool a0_0, (.slice Ao28 l0_1.length co28), .int .i64 a0_2] 64 (0, 0))) ∧ Aside0 (wc.heap[gb304]? = some (.cells #[.bool a1_0, (.slice Ao30 l1_1.length co30), .int .i64 a1_2] 64 (0, 0))) ∧ Aside0 (wc.heap[gb305]? = some (.cells #[.bool false, (.slice none 0 0), .int .i64 0] 64 (0, 0))) ∧ Aside0 (Kept w wc (fun k_ => P0_1_ k_ ∨ P1_1_ k_)) ∧ Aside0 (Below w0.heap.size w0 wc))
   case first =>
    have H := HC27.out
    clear HC27
    by_cases c38 : a1_2 < a0_2
    ·rw [if_pos c38] at H
     have c38b0 : decide (a1_2 < a0_2) = true := decide_eq_true c38
     clear c38
     (first | rw [c38b0] | (simp only [i64_w, i32_w]; rw [c38b0]) | skip)
     have H' := A0_ H
     clear H
     have hnb39 := NB304_303.out
     have hnc39 := NB303_304.out
     have hnb40 := NB304_305.out
     have hnc40 := NB305_304.out
     have hcz41 := bc3_ BK304.out
     have hfz41 := bf3_ BK304.out
     go_wp2
     go_meet
     case rel => exact ⟨_, (a1_2), (by first | rfl | (simp; done) | (simp [*]; done)), H', ⟨by first | omega | exact Nat.le_refl _⟩, ⟨by exact rm_ HO0_1.out⟩, ⟨by exact rm_ HO1_1.out⟩, ⟨bm_ BK303.out⟩, ⟨bm_ BK304.out⟩, ⟨bm_ BK305.out⟩, ⟨by repeat (first | (with_reducible first | exact HK.out | apply Kept.alloc | apply Kept.drewN | apply Kept.drew | refine Kept.setCell ?_ (.inr GW303.out) _ | refine Kept.setCell ?_ (.inr GW304.out) _ | refine Kept.setCell ?_ (.inr GW305.out) _) | exact HK.out)⟩, ⟨by repeat (first | (with_reducible first | exact qm_ HB.out | apply qA_ | apply qN_ | apply qD_ | refine below_set ?_ GE303.out | refine below_set ?_ GE304.out | refine below_set ?_ GE305.out) | exact HB.out)⟩⟩
    ·rw [if_neg c38] at H
     have c38b0 : decide (a1_2 < a0_2) = false := decide_eq_false c38
     clear c38
     (first | rw [c38b0] | (simp only [i64_w, i32_w]; rw [c38b0]) | skip)
     have H' := A0_ H
     clear H
     go_wp2
     go_meet
     case rel => exact ⟨_, (a0_2), (by first | rfl | (simp; done) | (simp [*]; done)), H', ⟨by first | omega | exact Nat.le_refl _⟩, ⟨by exact rm_ HO0_1.out⟩, ⟨by exact rm_ HO1_1.out⟩, ⟨bm_ BK303.out⟩, ⟨bm_ BK304.out⟩, ⟨bm_ BK305.out⟩, ⟨by repeat (first | (with_reducible first | exact HK.out | apply Kept.alloc | apply Kept.drewN | apply Kept.drew | refine Kept.setCell ?_ (.inr GW303.out) _ | refine Kept.setCell ?_ (.inr GW304.out) _ | refine Kept.setCell ?_ (.inr GW305.out) _) | exact HK.out)⟩, ⟨by repeat (first | (with_reducible first | exact qm_ HB.out | apply qA_ | apply qN_ | apply qD_ | refine below_set ?_ GE303.out | refine below_set ?_ GE304.out | refine below_set ?_ GE305.out) | exact HB.out)⟩⟩
   case rest =>
    clear HC27
    try clear c1
    try clear p1
    try clear c2
    try clear p2
    try clear c3
    try clear c3b0
    try clear c3b1
    try clear c3b2
    try clear c4
    try clear c8
    try clear c9
    try clear c10
    try clear c12
    try clear c15
    try clear c15b0
    try clear c15b1
    try clear c15b2
    try clear c21
    try clear c22
    try clear c24
    try clear c33
    try clear c34
    try clear c36
    try clear c38
    try clear c38b0
    try clear c39
    try clear c40
    try clear hcz11
    try clear hcz13
    try clear hcz14
    try clear hcz23
    try clear hcz25
    try clear hcz26
    try clear hcz35
    try clear hcz37
    try clear hcz41
    try clear hfz11
    try clear hfz13
    try clear hfz14
    try clear hfz23
    try clear hfz25
    try clear hfz26
    try clear hfz35
    try clear hfz37
    try clear hfz41
    obtain ⟨kq, x5_26, rfl, HA, HJ26, HO_304001, HO_305001, BK303, BK304, BK305, HK, HB⟩ := hcut
    cases kq with
    | zero => exact absurd HA.out (by simp [cutplaneref02_Add.j0])
    | succ kj26 =>
     have H := HA.out
     clear HA
     simp only [cutplaneref02_Add.j0] at H
     replace H := Option.bind_eq_some_iff.mp H
     obtain ⟨t306, A420, H⟩ := H
     replace H : ((cutplaneref01_Up.f kj26 l1_1 (wrap64 (a1_2 - x5_26))).bind fun t309 => (if (a0_0 == a1_0) = true then ((cutplaneref01_Add.f kj26 t306 t309).bind fun t312 => ((cutplaneref02_Form.f kj26 a0_0 t312 x5_26).bind fun bt315 => (some (bt315.1, bt315.2.1, bt315.2.2)))) else ((cutplaneref01_Cmp.f kj26 t306 t309).bind fun t320 => (if t320 ≥ 0 then ((cutplaneref01_Sub.f kj26 t306 t309).bind fun t321 => ((cutplaneref02_Form.f kj26 a0_0 t321 x5_26).bind fun bt324 => (some (bt324.1, bt324.2.1, bt324.2.2)))) else ((cutplaneref01_Sub.f kj26 t309 t306).bind fun t329 => ((cutplaneref02_Form.f kj26 a1_0 t329 x5_26).bind fun bt332 => (some (bt332.1, bt332.2.1, bt332.2.2)))))))) = some (r1, r2, r3) := H
     have A42 := A0_ A420
     clear A420
     replace H := Option.bind_eq_some_iff.mp H
     obtain ⟨t309, A430, H⟩ := H
     replace H : (if (a0_0 == a1_0) = true then ((cutplaneref01_Add.f kj26 t306 t309).bind fun t312 => ((cutplaneref02_Form.f kj26 a0_0 t312 x5_26).bind fun bt315 => (some (bt315.1, bt315.2.1, bt315.2.2)))) else ((cutplaneref01_Cmp.f kj26 t306 t309).bind fun t320 => (if t320 ≥ 0 then ((cutplaneref01_Sub.f kj26 t306 t309).bind fun t321 => ((cutplaneref02_Form.f kj26 a0_0 t321 x5_26).bind fun bt324 => (some (bt324.1, bt324.2.1, bt324.2.2)))) else ((cutplaneref01_Sub.f kj26 t309 t306).bind fun t329 => ((cutplaneref02_Form.f kj26 a1_0 t329 x5_26).bind fun bt332 => (some (bt332.1, bt332.2.1, bt332.2.2))))))) = some (r1, r2, r3) := H
     have A43 := A0_ A430
     clear A430
     by_cases c44 : (a0_0 == a1_0) = true
     ·rw [if_pos c44] at H
      have c44b0 : (a0_0 == a1_0) = true := c44
      (try (have c44b1 : decide (a0_0 = a1_0) = true := by simpa using c44))
      (try (have c44b2 : (a0_0 == a1_0) = true := by simpa using c44))
      clear c44
      replace H := Option.bind_eq_some_iff.mp H
      obtain ⟨t312, A450, H⟩ := H
      replace H : ((cutplaneref02_Form.f kj26 a0_0 t312 x5_26).bind fun bt315 => (some (bt315.1, bt315.2.1, bt315.2.2))) = some (r1, r2, r3) := H
      have A45 := A0_ A450
      clear A450
      replace H := Option.bind_eq_some_iff.mp H
      obtain ⟨⟨t315, t316, t319⟩, A460, H⟩ := H
      replace H : (some (t315, t316, t319)) = some (r1, r2, r3) := H
      have A46 := A0_ A460
      clear A460
      simp only [Option.some.injEq, Prod.mk.injEq] at H
      obtain ⟨rfl, rfl, rfl⟩ := H
      have hnb47 := NB303_304.out
      have hnc47 := NB304_303.out
      have hnb48 := NB303_305.out
      have hnc48 := NB305_303.out
      have hcz49 := bc3_ BK303.out
      have hfz49 := bf3_ BK303.out
      try go_wp2_with (first | ((with_reducible refine gate_callee (f := 96) rfl ?_); refine goesL_ (some 32) rfl rfl Try.func96 (by kernel_rfl) rfl #[.slice Ao28 l0_1.length co28, .int .i64 (wrap64 (a0_2 - x5_26))] rfl (by (try simp only [List.map_toArray, List.map_cons, List.map_nil]); first | done | rfl | (simp only [List.length_drop, List.length_take]; rfl)) ?_; (with_reducible refine (cutplaneref01_Up.calls kj26 _ _ l0_1 (wrap64 (a0_2 - x5_26)) t306 _ ?side1 ?side2 A42.out).mono ?_); (case side1 => repeat (first | exact (Kd.R_reads' HO_304001.out).2.2 | (with_reducible refine Kd.C_alloc ?_ _) | (with_reducible refine Kd.C_drewN ?_ _) | (with_reducible refine Kd.C_drew ?_))); (case side2 => exact (Kd.R_reads' HO_304001.out).2.1); rintro e w50 ⟨v307, rfl, ho0, hb⟩; refine ⟨_, rfl, ?_⟩; have n0_ := A0_ (Kd.R_elder' (by exact rm_ HO_304001.out) (Kd.R_base ho0) hb); have n1_ := A0_ (Kd.R_elder' (by exact rm_ HO_305001.out) (Kd.R_base ho0) hb); have n2_ := A0_ (Kd.R_lower (Kd.R_new' (Kd.R_new' (Kd.R_newM (M := fun k_ => ((P0_1_ k_ ∨ P1_1_ k_) ∨ w.heap.size ≤ k_)) ho0 (by first | exact HK.out.1 | exact (show Kept w _ (fun k_ => P0_1_ k_ ∨ P1_1_ k_) from by repeat (first | (with_reducible first | exact HK.out | apply Kept.alloc | apply Kept.drewN | apply Kept.drew | refine Kept.setCell ?_ (.inr GW303.out) _ | refine Kept.setCell ?_ (.inr GW304.out) _ | refine Kept.setCell ?_ (.inr GW305.out) _) | exact HK.out)).1) (fun k_ h_ => .inr h_)) (Kd.R_lt (by exact rm_ HO_304001.out))) (Kd.R_lt (by exact rm_ HO_305001.out))) (below_size (by repeat (first | (with_reducible first | exact qm_ HB.out | apply qA_ | apply qN_ | apply qD_ | refine below_set ?_ GE303.out | refine below_set ?_ GE304.out | refine below_set ?_ GE305.out) | exact HB.out)))); have n3_ := A0_ (blk_below (bm_ BK303.out) hb); have n4_ := A0_ (blk_below (bm_ BK304.out) hb); have n5_ := A0_ (blk_below (bm_ BK305.out) hb); have n6_ := A0_ (Kept.below (S := (fun k_ => P0_1_ k_ ∨ P1_1_ k_)) (by repeat (first | (with_reducible first | exact HK.out | apply Kept.alloc | apply Kept.drewN | apply Kept.drew | refine Kept.setCell ?_ (.inr GW303.out) _ | refine Kept.setCell ?_ (.inr GW304.out) _ | refine Kept.setCell ?_ (.inr GW305.out) _) | exact HK.out)) hb); have n7_ := A0_ (below_step (by repeat (first | (with_reducible first | exact qm_ HB.out | apply qA_ | apply qN_ | apply qD_ | refine below_set ?_ GE303.out | refine below_set ?_ GE304.out | refine below_set ?_ GE305.out) | exact HB.out)) hb); clear HO_304001 HO_305001 BK303 BK304 BK305 HK HB; have HO_304001 := n0_; have HO_305001 := n1_; have HO308 := n2_; have BK303 := n3_; have BK304 := n4_; have BK305 := n5_; have HK := n6_; have HB := n7_; clear n0_ n1_ n2_ n3_ n4_ n5_ n6_ n7_; (try clear hb); (try clear ho0); have hnb51 := NB304_305.out; have hnc51 := NB305_304.out; have hcz52 := bc3_ BK304.out; have hfz52 := bf3_ BK304.out) | ((with_reducible refine gate_callee (f := 96) rfl ?_); refine goesL_ (some 39) rfl rfl Try.func96 (by kernel_rfl) rfl #[.slice Ao30 l1_1.length co30, .int .i64 (wrap64 (a1_2 - x5_26))] rfl (by (try simp only [List.map_toArray, List.map_cons, List.map_nil]); first | done | rfl | (simp only [List.length_drop, List.length_take]; rfl)) ?_; (with_reducible refine (cutplaneref01_Up.calls kj26 _ _ l1_1 (wrap64 (a1_2 - x5_26)) t309 _ ?side1 ?side2 A43.out).mono ?_); (case side1 => repeat (first | exact (Kd.R_reads' HO_305001.out).2.2 | (with_reducible refine Kd.C_alloc ?_ _) | (with_reducible refine Kd.C_drewN ?_ _) | (with_reducible refine Kd.C_drew ?_))); (case side2 => exact (Kd.R_reads' HO_305001.out).2.1); rintro e w53 ⟨v310, rfl, ho0, hb⟩; refine ⟨_, rfl, ?_⟩; have n0_ := A0_ (Kd.R_elder' (by exact rm_ HO_304001.out) (Kd.R_base ho0) hb); have n1_ := A0_ (Kd.R_elder' (by exact rm_ HO_305001.out) (Kd.R_base ho0) hb); have n2_ := A0_ (Kd.R_elder' (by exact rm_ HO308.out) (Kd.R_base ho0) hb); have n3_ := A0_ (Kd.R_lower (Kd.R_new' (Kd.R_new' (Kd.R_new' (Kd.R_newM (M := fun k_ => ((P0_1_ k_ ∨ P1_1_ k_) ∨ w.heap.size ≤ k_)) ho0 (by first | exact HK.out.1 | exact (show Kept w _ (fun k_ => P0_1_ k_ ∨ P1_1_ k_) from by repeat (first | (with_reducible first | exact HK.out | apply Kept.alloc | apply Kept.drewN | apply Kept.drew | refine Kept.setCell ?_ (.inr GW303.out) _ | refine Kept.setCell ?_ (.inr GW304.out) _ | refine Kept.setCell ?_ (.inr GW305.out) _) | exact HK.out)).1) (fun k_ h_ => .inr h_)) (Kd.R_lt (by exact rm_ HO_304001.out))) (Kd.R_lt (by exact rm_ HO_305001.out))) (Kd.R_lt (by exact rm_ HO308.out))) (below_size (by repeat (first | (with_reducible first | exact qm_ HB.out | apply qA_ | apply qN_ | apply qD_ | refine below_set ?_ GE303.out | refine below_set ?_ GE304.out | refine below_set ?_ GE305.out) | exact HB.out)))); have n4_ := A0_ (blk_below (bm_ BK303.out) hb); have n5_ := A0_ (blk_below (bm_ BK304.out) hb); have n6_ := A0_ (blk_below (bm_ BK305.out) hb); have n7_ := A0_ (Kept.below (S := (fun k_ => P0_1_ k_ ∨ P1_1_ k_)) (by repeat (first | (with_reducible first | exact HK.out | apply Kept.alloc | apply Kept.drewN | apply Kept.drew | refine Kept.setCell ?_ (.inr GW303.out) _ | refine Kept.setCell ?_ (.inr GW304.out) _ | refine Kept.setCell ?_ (.inr GW305.out) _) | exact HK.out)) hb); have n8_ := A0_ (below_step (by repeat (first | (with_reducible first | exact qm_ HB.out | apply qA_ | apply qN_ | apply qD_ | refine below_set ?_ GE303.out | refine below_set ?_ GE304.out | refine below_set ?_ GE305.out) | exact HB.out)) hb); clear HO_304001 HO_305001 HO308 BK303 BK304 BK305 HK HB; have HO_304001 := n0_; have HO_305001 := n1_; have HO308 := n2_; have HO311 := n3_; have BK303 := n4_; have BK304 := n5_; have BK305 := n6_; have HK := n7_; have HB := n8_; clear n0_ n1_ n2_ n3_ n4_ n5_ n6_ n7_ n8_; (try clear hb); (try clear ho0); have hcz54 := bc3_ BK303.out; have hfz54 := bf3_ BK303.out; have hcz55 := bc3_ BK304.out; have hfz55 := bf3_ BK304.out))
      have n0_ := A0_ (Kd.R_drew HO_304001.out)
      have n1_ := A0_ (Kd.R_drew HO_305001.out)
      have n2_ := A0_ (Kd.R_drew HO308.out)
      have n3_ := A0_ (Kd.R_drew HO311.out)
      have n4_ := A0_ (blk_drew BK303.out)
      have n5_ := A0_ (blk_drew BK304.out)
      have n6_ := A0_ (blk_drew BK305.out)
      have n7_ := A0_ (Kept.drew HK.out)
      have n8_ := A0_ (below_drew1 HB.out)
      clear HO_304001 HO_305001 HO308 HO311 BK303 BK304 BK305 HK HB
      have HO_304001 := n0_
      have HO_305001 := n1_
      have HO308 := n2_
      have HO311 := n3_
      have BK303 := n4_
      have BK304 := n5_
      have BK305 := n6_
      have HK := n7_
      have HB := n8_
      clear n0_ n1_ n2_ n3_ n4_ n5_ n6_ n7_ n8_
      obtain ⟨Ao57, co57, eo57⟩ := Kd.R_slice HO308.out
      (first | subst eo57 | (injection eo57 with f1_ f2_ f3_; have f4_ := f1_.symm; have f5_ := f3_.symm; clear f1_ f2_ f3_; subst f4_; subst f5_))
      obtain ⟨Ao58, co58, eo58⟩ := Kd.R_slice HO311.out
      (first | subst eo58 | (injection eo58 with f1_ f2_ f3_; have f4_ := f1_.symm; have f5_ := f3_.symm; clear f1_ f2_ f3_; subst f4_; subst f5_))
      refine start_ (n := 8) (S := fun w' => w'.cell? ⟨gb303, 0, none⟩ = some (.bool a0_0) ∧ w'.cell? ⟨gb303, 1, none⟩ = some (.slice Ao28 l0_1.length co28) ∧ w'.cell? ⟨gb303, 2, none⟩ = some (.int .i64 a0_2)) (ds := []) #[false, false, false, false, false, false, false, false] (by kernel_rfl) rfl rfl ⟨bC_ BK303.out 0, bC_ BK303.out 1, bC_ BK303.out 2⟩ (fun hHeld => ?_); refine with_tabW cutplaneref02_Add.tab11 cutplaneref02_Add.bits11 (fun HT_ HW_ => ?_)
      generalize w53.drew = w56 at HO_304001 HO_305001 HO308 HO311 BK303 BK304 BK305 HK HB hHeld ⊢
      refine pure_ (i := 0) (N := some 45) (v := ?_) (a' := ?_) #[true, false, false, false, false, false, false, false] rfl rfl (any_of HT_.out (by kernel_rfl)) (fun _ _ _ h => h) (Or.inl ⟨by rfl, ?_⟩) ?_ ?_
      rotate_left
      ·intro w'
       go_simp
       with_reducible rfl
      rotate_left
      ·simp only [Act.put, sp_, i64_w, i32_w]
       rfl
      refine pure_ (i := 2) (N := some 47) (v := ?_) (a' := ?_) #[true, false, true, false, false, false, false, false] rfl rfl (any_of HT_.out (by kernel_rfl)) (fun _ _ _ h => h) (Or.inl ⟨by rfl, ?_⟩) ?_ ?_
      rotate_left
      ·intro w'
       go_simp
       with_reducible rfl
      rotate_left
      ·simp only [Act.put, sp_, i64_w, i32_w]
       rfl
      refine pure_ (i := 3) (N := some 48) (v := ?_) (a' := ?_) #[true, false, true, true, false, false, false, false] rfl rfl (any_of HT_.out (by kernel_rfl)) (fun _ _ _ h => h) (Or.inl ⟨by rfl, ?_⟩) ?_ ?_
      rotate_left
      ·intro w'
       go_simp
       with_reducible rfl
      rotate_left
      ·simp only [Act.put, sp_, i64_w, i32_w]
       rfl
      refine pure_ (i := 5) (N := some 50) (v := ?_) (a' := ?_) #[true, false, true, true, false, true, false, false] rfl rfl (any_of HT_.out (by kernel_rfl)) (fun _ _ _ h => h) (Or.inl ⟨by rfl, ?_⟩) ?_ ?_
      rotate_left
      ·intro w'
       go_simp
       with_reducible rfl
      rotate_left
      ·simp only [Act.put, sp_, i64_w, i32_w]
       rfl
      refine take_ (i := 1) (N := some 46) (v := ?_) (a' := ?_) #[true, true, true, true, false, true, false, false] rfl rfl (take_ofW HT_.out HW_.out (by kernel_rfl)) (fun _ _ _ h => h) (Or.inl ⟨by rfl, ?_⟩) hHeld ?_ ?_
      rotate_left
      ·rintro w' ⟨s0, s1, s2⟩
       go_simp
       with_reducible rfl
      rotate_left
      ·simp only [Act.put, sp_, i64_w, i32_w]
       rfl
      refine one_ (i := 4) (N := some 49) #[true, true, true, true, true, true, false, false] rfl rfl (one_of HT_.out (by kernel_rfl)) (by decide) (fun K hK => ?_)
      refine goes_ Try.func97 (by kernel_rfl) rfl #[.slice Ao57 t306.length co57, .slice Ao58 t309.length co58] (by rfl) rfl rfl (by (try simp only [List.map_toArray, List.map_cons, List.map_nil]); first | done | rfl | (simp only [List.length_drop, List.length_take]; rfl)) ?_
      with_reducible refine (cutplaneref01_Add.calls kj26 _ _ t306 _ _ t309 t312 _ ?side1 ?side2 ?side3 ?side4 A45.out).mono ?_
      (case side1 => repeat (first | exact (Kd.R_reads' HO308.out).2.2 | (with_reducible refine Kd.C_alloc ?_ _) | (with_reducible refine Kd.C_drewN ?_ _) | (with_reducible refine Kd.C_drew ?_)))
      (case side2 => exact (Kd.R_reads' HO308.out).2.1)
      (case side3 => repeat (first | exact (Kd.R_reads' HO311.out).2.2 | (with_reducible refine Kd.C_alloc ?_ _) | (with_reducible refine Kd.C_drewN ?_ _) | (with_reducible refine Kd.C_drew ?_)))
      (case side4 => exact (Kd.R_reads' HO311.out).2.1)
      rintro e w59 ⟨v313, rfl, ho0, hb⟩
      refine ⟨_, rfl, ?_⟩
      have n0_ := A0_ (Kd.R_elder' (by exact rm_ HO_304001.out) (Kd.R_base ho0) hb)
      have n1_ := A0_ (Kd.R_elder' (by exact rm_ HO_305001.out) (Kd.R_base ho0) hb)
      have n2_ := A0_ (Kd.R_elder' (by exact rm_ HO308.out) (Kd.R_base ho0) hb)
      have n3_ := A0_ (Kd.R_elder' (by exact rm_ HO311.out) (Kd.R_base ho0) hb)
      have n4_ := A0_ (Kd.R_lower (Kd.R_new' (Kd.R_new' (Kd.R_new' (Kd.R_new' (Kd.R_newM (M := fun k_ => ((P0_1_ k_ ∨ P1_1_ k_) ∨ w.heap.size ≤ k_)) ho0 (by first | exact HK.out.1 | exact (show Kept w _ (fun k_ => P0_1_ k_ ∨ P1_1_ k_) from by repeat (first | (with_reducible first | exact HK.out | apply Kept.alloc | apply Kept.drewN | apply Kept.drew | refine Kept.setCell ?_ (.inr GW303.out) _ | refine Kept.setCell ?_ (.inr GW304.out) _ | refine Kept.setCell ?_ (.inr GW305.out) _) | exact HK.out)).1) (fun k_ h_ => .inr h_)) (Kd.R_lt (by exact rm_ HO_304001.out))) (Kd.R_lt (by exact rm_ HO_305001.out))) (Kd.R_lt (by exact rm_ HO308.out))) (Kd.R_lt (by exact rm_ HO311.out))) (below_size (by repeat (first | (with_reducible first | exact qm_ HB.out | apply qA_ | apply qN_ | apply qD_ | refine below_set ?_ GE303.out | refine below_set ?_ GE304.out | refine below_set ?_ GE305.out) | exact HB.out))))
      have n5_ := A0_ (blk_below (bm_ BK303.out) hb)
      have n6_ := A0_ (blk_below (bm_ BK304.out) hb)
      have n7_ := A0_ (blk_below (bm_ BK305.out) hb)
      have n8_ := A0_ (Kept.below (S := (fun k_ => P0_1_ k_ ∨ P1_1_ k_)) (by repeat (first | (with_reducible first | exact HK.out | apply Kept.alloc | apply Kept.drewN | apply Kept.drew | refine Kept.setCell ?_ (.inr GW303.out) _ | refine Kept.setCell ?_ (.inr GW304.out) _ | refine Kept.setCell ?_ (.inr GW305.out) _) | exact HK.out)) hb)
      have n9_ := A0_ (below_step (by repeat (first | (with_reducible first | exact qm_ HB.out | apply qA_ | apply qN_ | apply qD_ | refine below_set ?_ GE303.out | refine below_set ?_ GE304.out | refine below_set ?_ GE305.out) | exact HB.out)) hb)
      clear HO_304001 HO_305001 HO308 HO311 BK303 BK304 BK305 HK HB
      have HO_304001 := n0_
      have HO_305001 := n1_
      have HO308 := n2_
      have HO311 := n3_
      have HO314 := n4_
      have BK303 := n5_
      have BK304 := n6_
      have BK305 := n7_
      have HK := n8_
      have HB := n9_
      clear n0_ n1_ n2_ n3_ n4_ n5_ n6_ n7_ n8_ n9_
      (try clear hb)
      (try clear ho0)
      obtain ⟨Ao60, co60, eo60⟩ := Kd.R_slice HO314.out
      (first | subst eo60 | (injection eo60 with f1_ f2_ f3_; have f4_ := f1_.symm; have f5_ := f3_.symm; clear f1_ f2_ f3_; subst f4_; subst f5_))
      refine hK.out _ _ ⟨bC_ BK303.out 0, bC_ BK303.out 1, bC_ BK303.out 2⟩ (fun hHeld => ?_)
      clear hK K
      refine norm_ (a' := ?_) ?_ ?_
      rotate_left
      ·show Act.put _ (some 49) _ = _
       simp only [Act.put, sp_, i64_w, i32_w]
       rfl
      refine one_ (i := 6) (N := some 51) #[true, true, true, true, true, true, true, false] rfl rfl (one_of HT_.out (by kernel_rfl)) (by decide) (fun K hK => ?_)
      refine goes_ Try.func63 (by kernel_rfl) rfl #[.bool a0_0, .slice Ao60 t312.length co60, .int .i64 x5_26] (by rfl) rfl rfl (by (try simp only [List.map_toArray, List.map_cons, List.map_nil]); first | done | rfl | (simp only [List.length_drop, List.length_take]; rfl)) ?_
      with_reducible refine (cutplaneref02_Form.calls kj26 a0_0 _ _ t312 x5_26 t315 t316 t319 _ ?side1 ?side2 A46.out).mono ?_
      (case side1 => repeat (first | exact (Kd.R_reads' HO314.out).2.2 | (with_reducible refine Kd.C_alloc ?_ _) | (with_reducible refine Kd.C_drewN ?_ _) | (with_reducible refine Kd.C_drew ?_)))
      (case side2 => exact (Kd.R_reads' HO314.out).2.1)
      rintro e w61 ⟨v317, rfl, ho0, hb⟩
      refine ⟨_, rfl, ?_⟩
      have n0_ := A0_ (Kd.R_elder' (by exact rm_ HO_304001.out) (Kd.R_base ho0) hb)
      have n1_ := A0_ (Kd.R_elder' (by exact rm_ HO_305001.out) (Kd.R_base ho0) hb)
      have n2_ := A0_ (Kd.R_elder' (by exact rm_ HO308.out) (Kd.R_base ho0) hb)
      have n3_ := A0_ (Kd.R_elder' (by exact rm_ HO311.out) (Kd.R_base ho0) hb)
      have n4_ := A0_ (Kd.R_elder' (by exact rm_ HO314.out) (Kd.R_base ho0) hb)
      have n5_ := A0_ (Kd.R_lower (Kd.R_new' (Kd.R_new' (Kd.R_new' (Kd.R_new' (Kd.R_new' (Kd.R_newM (M := fun k_ => ((P0_1_ k_ ∨ P1_1_ k_) ∨ w.heap.size ≤ k_)) ho0 (by first | exact HK.out.1 | exact (show Kept w _ (fun k_ => P0_1_ k_ ∨ P1_1_ k_) from by repeat (first | (with_reducible first | exact HK.out | apply Kept.alloc | apply Kept.drewN | apply Kept.drew | refine Kept.setCell ?_ (.inr GW303.out) _ | refine Kept.setCell ?_ (.inr GW304.out) _ | refine Kept.setCell ?_ (.inr GW305.out) _) | exact HK.out)).1) (fun k_ h_ => .inr h_)) (Kd.R_lt (by exact rm_ HO_304001.out))) (Kd.R_lt (by exact rm_ HO_305001.out))) (Kd.R_lt (by exact rm_ HO308.out))) (Kd.R_lt (by exact rm_ HO311.out))) (Kd.R_lt (by exact rm_ HO314.out))) (below_size (by repeat (first | (with_reducible first | exact qm_ HB.out | apply qA_ | apply qN_ | apply qD_ | refine below_set ?_ GE303.out | refine below_set ?_ GE304.out | refine below_set ?_ GE305.out) | exact HB.out))))
      have n6_ := A0_ (blk_below (bm_ BK303.out) hb)
      have n7_ := A0_ (blk_below (bm_ BK304.out) hb)
      have n8_ := A0_ (blk_below (bm_ BK305.out) hb)
      have n9_ := A0_ (Kept.below (S := (fun k_ => P0_1_ k_ ∨ P1_1_ k_)) (by repeat (first | (with_reducible first | exact HK.out | apply Kept.alloc | apply Kept.drewN | apply Kept.drew | refine Kept.setCell ?_ (.inr GW303.out) _ | refine Kept.setCell ?_ (.inr GW304.out) _ | refine Kept.setCell ?_ (.inr GW305.out) _) | exact HK.out)) hb)
      have n10_ := A0_ (below_step (by repeat (first | (with_reducible first | exact qm_ HB.out | apply qA_ | apply qN_ | apply qD_ | refine below_set ?_ GE303.out | refine below_set ?_ GE304.out | refine below_set ?_ GE305.out) | exact HB.out)) hb)
      clear HO_304001 HO_305001 HO308 HO311 HO314 BK303 BK304 BK305 HK HB
      have HO_304001 := n0_
      have HO_305001 := n1_
      have HO308 := n2_
      have HO311 := n3_
      have HO314 := n4_
      have HO318 := n5_
      have BK303 := n6_
      have BK304 := n7_
      have BK305 := n8_
      have HK := n9_
      have HB := n10_
      clear n0_ n1_ n2_ n3_ n4_ n5_ n6_ n7_ n8_ n9_ n10_
      (try clear hb)
      (try clear ho0)
      obtain ⟨Ao63, co63, eo63⟩ := Kd.R_slice HO318.out
      (first | subst eo63 | (injection eo63 with f1_ f2_ f3_; have f4_ := f1_.symm; have f5_ := f3_.symm; clear f1_ f2_ f3_; subst f4_; subst f5_))
      refine hK.out _ _ ⟨bC_ BK303.out 0, bC_ BK303.out 1, bC_ BK303.out 2⟩ (fun hHeld => ?_)
      clear hK K
      refine norm_ (a' := ?_) ?_ ?_
      rotate_left
      ·show Act.put _ (some 51) _ = _
       simp only [Act.put, sp_, i64_w, i32_w]
       rfl
      refine one_ (i := 7) (N := none) #[true, true, true, true, true, true, true, true] rfl rfl (one_of HT_.out (by kernel_rfl)) (by decide) (fun K hK => ?_)
      have hs62 : w61.cell? ⟨gb305, 0, none⟩ = some (.bool false) := (blk_cell BK305.out 0).trans rfl
      have hfs62 := blk_frozen BK305.out 0
      have hns62_0 := NB303_305.out
      have hns62_1 := NB304_305.out
      have hms62_0 := NB305_303.out
      have hms62_1 := NB305_304.out
      have hs64 : w61.cell? ⟨gb305, 1, none⟩ = some (.slice none 0 0) := (blk_cell BK305.out 1).trans rfl
      have hfs64 := blk_frozen BK305.out 1
      have hns64_0 := NB303_305.out
      have hns64_1 := NB304_305.out
      have hms64_0 := NB305_303.out
      have hms64_1 := NB305_304.out
      have hs65 : w61.cell? ⟨gb305, 2, none⟩ = some (.int .i64 0) := (blk_cell BK305.out 2).trans rfl
      have hfs65 := blk_frozen BK305.out 2
      have hns65_0 := NB303_305.out
      have hns65_1 := NB304_305.out
      have hms65_0 := NB305_303.out
      have hms65_1 := NB305_304.out
      refine skip_ (w1 := ?_) (by rfl) rfl ?_ ?_
      rotate_left
      ·go_simp
       rfl
      refine hK.out _ _ ⟨((cell_far (p := ⟨gb305, _, none⟩) NB303_305.out _).trans (((cell_far (p := ⟨gb305, _, none⟩) NB303_305.out _).trans (((cell_far (p := ⟨gb305, _, none⟩) NB303_305.out _).trans (hHeld.1)))))), ((cell_far (p := ⟨gb305, _, none⟩) NB303_305.out _).trans (((cell_far (p := ⟨gb305, _, none⟩) NB303_305.out _).trans (((cell_far (p := ⟨gb305, _, none⟩) NB303_305.out _).trans (hHeld.2.1)))))), ((cell_far (p := ⟨gb305, _, none⟩) NB303_305.out _).trans (((cell_far (p := ⟨gb305, _, none⟩) NB303_305.out _).trans (((cell_far (p := ⟨gb305, _, none⟩) NB303_305.out _).trans (hHeld.2.2))))))⟩ (fun hHeld => ?_)
      clear hK K
      refine done_ (done_of HT_.out (by kernel_rfl)) ?_
      try go_wp2
      refine bodyPost_ret (results_cell_row rfl _ _ gb305 64 #[.bool t315, .slice Ao63 t316.length co63, .int .i64 t319] (0, 0) _ rfl (by (with_reducible repeat first | apply bN_ | apply bD_ | apply bA_); refine blk_put (cs := #[.bool t315, .slice Ao63 t316.length co63, .int .i64 0]) ?_ 2 _ rfl; (with_reducible repeat first | apply bN_ | apply bD_ | apply bA_); refine blk_put (cs := #[.bool t315, .slice none 0 0, .int .i64 0]) ?_ 1 _ rfl; (with_reducible repeat first | apply bN_ | apply bD_ | apply bA_); refine blk_put (cs := #[.bool false, .slice none 0 0, .int .i64 0]) ?_ 0 _ rfl; (with_reducible repeat first | apply bN_ | apply bD_ | apply bA_); exact BK305.out) Try.underlying64 rfl (by kernel_rfl)) rfl ?_
      exact ⟨_, by first | rfl | (simp [errW_none, errW_some] <;> rfl) | (simp [*, errW_none, errW_some] <;> rfl), by (with_reducible repeat (first | apply Kd.R_alloc | apply Kd.R_drewN | apply Kd.R_drew)); exact Kd.R_mono (Kd.R_far (p := ⟨gb305, 2, none⟩) (Kd.R_far (p := ⟨gb305, 1, none⟩) (Kd.R_far (p := ⟨gb305, 0, none⟩) (Kd.R_types HO318.out BK305.out (by decide)) (fun _ hk => hk.2) (.bool t315)) (fun _ hk => hk.2) (.slice Ao63 t316.length co63)) (fun _ hk => hk.2) (.int .i64 t319)) (fun _ hk => hk.1.1.1.1.1.1.1), by repeat (first | (with_reducible first | exact qm_ HB.out | apply qA_ | apply qN_ | apply qD_ | refine below_set ?_ GE303.out | refine below_set ?_ GE304.out | refine below_set ?_ GE305.out) | exact HB.out), by repeat (first | (with_reducible first | exact HK.out | apply Kept.alloc | apply Kept.drewN | apply Kept.drew | refine Kept.setCell ?_ (.inr GW303.out) _ | refine Kept.setCell ?_ (.inr GW304.out) _ | refine Kept.setCell ?_ (.inr GW305.out) _) | exact HK.out)⟩
     ·rw [if_neg c44] at H
      have c44b0 : (a0_0 == a1_0) = false := by simpa using c44
      (try (have c44b1 : decide (a0_0 = a1_0) = false := by simpa using c44))
      (try (have c44b2 : (a0_0 == a1_0) = false := by simpa using c44))
      (try (have c44b3 : ¬ (a0_0 = a1_0) := by simpa using c44))
      clear c44
      replace H := Option.bind_eq_some_iff.mp H
      obtain ⟨t320, A660, H⟩ := H
      replace H : (if t320 ≥ 0 then ((cutplaneref01_Sub.f kj26 t306 t309).bind fun t321 => ((cutplaneref02_Form.f kj26 a0_0 t321 x5_26).bind fun bt324 => (some (bt324.1, bt324.2.1, bt324.2.2)))) else ((cutplaneref01_Sub.f kj26 t309 t306).bind fun t329 => ((cutplaneref02_Form.f kj26 a1_0 t329 x5_26).bind fun bt332 => (some (bt332.1, bt332.2.1, bt332.2.2))))) = some (r1, r2, r3) := H
      have A66 := A0_ A660
      clear A660
      by_cases c67 : t320 ≥ 0
      ·rw [if_pos c67] at H
       have c67b0 : decide (0 ≤ t320) = true := decide_eq_true c67
       clear c67
       replace H := Option.bind_eq_some_iff.mp H
       obtain ⟨t321, A680, H⟩ := H
       replace H : ((cutplaneref02_Form.f kj26 a0_0 t321 x5_26).bind fun bt324 => (some (bt324.1, bt324.2.1, bt324.2.2))) = some (r1, r2, r3) := H
       have A68 := A0_ A680
       clear A680
       replace H := Option.bind_eq_some_iff.mp H
       obtain ⟨⟨t324, t325, t328⟩, A690, H⟩ := H
       replace H : (some (t324, t325, t328)) = some (r1, r2, r3) := H
       have A69 := A0_ A690
       clear A690
       simp only [Option.some.injEq, Prod.mk.injEq] at H
       obtain ⟨rfl, rfl, rfl⟩ := H
       have hnb70 := NB303_304.out
       have hnc70 := NB304_303.out
       have hnb71 := NB303_305.out
       have hnc71 := NB305_303.out
       have hcz72 := bc3_ BK303.out
       have hfz72 := bf3_ BK303.out
       try go_wp2_with (first | ((with_reducible refine gate_callee (f := 96) rfl ?_); refine goesL_ (some 32) rfl rfl Try.func96 (by kernel_rfl) rfl #[.slice Ao28 l0_1.length co28, .int .i64 (wrap64 (a0_2 - x5_26))] rfl (by (try simp only [List.map_toArray, List.map_cons, List.map_nil]); first | done | rfl | (simp only [List.length_drop, List.length_take]; rfl)) ?_; (with_reducible refine (cutplaneref01_Up.calls kj26 _ _ l0_1 (wrap64 (a0_2 - x5_26)) t306 _ ?side1 ?side2 A42.out).mono ?_); (case side1 => repeat (first | exact (Kd.R_reads' HO_304001.out).2.2 | (with_reducible refine Kd.C_alloc ?_ _) | (with_reducible refine Kd.C_drewN ?_ _) | (with_reducible refine Kd.C_drew ?_))); (case side2 => exact (Kd.R_reads' HO_304001.out).2.1); rintro e w73 ⟨v307, rfl, ho0, hb⟩; refine ⟨_, rfl, ?_⟩; have n0_ := A0_ (Kd.R_elder' (by exact rm_ HO_304001.out) (Kd.R_base ho0) hb); have n1_ := A0_ (Kd.R_elder' (by exact rm_ HO_305001.out) (Kd.R_base ho0) hb); have n2_ := A0_ (Kd.R_lower (Kd.R_new' (Kd.R_new' (Kd.R_newM (M := fun k_ => ((P0_1_ k_ ∨ P1_1_ k_) ∨ w.heap.size ≤ k_)) ho0 (by first | exact HK.out.1 | exact (show Kept w _ (fun k_ => P0_1_ k_ ∨ P1_1_ k_) from by repeat (first | (with_reducible first | exact HK.out | apply Kept.alloc | apply Kept.drewN | apply Kept.drew | refine Kept.setCell ?_ (.inr GW303.out) _ | refine Kept.setCell ?_ (.inr GW304.out) _ | refine Kept.setCell ?_ (.inr GW305.out) _) | exact HK.out)).1) (fun k_ h_ => .inr h_)) (Kd.R_lt (by exact rm_ HO_304001.out))) (Kd.R_lt (by exact rm_ HO_305001.out))) (below_size (by repeat (first | (with_reducible first | exact qm_ HB.out | apply qA_ | apply qN_ | apply qD_ | refine below_set ?_ GE303.out | refine below_set ?_ GE304.out | refine below_set ?_ GE305.out) | exact HB.out)))); have n3_ := A0_ (blk_below (bm_ BK303.out) hb); have n4_ := A0_ (blk_below (bm_ BK304.out) hb); have n5_ := A0_ (blk_below (bm_ BK305.out) hb); have n6_ := A0_ (Kept.below (S := (fun k_ => P0_1_ k_ ∨ P1_1_ k_)) (by repeat (first | (with_reducible first | exact HK.out | apply Kept.alloc | apply Kept.drewN | apply Kept.drew | refine Kept.setCell ?_ (.inr GW303.out) _ | refine Kept.setCell ?_ (.inr GW304.out) _ | refine Kept.setCell ?_ (.inr GW305.out) _) | exact HK.out)) hb); have n7_ := A0_ (below_step (by repeat (first | (with_reducible first | exact qm_ HB.out | apply qA_ | apply qN_ | apply qD_ | refine below_set ?_ GE303.out | refine below_set ?_ GE304.out | refine below_set ?_ GE305.out) | exact HB.out)) hb); clear HO_304001 HO_305001 BK303 BK304 BK305 HK HB; have HO_304001 := n0_; have HO_305001 := n1_; have HO308 := n2_; have BK303 := n3_; have BK304 := n4_; have BK305 := n5_; have HK := n6_; have HB := n7_; clear n0_ n1_ n2_ n3_ n4_ n5_ n6_ n7_; (try clear hb); (try clear ho0); have hnb74 := NB304_305.out; have hnc74 := NB305_304.out; have hcz75 := bc3_ BK304.out; have hfz75 := bf3_ BK304.out) | ((with_reducible refine gate_callee (f := 96) rfl ?_); refine goesL_ (some 39) rfl rfl Try.func96 (by kernel_rfl) rfl #[.slice Ao30 l1_1.length co30, .int .i64 (wrap64 (a1_2 - x5_26))] rfl (by (try simp only [List.map_toArray, List.map_cons, List.map_nil]); first | done | rfl | (simp only [List.length_drop, List.length_take]; rfl)) ?_; (with_reducible refine (cutplaneref01_Up.calls kj26 _ _ l1_1 (wrap64 (a1_2 - x5_26)) t309 _ ?side1 ?side2 A43.out).mono ?_); (case side1 => repeat (first | exact (Kd.R_reads' HO_305001.out).2.2 | (with_reducible refine Kd.C_alloc ?_ _) | (with_reducible refine Kd.C_drewN ?_ _) | (with_reducible refine Kd.C_drew ?_))); (case side2 => exact (Kd.R_reads' HO_305001.out).2.1); rintro e w76 ⟨v310, rfl, ho0, hb⟩; refine ⟨_, rfl, ?_⟩; have n0_ := A0_ (Kd.R_elder' (by exact rm_ HO_304001.out) (Kd.R_base ho0) hb); have n1_ := A0_ (Kd.R_elder' (by exact rm_ HO_305001.out) (Kd.R_base ho0) hb); have n2_ := A0_ (Kd.R_elder' (by exact rm_ HO308.out) (Kd.R_base ho0) hb); have n3_ := A0_ (Kd.R_lower (Kd.R_new' (Kd.R_new' (Kd.R_new' (Kd.R_newM (M := fun k_ => ((P0_1_ k_ ∨ P1_1_ k_) ∨ w.heap.size ≤ k_)) ho0 (by first | exact HK.out.1 | exact (show Kept w _ (fun k_ => P0_1_ k_ ∨ P1_1_ k_) from by repeat (first | (with_reducible first | exact HK.out | apply Kept.alloc | apply Kept.drewN | apply Kept.drew | refine Kept.setCell ?_ (.inr GW303.out) _ | refine Kept.setCell ?_ (.inr GW304.out) _ | refine Kept.setCell ?_ (.inr GW305.out) _) | exact HK.out)).1) (fun k_ h_ => .inr h_)) (Kd.R_lt (by exact rm_ HO_304001.out))) (Kd.R_lt (by exact rm_ HO_305001.out))) (Kd.R_lt (by exact rm_ HO308.out))) (below_size (by repeat (first | (with_reducible first | exact qm_ HB.out | apply qA_ | apply qN_ | apply qD_ | refine below_set ?_ GE303.out | refine below_set ?_ GE304.out | refine below_set ?_ GE305.out) | exact HB.out)))); have n4_ := A0_ (blk_below (bm_ BK303.out) hb); have n5_ := A0_ (blk_below (bm_ BK304.out) hb); have n6_ := A0_ (blk_below (bm_ BK305.out) hb); have n7_ := A0_ (Kept.below (S := (fun k_ => P0_1_ k_ ∨ P1_1_ k_)) (by repeat (first | (with_reducible first | exact HK.out | apply Kept.alloc | apply Kept.drewN | apply Kept.drew | refine Kept.setCell ?_ (.inr GW303.out) _ | refine Kept.setCell ?_ (.inr GW304.out) _ | refine Kept.setCell ?_ (.inr GW305.out) _) | exact HK.out)) hb); have n8_ := A0_ (below_step (by repeat (first | (with_reducible first | exact qm_ HB.out | apply qA_ | apply qN_ | apply qD_ | refine below_set ?_ GE303.out | refine below_set ?_ GE304.out | refine below_set ?_ GE305.out) | exact HB.out)) hb); clear HO_304001 HO_305001 HO308 BK303 BK304 BK305 HK HB; have HO_304001 := n0_; have HO_305001 := n1_; have HO308 := n2_; have HO311 := n3_; have BK303 := n4_; have BK304 := n5_; have BK305 := n6_; have HK := n7_; have HB := n8_; clear n0_ n1_ n2_ n3_ n4_ n5_ n6_ n7_ n8_; (try clear hb); (try clear ho0); have hcz77 := bc3_ BK303.out; have hfz77 := bf3_ BK303.out; have hcz78 := bc3_ BK304.out; have hfz78 := bf3_ BK304.out; obtain ⟨Ao79, co79, eo79⟩ := Kd.R_slice HO308.out; subst eo79; obtain ⟨Ao80, co80, eo80⟩ := Kd.R_slice HO311.out; subst eo80) | ((with_reducible refine gate_callee (f := 98) rfl ?_); refine goesL_ (some 54) rfl rfl Try.func98 (by kernel_rfl) rfl #[.slice Ao79 t306.length co79, .slice Ao80 t309.length co80] rfl (by (try simp only [List.map_toArray, List.map_cons, List.map_nil]); first | done | rfl | (simp only [List.length_drop, List.length_take]; rfl)) ?_; (with_reducible refine (cutplaneref01_Cmp.calls kj26 _ _ t306 _ _ t309 t320 _ ?side1 ?side2 ?side3 ?side4 A66.out).mono ?_); (case side1 => repeat (first | exact (Kd.R_reads' HO308.out).2.2 | (with_reducible refine Kd.C_alloc ?_ _) | (with_reducible refine Kd.C_drewN ?_ _) | (with_reducible refine Kd.C_drew ?_))); (case side2 => exact (Kd.R_reads' HO308.out).2.1); (case side3 => repeat (first | exact (Kd.R_reads' HO311.out).2.2 | (with_reducible refine Kd.C_alloc ?_ _) | (with_reducible refine Kd.C_drewN ?_ _) | (with_reducible refine Kd.C_drew ?_))); (case side4 => exact (Kd.R_reads' HO311.out).2.1); rintro e w' ⟨rfl, ⟨nd, rfl⟩⟩; refine ⟨_, rfl, ?_⟩; (try (rw [drewN_self w76]; generalize hq_ : World.drewN w76 _ = w76; have n0_ : Aside0 (Kd.R (Kd.int .u32) 103 w76 w0.heap.size (fun k_ => ((P0_1_ k_ ∨ P1_1_ k_) ∨ w.heap.size ≤ k_) ∧ some k_ ≠ (.slice Ao80 t309.length co80 : Value).ownBlock ∧ some k_ ≠ (.slice Ao28 l0_1.length co28 : Value).ownBlock ∧ some k_ ≠ (.slice Ao30 l1_1.length co30 : Value).ownBlock) (.slice Ao79 t306.length co79) t306) := ⟨by rw [← hq_]; exact (by (with_reducible repeat (first | apply Kd.R_alloc | apply Kd.R_drewN | apply Kd.R_drew)); exact Kd.R_mono HO308.out (fun _ hk => by first | exact ⟨hk.1.1.1.1, ⟨hk.2, ⟨hk.1.1.2, hk.1.2⟩⟩⟩ | (refine ⟨?_, ⟨?_, ⟨?_, ?_⟩⟩⟩ <;> first | exact hk.1 | exact hk.2 | exact hk.1.1 | exact hk.1.2 | exact hk.2.1 | exact hk.2.2 | exact hk.1.1.1 | exact hk.1.1.2 | exact hk.1.2.1 | exact hk.1.2.2 | exact hk.2.1.1 | exact hk.2.1.2 | exact hk.2.2.1 | exact hk.2.2.2 | exact hk.1.1.1.1 | exact hk.1.1.1.2 | exact hk.1.1.2.1 | exact hk.1.1.2.2 | exact hk.1.2.1.1 | exact hk.1.2.1.2 | exact hk.1.2.2.1 | exact hk.1.2.2.2 | exact hk.2.1.1.1 | exact hk.2.1.1.2 | exact hk.2.1.2.1 | exact hk.2.1.2.2 | exact hk.2.2.1.1 | exact hk.2.2.1.2 | exact hk.2.2.2.1 | exact hk.2.2.2.2 | exact hk.1.1.1.1.1 | exact hk.1.1.1.1.2 | exact hk.1.1.1.1.1.1 | exact hk.1.1.1.1.1.2 | exact hk.1.1.1.1.1.1.1 | exact hk.1.1.1.1.1.1.2 | exact hk.1.1.1.1.1.1.1.1 | exact hk.1.1.1.1.1.1.1.2 | exact hk.1.1.1.1.1.1.1.1.1 | exact hk.1.1.1.1.1.1.1.1.2 | exact hk.1.1.1.1.1.1.1.1.1.1 | exact hk.1.1.1.1.1.1.1.1.1.2 | exact hk.1.1.1.1.1.1.1.1.1.1.1 | exact hk.1.1.1.1.1.1.1.1.1.1.2 | exact hk.1.1.1.1.1.1.1.1.1.1.1.1 | exact hk.1.1.1.1.1.1.1.1.1.1.1.2)))⟩; have n1_ : Aside0 (Kd.R (Kd.int .u32) 103 w76 w0.heap.size (fun k_ => ((P0_1_ k_ ∨ P1_1_ k_) ∨ w.heap.size ≤ k_) ∧ some k_ ≠ (.slice Ao79 t306.length co79 : Value).ownBlock ∧ some k_ ≠ (.slice Ao28 l0_1.length co28 : Value).ownBlock ∧ some k_ ≠ (.slice Ao30 l1_1.length co30 : Value).ownBlock) (.slice Ao80 t309.length co80) t309) := ⟨by rw [← hq_]; exact (by (with_reducible repeat (first | apply Kd.R_alloc | apply Kd.R_drewN | apply Kd.R_drew)); exact Kd.R_mono HO311.out (fun _ hk => by first | exact ⟨hk.1.1.1.1, ⟨hk.2, ⟨hk.1.1.2, hk.1.2⟩⟩⟩ | (refine ⟨?_, ⟨?_, ⟨?_, ?_⟩⟩⟩ <;> first | exact hk.1 | exact hk.2 | exact hk.1.1 | exact hk.1.2 | exact hk.2.1 | exact hk.2.2 | exact hk.1.1.1 | exact hk.1.1.2 | exact hk.1.2.1 | exact hk.1.2.2 | exact hk.2.1.1 | exact hk.2.1.2 | exact hk.2.2.1 | exact hk.2.2.2 | exact hk.1.1.1.1 | exact hk.1.1.1.2 | exact hk.1.1.2.1 | exact hk.1.1.2.2 | exact hk.1.2.1.1 | exact hk.1.2.1.2 | exact hk.1.2.2.1 | exact hk.1.2.2.2 | exact hk.2.1.1.1 | exact hk.2.1.1.2 | exact hk.2.1.2.1 | exact hk.2.1.2.2 | exact hk.2.2.1.1 | exact hk.2.2.1.2 | exact hk.2.2.2.1 | exact hk.2.2.2.2 | exact hk.1.1.1.1.1 | exact hk.1.1.1.1.2 | exact hk.1.1.1.1.1.1 | exact hk.1.1.1.1.1.2 | exact hk.1.1.1.1.1.1.1 | exact hk.1.1.1.1.1.1.2 | exact hk.1.1.1.1.1.1.1.1 | exact hk.1.1.1.1.1.1.1.2 | exact hk.1.1.1.1.1.1.1.1.1 | exact hk.1.1.1.1.1.1.1.1.2 | exact hk.1.1.1.1.1.1.1.1.1.1 | exact hk.1.1.1.1.1.1.1.1.1.2 | exact hk.1.1.1.1.1.1.1.1.1.1.1 | exact hk.1.1.1.1.1.1.1.1.1.1.2 | exact hk.1.1.1.1.1.1.1.1.1.1.1.1 | exact hk.1.1.1.1.1.1.1.1.1.1.1.2)))⟩; have n2_ : Aside0 (Kd.R (Kd.int .u32) 103 w76 w0.heap.size (fun k_ => ((P0_1_ k_ ∨ P1_1_ k_) ∨ w.heap.size ≤ k_) ∧ some k_ ≠ (.slice Ao79 t306.length co79 : Value).ownBlock ∧ some k_ ≠ (.slice Ao80 t309.length co80 : Value).ownBlock ∧ some k_ ≠ (.slice Ao30 l1_1.length co30 : Value).ownBlock) (.slice Ao28 l0_1.length co28) l0_1) := ⟨by rw [← hq_]; exact (by (with_reducible repeat (first | apply Kd.R_alloc | apply Kd.R_drewN | apply Kd.R_drew)); exact Kd.R_mono HO_304001.out (fun _ hk => by first | exact ⟨hk.1.1.1, ⟨hk.1.2, ⟨hk.2, hk.1.1.2⟩⟩⟩ | (refine ⟨?_, ⟨?_, ⟨?_, ?_⟩⟩⟩ <;> first | exact hk.1 | exact hk.2 | exact hk.1.1 | exact hk.1.2 | exact hk.2.1 | exact hk.2.2 | exact hk.1.1.1 | exact hk.1.1.2 | exact hk.1.2.1 | exact hk.1.2.2 | exact hk.2.1.1 | exact hk.2.1.2 | exact hk.2.2.1 | exact hk.2.2.2 | exact hk.1.1.1.1 | exact hk.1.1.1.2 | exact hk.1.1.2.1 | exact hk.1.1.2.2 | exact hk.1.2.1.1 | exact hk.1.2.1.2 | exact hk.1.2.2.1 | exact hk.1.2.2.2 | exact hk.2.1.1.1 | exact hk.2.1.1.2 | exact hk.2.1.2.1 | exact hk.2.1.2.2 | exact hk.2.2.1.1 | exact hk.2.2.1.2 | exact hk.2.2.2.1 | exact hk.2.2.2.2 | exact hk.1.1.1.1.1 | exact hk.1.1.1.1.2 | exact hk.1.1.1.1.1.1 | exact hk.1.1.1.1.1.2 | exact hk.1.1.1.1.1.1.1 | exact hk.1.1.1.1.1.1.2 | exact hk.1.1.1.1.1.1.1.1 | exact hk.1.1.1.1.1.1.1.2 | exact hk.1.1.1.1.1.1.1.1.1 | exact hk.1.1.1.1.1.1.1.1.2 | exact hk.1.1.1.1.1.1.1.1.1.1 | exact hk.1.1.1.1.1.1.1.1.1.2 | exact hk.1.1.1.1.1.1.1.1.1.1.1 | exact hk.1.1.1.1.1.1.1.1.1.1.2 | exact hk.1.1.1.1.1.1.1.1.1.1.1.1 | exact hk.1.1.1.1.1.1.1.1.1.1.1.2)))⟩; have n3_ : Aside0 (Kd.R (Kd.int .u32) 103 w76 w0.heap.size (fun k_ => ((P0_1_ k_ ∨ P1_1_ k_) ∨ w.heap.size ≤ k_) ∧ some k_ ≠ (.slice Ao79 t306.length co79 : Value).ownBlock ∧ some k_ ≠ (.slice Ao80 t309.length co80 : Value).ownBlock ∧ some k_ ≠ (.slice Ao28 l0_1.length co28 : Value).ownBlock) (.slice Ao30 l1_1.length co30) l1_1) := ⟨by rw [← hq_]; exact (by (with_reducible repeat (first | apply Kd.R_alloc | apply Kd.R_drewN | apply Kd.R_drew)); exact Kd.R_mono HO_305001.out (fun _ hk => by first | exact ⟨hk.1.1.1, ⟨hk.1.2, ⟨hk.2, hk.1.1.2⟩⟩⟩ | (refine ⟨?_, ⟨?_, ⟨?_, ?_⟩⟩⟩ <;> first | exact hk.1 | exact hk.2 | exact hk.1.1 | exact hk.1.2 | exact hk.2.1 | exact hk.2.2 | exact hk.1.1.1 | exact hk.1.1.2 | exact hk.1.2.1 | exact hk.1.2.2 | exact hk.2.1.1 | exact hk.2.1.2 | exact hk.2.2.1 | exact hk.2.2.2 | exact hk.1.1.1.1 | exact hk.1.1.1.2 | exact hk.1.1.2.1 | exact hk.1.1.2.2 | exact hk.1.2.1.1 | exact hk.1.2.1.2 | exact hk.1.2.2.1 | exact hk.1.2.2.2 | exact hk.2.1.1.1 | exact hk.2.1.1.2 | exact hk.2.1.2.1 | exact hk.2.1.2.2 | exact hk.2.2.1.1 | exact hk.2.2.1.2 | exact hk.2.2.2.1 | exact hk.2.2.2.2 | exact hk.1.1.1.1.1 | exact hk.1.1.1.1.2 | exact hk.1.1.1.1.1.1 | exact hk.1.1.1.1.1.2 | exact hk.1.1.1.1.1.1.1 | exact hk.1.1.1.1.1.1.2 | exact hk.1.1.1.1.1.1.1.1 | exact hk.1.1.1.1.1.1.1.2 | exact hk.1.1.1.1.1.1.1.1.1 | exact hk.1.1.1.1.1.1.1.1.2 | exact hk.1.1.1.1.1.1.1.1.1.1 | exact hk.1.1.1.1.1.1.1.1.1.2 | exact hk.1.1.1.1.1.1.1.1.1.1.1 | exact hk.1.1.1.1.1.1.1.1.1.1.2 | exact hk.1.1.1.1.1.1.1.1.1.1.1.1 | exact hk.1.1.1.1.1.1.1.1.1.1.1.2)))⟩; have n4_ : Aside0 (w76.heap[gb303]? = some (.cells #[.bool a0_0, .slice Ao28 l0_1.length co28, .int .i64 a0_2] 64 (0, 0))) := ⟨by rw [← hq_]; exact (bm_ BK303.out)⟩; have n5_ : Aside0 (w76.heap[gb304]? = some (.cells #[.bool a1_0, .slice Ao30 l1_1.length co30, .int .i64 a1_2] 64 (0, 0))) := ⟨by rw [← hq_]; exact (bm_ BK304.out)⟩; have n6_ : Aside0 (w76.heap[gb305]? = some (.cells #[.bool false, .slice none 0 0, .int .i64 0] 64 (0, 0))) := ⟨by rw [← hq_]; exact (bm_ BK305.out)⟩; have n7_ : Aside0 (Kept w w76 (fun k_ => P0_1_ k_ ∨ P1_1_ k_)) := ⟨by rw [← hq_]; exact (by repeat (first | (with_reducible first | exact HK.out | apply Kept.alloc | apply Kept.drewN | apply Kept.drew | refine Kept.setCell ?_ (.inr GW303.out) _ | refine Kept.setCell ?_ (.inr GW304.out) _ | refine Kept.setCell ?_ (.inr GW305.out) _) | exact HK.out))⟩; have n8_ : Aside0 (Below w0.heap.size w0 w76) := ⟨by rw [← hq_]; exact (by repeat (first | (with_reducible first | exact qm_ HB.out | apply qA_ | apply qN_ | apply qD_ | refine below_set ?_ GE303.out | refine below_set ?_ GE304.out | refine below_set ?_ GE305.out) | exact HB.out))⟩; clear HO308 HO311 HO_304001 HO_305001 BK303 BK304 BK305 HK HB hq_; have HO308 := n0_; have HO311 := n1_; have HO_304001 := n2_; have HO_305001 := n3_; have BK303 := n4_; have BK304 := n5_; have BK305 := n6_; have HK := n7_; have HB := n8_; clear n0_ n1_ n2_ n3_ n4_ n5_ n6_ n7_ n8_))))
       have n0_ := A0_ (Kd.R_drew HO_304001.out)
       have n1_ := A0_ (Kd.R_drew HO_305001.out)
       have n2_ := A0_ (Kd.R_drew HO308.out)
       have n3_ := A0_ (Kd.R_drew HO311.out)
       have n4_ := A0_ (blk_drew BK303.out)
       have n5_ := A0_ (blk_drew BK304.out)
       have n6_ := A0_ (blk_drew BK305.out)
       have n7_ := A0_ (Kept.drew HK.out)
       have n8_ := A0_ (below_drew1 HB.out)
       clear HO_304001 HO_305001 HO308 HO311 BK303 BK304 BK305 HK HB
       have HO_304001 := n0_
       have HO_305001 := n1_
       have HO308 := n2_
       have HO311 := n3_
       have BK303 := n4_
       have BK304 := n5_
       have BK305 := n6_
       have HK := n7_
       have HB := n8_
       clear n0_ n1_ n2_ n3_ n4_ n5_ n6_ n7_ n8_
       refine start_ (n := 8) (S := fun w' => w'.cell? ⟨gb303, 0, none⟩ = some (.bool a0_0) ∧ w'.cell? ⟨gb303, 1, none⟩ = some (.slice Ao28 l0_1.length co28) ∧ w'.cell? ⟨gb303, 2, none⟩ = some (.int .i64 a0_2)) (ds := []) #[false, false, false, false, false, false, false, false] (by kernel_rfl) rfl rfl ⟨bC_ BK303.out 0, bC_ BK303.out 1, bC_ BK303.out 2⟩ (fun hHeld => ?_); refine with_tabW cutplaneref02_Add.tab13 cutplaneref02_Add.bits13 (fun HT_ HW_ => ?_)
       generalize w76.drew = w81 at HO_304001 HO_305001 HO308 HO311 BK303 BK304 BK305 HK HB hHeld ⊢
       refine pure_ (i := 0) (N := some 56) (v := ?_) (a' := ?_) #[true, false, false, false, false, false, false, false] rfl rfl (any_of HT_.out (by kernel_rfl)) (fun _ _ _ h => h) (Or.inl ⟨by rfl, ?_⟩) ?_ ?_
       rotate_left
       ·intro w'
        go_simp
        with_reducible rfl
       rotate_left
       ·simp only [Act.put, sp_, i64_w, i32_w]
        rfl
       refine pure_ (i := 2) (N := some 58) (v := ?_) (a' := ?_) #[true, false, true, false, false, false, false, false] rfl rfl (any_of HT_.out (by kernel_rfl)) (fun _ _ _ h => h) (Or.inl ⟨by rfl, ?_⟩) ?_ ?_
       rotate_left
       ·intro w'
        go_simp
        with_reducible rfl
       rotate_left
       ·simp only [Act.put, sp_, i64_w, i32_w]
        rfl
       refine pure_ (i := 3) (N := some 59) (v := ?_) (a' := ?_) #[true, false, true, true, false, false, false, false] rfl rfl (any_of HT_.out (by kernel_rfl)) (fun _ _ _ h => h) (Or.inl ⟨by rfl, ?_⟩) ?_ ?_
       rotate_left
       ·intro w'
        go_simp
        with_reducible rfl
       rotate_left
       ·simp only [Act.put, sp_, i64_w, i32_w]
        rfl
       refine pure_ (i := 5) (N := some 61) (v := ?_) (a' := ?_) #[true, false, true, true, false, true, false, false] rfl rfl (any_of HT_.out (by kernel_rfl)) (fun _ _ _ h => h) (Or.inl ⟨by rfl, ?_⟩) ?_ ?_
       rotate_left
       ·intro w'
        go_simp
        with_reducible rfl
       rotate_left
       ·simp only [Act.put, sp_, i64_w, i32_w]
        rfl
       refine take_ (i := 1) (N := some 57) (v := ?_) (a' := ?_) #[true, true, true, true, false, true, false, false] rfl rfl (take_ofW HT_.out HW_.out (by kernel_rfl)) (fun _ _ _ h => h) (Or.inl ⟨by rfl, ?_⟩) hHeld ?_ ?_
       rotate_left
       ·rintro w' ⟨s0, s1, s2⟩
        go_simp
        with_reducible rfl
       rotate_left
       ·simp only [Act.put, sp_, i64_w, i32_w]
        rfl
       refine one_ (i := 4) (N := some 60) #[true, true, true, true, true, true, false, false] rfl rfl (one_of HT_.out (by kernel_rfl)) (by decide) (fun K hK => ?_)
       refine goes_ Try.func99 (by kernel_rfl) rfl #[.slice Ao79 t306.length co79, .slice Ao80 t309.length co80] (by rfl) rfl rfl (by (try simp only [List.map_toArray, List.map_cons, List.map_nil]); first | done | rfl | (simp only [List.length_drop, List.length_take]; rfl)) ?_
       with_reducible refine (cutplaneref01_Sub.calls kj26 _ _ t306 _ _ t309 t321 _ ?side1 ?side2 ?side3 ?side4 A68.out).mono ?_
       (case side1 => repeat (first | exact (Kd.R_reads' HO308.out).2.2 | (with_reducible refine Kd.C_alloc ?_ _) | (with_reducible refine Kd.C_drewN ?_ _) | (with_reducible refine Kd.C_drew ?_)))
       (case side2 => exact (Kd.R_reads' HO308.out).2.1)
       (case side3 => repeat (first | exact (Kd.R_reads' HO311.out).2.2 | (with_reducible refine Kd.C_alloc ?_ _) | (with_reducible refine Kd.C_drewN ?_ _) | (with_reducible refine Kd.C_drew ?_)))
       (case side4 => exact (Kd.R_reads' HO311.out).2.1)
       rintro e w82 ⟨v322, rfl, ho0, hb⟩
       refine ⟨_, rfl, ?_⟩
       have n0_ := A0_ (Kd.R_elder' (by exact rm_ HO_304001.out) (Kd.R_base ho0) hb)
       have n1_ := A0_ (Kd.R_elder' (by exact rm_ HO_305001.out) (Kd.R_base ho0) hb)
       have n2_ := A0_ (Kd.R_elder' (by exact rm_ HO308.out) (Kd.R_base ho0) hb)
       have n3_ := A0_ (Kd.R_elder' (by exact rm_ HO311.out) (Kd.R_base ho0) hb)
       have n4_ := A0_ (Kd.R_lower (Kd.R_new' (Kd.R_new' (Kd.R_new' (Kd.R_new' (Kd.R_newM (M := fun k_ => ((P0_1_ k_ ∨ P1_1_ k_) ∨ w.heap.size ≤ k_)) ho0 (by first | exact HK.out.1 | exact (show Kept w _ (fun k_ => P0_1_ k_ ∨ P1_1_ k_) from by repeat (first | (with_reducible first | exact HK.out | apply Kept.alloc | apply Kept.drewN | apply Kept.drew | refine Kept.setCell ?_ (.inr GW303.out) _ | refine Kept.setCell ?_ (.inr GW304.out) _ | refine Kept.setCell ?_ (.inr GW305.out) _) | exact HK.out)).1) (fun k_ h_ => .inr h_)) (Kd.R_lt (by exact rm_ HO_304001.out))) (Kd.R_lt (by exact rm_ HO_305001.out))) (Kd.R_lt (by exact rm_ HO308.out))) (Kd.R_lt (by exact rm_ HO311.out))) (below_size (by repeat (first | (with_reducible first | exact qm_ HB.out | apply qA_ | apply qN_ | apply qD_ | refine below_set ?_ GE303.out | refine below_set ?_ GE304.out | refine below_set ?_ GE305.out) | exact HB.out))))
       have n5_ := A0_ (blk_below (bm_ BK303.out) hb)
       have n6_ := A0_ (blk_below (bm_ BK304.out) hb)
       have n7_ := A0_ (blk_below (bm_ BK305.out) hb)
       have n8_ := A0_ (Kept.below (S := (fun k_ => P0_1_ k_ ∨ P1_1_ k_)) (by repeat (first | (with_reducible first | exact HK.out | apply Kept.alloc | apply Kept.drewN | apply Kept.drew | refine Kept.setCell ?_ (.inr GW303.out) _ | refine Kept.setCell ?_ (.inr GW304.out) _ | refine Kept.setCell ?_ (.inr GW305.out) _) | exact HK.out)) hb)
       have n9_ := A0_ (below_step (by repeat (first | (with_reducible first | exact qm_ HB.out | apply qA_ | apply qN_ | apply qD_ | refine below_set ?_ GE303.out | refine below_set ?_ GE304.out | refine below_set ?_ GE305.out) | exact HB.out)) hb)
       clear HO_304001 HO_305001 HO308 HO311 BK303 BK304 BK305 HK HB
       have HO_304001 := n0_
       have HO_305001 := n1_
       have HO308 := n2_
       have HO311 := n3_
       have HO323 := n4_
       have BK303 := n5_
       have BK304 := n6_
       have BK305 := n7_
       have HK := n8_
       have HB := n9_
       clear n0_ n1_ n2_ n3_ n4_ n5_ n6_ n7_ n8_ n9_
       (try clear hb)
       (try clear ho0)
       obtain ⟨Ao83, co83, eo83⟩ := Kd.R_slice HO323.out
       (first | subst eo83 | (injection eo83 with f1_ f2_ f3_; have f4_ := f1_.symm; have f5_ := f3_.symm; clear f1_ f2_ f3_; subst f4_; subst f5_))
       refine hK.out _ _ ⟨bC_ BK303.out 0, bC_ BK303.out 1, bC_ BK303.out 2⟩ (fun hHeld => ?_)
       clear hK K
       refine norm_ (a' := ?_) ?_ ?_
       rotate_left
       ·show Act.put _ (some 60) _ = _
        simp only [Act.put, sp_, i64_w, i32_w]
        rfl
       refine one_ (i := 6) (N := some 62) #[true, true, true, true, true, true, true, false] rfl rfl (one_of HT_.out (by kernel_rfl)) (by decide) (fun K hK => ?_)
       refine goes_ Try.func63 (by kernel_rfl) rfl #[.bool a0_0, .slice Ao83 t321.length co83, .int .i64 x5_26] (by rfl) rfl rfl (by (try simp only [List.map_toArray, List.map_cons, List.map_nil]); first | done | rfl | (simp only [List.length_drop, List.length_take]; rfl)) ?_
       with_reducible refine (cutplaneref02_Form.calls kj26 a0_0 _ _ t321 x5_26 t324 t325 t328 _ ?side1 ?side2 A69.out).mono ?_
       (case side1 => repeat (first | exact (Kd.R_reads' HO323.out).2.2 | (with_reducible refine Kd.C_alloc ?_ _) | (with_reducible refine Kd.C_drewN ?_ _) | (with_reducible refine Kd.C_drew ?_)))
       (case side2 => exact (Kd.R_reads' HO323.out).2.1)
       rintro e w84 ⟨v326, rfl, ho0, hb⟩
       refine ⟨_, rfl, ?_⟩
       have n0_ := A0_ (Kd.R_elder' (by exact rm_ HO_304001.out) (Kd.R_base ho0) hb)
       have n1_ := A0_ (Kd.R_elder' (by exact rm_ HO_305001.out) (Kd.R_base ho0) hb)
       have n2_ := A0_ (Kd.R_elder' (by exact rm_ HO308.out) (Kd.R_base ho0) hb)
       have n3_ := A0_ (Kd.R_elder' (by exact rm_ HO311.out) (Kd.R_base ho0) hb)
       have n4_ := A0_ (Kd.R_elder' (by exact rm_ HO323.out) (Kd.R_base ho0) hb)
       have n5_ := A0_ (Kd.R_lower (Kd.R_new' (Kd.R_new' (Kd.R_new' (Kd.R_new' (Kd.R_new' (Kd.R_newM (M := fun k_ => ((P0_1_ k_ ∨ P1_1_ k_) ∨ w.heap.size ≤ k_)) ho0 (by first | exact HK.out.1 | exact (show Kept w _ (fun k_ => P0_1_ k_ ∨ P1_1_ k_) from by repeat (first | (with_reducible first | exact HK.out | apply Kept.alloc | apply Kept.drewN | apply Kept.drew | refine Kept.setCell ?_ (.inr GW303.out) _ | refine Kept.setCell ?_ (.inr GW304.out) _ | refine Kept.setCell ?_ (.inr GW305.out) _) | exact HK.out)).1) (fun k_ h_ => .inr h_)) (Kd.R_lt (by exact rm_ HO_304001.out))) (Kd.R_lt (by exact rm_ HO_305001.out))) (Kd.R_lt (by exact rm_ HO308.out))) (Kd.R_lt (by exact rm_ HO311.out))) (Kd.R_lt (by exact rm_ HO323.out))) (below_size (by repeat (first | (with_reducible first | exact qm_ HB.out | apply qA_ | apply qN_ | apply qD_ | refine below_set ?_ GE303.out | refine below_set ?_ GE304.out | refine below_set ?_ GE305.out) | exact HB.out))))
       have n6_ := A0_ (blk_below (bm_ BK303.out) hb)
       have n7_ := A0_ (blk_below (bm_ BK304.out) hb)
       have n8_ := A0_ (blk_below (bm_ BK305.out) hb)
       have n9_ := A0_ (Kept.below (S := (fun k_ => P0_1_ k_ ∨ P1_1_ k_)) (by repeat (first | (with_reducible first | exact HK.out | apply Kept.alloc | apply Kept.drewN | apply Kept.drew | refine Kept.setCell ?_ (.inr GW303.out) _ | refine Kept.setCell ?_ (.inr GW304.out) _ | refine Kept.setCell ?_ (.inr GW305.out) _) | exact HK.out)) hb)
       have n10_ := A0_ (below_step (by repeat (first | (with_reducible first | exact qm_ HB.out | apply qA_ | apply qN_ | apply qD_ | refine below_set ?_ GE303.out | refine below_set ?_ GE304.out | refine below_set ?_ GE305.out) | exact HB.out)) hb)
       clear HO_304001 HO_305001 HO308 HO311 HO323 BK303 BK304 BK305 HK HB
       have HO_304001 := n0_
       have HO_305001 := n1_
       have HO308 := n2_
       have HO311 := n3_
       have HO323 := n4_
       have HO327 := n5_
       have BK303 := n6_
       have BK304 := n7_
       have BK305 := n8_
       have HK := n9_
       have HB := n10_
       clear n0_ n1_ n2_ n3_ n4_ n5_ n6_ n7_ n8_ n9_ n10_
       (try clear hb)
       (try clear ho0)
       obtain ⟨Ao86, co86, eo86⟩ := Kd.R_slice HO327.out
       (first | subst eo86 | (injection eo86 with f1_ f2_ f3_; have f4_ := f1_.symm; have f5_ := f3_.symm; clear f1_ f2_ f3_; subst f4_; subst f5_))
       refine hK.out _ _ ⟨bC_ BK303.out 0, bC_ BK303.out 1, bC_ BK303.out 2⟩ (fun hHeld => ?_)
       clear hK K
       refine norm_ (a' := ?_) ?_ ?_
       rotate_left
       ·show Act.put _ (some 62) _ = _
        simp only [Act.put, sp_, i64_w, i32_w]
        rfl
       refine one_ (i := 7) (N := none) #[true, true, true, true, true, true, true, true] rfl rfl (one_of HT_.out (by kernel_rfl)) (by decide) (fun K hK => ?_)
       have hs85 : w84.cell? ⟨gb305, 0, none⟩ = some (.bool false) := (blk_cell BK305.out 0).trans rfl
       have hfs85 := blk_frozen BK305.out 0
       have hns85_0 := NB303_305.out
       have hns85_1 := NB304_305.out
       have hms85_0 := NB305_303.out
       have hms85_1 := NB305_304.out
       have hs87 : w84.cell? ⟨gb305, 1, none⟩ = some (.slice none 0 0) := (blk_cell BK305.out 1).trans rfl
       have hfs87 := blk_frozen BK305.out 1
       have hns87_0 := NB303_305.out
       have hns87_1 := NB304_305.out
       have hms87_0 := NB305_303.out
       have hms87_1 := NB305_304.out
       have hs88 : w84.cell? ⟨gb305, 2, none⟩ = some (.int .i64 0) := (blk_cell BK305.out 2).trans rfl
       have hfs88 := blk_frozen BK305.out 2
       have hns88_0 := NB303_305.out
       have hns88_1 := NB304_305.out
       have hms88_0 := NB305_303.out
       have hms88_1 := NB305_304.out
       refine skip_ (w1 := ?_) (by rfl) rfl ?_ ?_
       rotate_left
       ·go_simp
        rfl
       refine hK.out _ _ ⟨((cell_far (p := ⟨gb305, _, none⟩) NB303_305.out _).trans (((cell_far (p := ⟨gb305, _, none⟩) NB303_305.out _).trans (((cell_far (p := ⟨gb305, _, none⟩) NB303_305.out _).trans (hHeld.1)))))), ((cell_far (p := ⟨gb305, _, none⟩) NB303_305.out _).trans (((cell_far (p := ⟨gb305, _, none⟩) NB303_305.out _).trans (((cell_far (p := ⟨gb305, _, none⟩) NB303_305.out _).trans (hHeld.2.1)))))), ((cell_far (p := ⟨gb305, _, none⟩) NB303_305.out _).trans (((cell_far (p := ⟨gb305, _, none⟩) NB303_305.out _).trans (((cell_far (p := ⟨gb305, _, none⟩) NB303_305.out _).trans (hHeld.2.2))))))⟩ (fun hHeld => ?_)
       clear hK K
       refine done_ (done_of HT_.out (by kernel_rfl)) ?_
       try go_wp2
       refine bodyPost_ret (results_cell_row rfl _ _ gb305 64 #[.bool t324, .slice Ao86 t325.length co86, .int .i64 t328] (0, 0) _ rfl (by (with_reducible repeat first | apply bN_ | apply bD_ | apply bA_); refine blk_put (cs := #[.bool t324, .slice Ao86 t325.length co86, .int .i64 0]) ?_ 2 _ rfl; (with_reducible repeat first | apply bN_ | apply bD_ | apply bA_); refine blk_put (cs := #[.bool t324, .slice none 0 0, .int .i64 0]) ?_ 1 _ rfl; (with_reducible repeat first | apply bN_ | apply bD_ | apply bA_); refine blk_put (cs := #[.bool false, .slice none 0 0, .int .i64 0]) ?_ 0 _ rfl; (with_reducible repeat first | apply bN_ | apply bD_ | apply bA_); exact BK305.out) Try.underlying64 rfl (by kernel_rfl)) rfl ?_
       exact ⟨_, by first | rfl | (simp [errW_none, errW_some] <;> rfl) | (simp [*, errW_none, errW_some] <;> rfl), by (with_reducible repeat (first | apply Kd.R_alloc | apply Kd.R_drewN | apply Kd.R_drew)); exact Kd.R_mono (Kd.R_far (p := ⟨gb305, 2, none⟩) (Kd.R_far (p := ⟨gb305, 1, none⟩) (Kd.R_far (p := ⟨gb305, 0, none⟩) (Kd.R_types HO327.out BK305.out (by decide)) (fun _ hk => hk.2) (.bool t324)) (fun _ hk => hk.2) (.slice Ao86 t325.length co86)) (fun _ hk => hk.2) (.int .i64 t328)) (fun _ hk => hk.1.1.1.1.1.1.1), by repeat (first | (with_reducible first | exact qm_ HB.out | apply qA_ | apply qN_ | apply qD_ | refine below_set ?_ GE303.out | refine below_set ?_ GE304.out | refine below_set ?_ GE305.out) | exact HB.out), by repeat (first | (with_reducible first | exact HK.out | apply Kept.alloc | apply Kept.drewN | apply Kept.drew | refine Kept.setCell ?_ (.inr GW303.out) _ | refine Kept.setCell ?_ (.inr GW304.out) _ | refine Kept.setCell ?_ (.inr GW305.out) _) | exact HK.out)⟩
      ·rw [if_neg c67] at H
       have c67b0 : decide (0 ≤ t320) = false := decide_eq_false c67
       clear c67
       replace H := Option.bind_eq_some_iff.mp H
       obtain ⟨t329, A890, H⟩ := H
       replace H : ((cutplaneref02_Form.f kj26 a1_0 t329 x5_26).bind fun bt332 => (some (bt332.1, bt332.2.1, bt332.2.2))) = some (r1, r2, r3) := H
       have A89 := A0_ A890
       clear A890
       replace H := Option.bind_eq_some_iff.mp H
       obtain ⟨⟨t332, t333, t336⟩, A900, H⟩ := H
       replace H : (some (t332, t333, t336)) = some (r1, r2, r3) := H
       have A90 := A0_ A900
       clear A900
       simp only [Option.some.injEq, Prod.mk.injEq] at H
       obtain ⟨rfl, rfl, rfl⟩ := H
       have hnb91 := NB303_304.out
       have hnc91 := NB304_303.out
       have hnb92 := NB303_305.out
       have hnc92 := NB305_303.out
       have hcz93 := bc3_ BK303.out
       have hfz93 := bf3_ BK303.out
       try go_wp2_with (first | ((with_reducible refine gate_callee (f := 96) rfl ?_); refine goesL_ (some 32) rfl rfl Try.func96 (by kernel_rfl) rfl #[.slice Ao28 l0_1.length co28, .int .i64 (wrap64 (a0_2 - x5_26))] rfl (by (try simp only [List.map_toArray, List.map_cons, List.map_nil]); first | done | rfl | (simp only [List.length_drop, List.length_take]; rfl)) ?_; (with_reducible refine (cutplaneref01_Up.calls kj26 _ _ l0_1 (wrap64 (a0_2 - x5_26)) t306 _ ?side1 ?side2 A42.out).mono ?_); (case side1 => repeat (first | exact (Kd.R_reads' HO_304001.out).2.2 | (with_reducible refine Kd.C_alloc ?_ _) | (with_reducible refine Kd.C_drewN ?_ _) | (with_reducible refine Kd.C_drew ?_))); (case side2 => exact (Kd.R_reads' HO_304001.out).2.1); rintro e w94 ⟨v307, rfl, ho0, hb⟩; refine ⟨_, rfl, ?_⟩; have n0_ := A0_ (Kd.R_elder' (by exact rm_ HO_304001.out) (Kd.R_base ho0) hb); have n1_ := A0_ (Kd.R_elder' (by exact rm_ HO_305001.out) (Kd.R_base ho0) hb); have n2_ := A0_ (Kd.R_lower (Kd.R_new' (Kd.R_new' (Kd.R_newM (M := fun k_ => ((P0_1_ k_ ∨ P1_1_ k_) ∨ w.heap.size ≤ k_)) ho0 (by first | exact HK.out.1 | exact (show Kept w _ (fun k_ => P0_1_ k_ ∨ P1_1_ k_) from by repeat (first | (with_reducible first | exact HK.out | apply Kept.alloc | apply Kept.drewN | apply Kept.drew | refine Kept.setCell ?_ (.inr GW303.out) _ | refine Kept.setCell ?_ (.inr GW304.out) _ | refine Kept.setCell ?_ (.inr GW305.out) _) | exact HK.out)).1) (fun k_ h_ => .inr h_)) (Kd.R_lt (by exact rm_ HO_304001.out))) (Kd.R_lt (by exact rm_ HO_305001.out))) (below_size (by repeat (first | (with_reducible first | exact qm_ HB.out | apply qA_ | apply qN_ | apply qD_ | refine below_set ?_ GE303.out | refine below_set ?_ GE304.out | refine below_set ?_ GE305.out) | exact HB.out)))); have n3_ := A0_ (blk_below (bm_ BK303.out) hb); have n4_ := A0_ (blk_below (bm_ BK304.out) hb); have n5_ := A0_ (blk_below (bm_ BK305.out) hb); have n6_ := A0_ (Kept.below (S := (fun k_ => P0_1_ k_ ∨ P1_1_ k_)) (by repeat (first | (with_reducible first | exact HK.out | apply Kept.alloc | apply Kept.drewN | apply Kept.drew | refine Kept.setCell ?_ (.inr GW303.out) _ | refine Kept.setCell ?_ (.inr GW304.out) _ | refine Kept.setCell ?_ (.inr GW305.out) _) | exact HK.out)) hb); have n7_ := A0_ (below_step (by repeat (first | (with_reducible first | exact qm_ HB.out | apply qA_ | apply qN_ | apply qD_ | refine below_set ?_ GE303.out | refine below_set ?_ GE304.out | refine below_set ?_ GE305.out) | exact HB.out)) hb); clear HO_304001 HO_305001 BK303 BK304 BK305 HK HB; have HO_304001 := n0_; have HO_305001 := n1_; have HO308 := n2_; have BK303 := n3_; have BK304 := n4_; have BK305 := n5_; have HK := n6_; have HB := n7_; clear n0_ n1_ n2_ n3_ n4_ n5_ n6_ n7_; (try clear hb); (try clear ho0); have hnb95 := NB304_305.out; have hnc95 := NB305_304.out; have hcz96 := bc3_ BK304.out; have hfz96 := bf3_ BK304.out) | ((with_reducible refine gate_callee (f := 96) rfl ?_); refine goesL_ (some 39) rfl rfl Try.func96 (by kernel_rfl) rfl #[.slice Ao30 l1_1.length co30, .int .i64 (wrap64 (a1_2 - x5_26))] rfl (by (try simp only [List.map_toArray, List.map_cons, List.map_nil]); first | done | rfl | (simp only [List.length_drop, List.length_take]; rfl)) ?_; (with_reducible refine (cutplaneref01_Up.calls kj26 _ _ l1_1 (wrap64 (a1_2 - x5_26)) t309 _ ?side1 ?side2 A43.out).mono ?_); (case side1 => repeat (first | exact (Kd.R_reads' HO_305001.out).2.2 | (with_reducible refine Kd.C_alloc ?_ _) | (with_reducible refine Kd.C_drewN ?_ _) | (with_reducible refine Kd.C_drew ?_))); (case side2 => exact (Kd.R_reads' HO_305001.out).2.1); rintro e w97 ⟨v310, rfl, ho0, hb⟩; refine ⟨_, rfl, ?_⟩; have n0_ := A0_ (Kd.R_elder' (by exact rm_ HO_304001.out) (Kd.R_base ho0) hb); have n1_ := A0_ (Kd.R_elder' (by exact rm_ HO_305001.out) (Kd.R_base ho0) hb); have n2_ := A0_ (Kd.R_elder' (by exact rm_ HO308.out) (Kd.R_base ho0) hb); have n3_ := A0_ (Kd.R_lower (Kd.R_new' (Kd.R_new' (Kd.R_new' (Kd.R_newM (M := fun k_ => ((P0_1_ k_ ∨ P1_1_ k_) ∨ w.heap.size ≤ k_)) ho0 (by first | exact HK.out.1 | exact (show Kept w _ (fun k_ => P0_1_ k_ ∨ P1_1_ k_) from by repeat (first | (with_reducible first | exact HK.out | apply Kept.alloc | apply Kept.drewN | apply Kept.drew | refine Kept.setCell ?_ (.inr GW303.out) _ | refine Kept.setCell ?_ (.inr GW304.out) _ | refine Kept.setCell ?_ (.inr GW305.out) _) | exact HK.out)).1) (fun k_ h_ => .inr h_)) (Kd.R_lt (by exact rm_ HO_304001.out))) (Kd.R_lt (by exact rm_ HO_305001.out))) (Kd.R_lt (by exact rm_ HO308.out))) (below_size (by repeat (first | (with_reducible first | exact qm_ HB.out | apply qA_ | apply qN_ | apply qD_ | refine below_set ?_ GE303.out | refine below_set ?_ GE304.out | refine below_set ?_ GE305.out) | exact HB.out)))); have n4_ := A0_ (blk_below (bm_ BK303.out) hb); have n5_ := A0_ (blk_below (bm_ BK304.out) hb); have n6_ := A0_ (blk_below (bm_ BK305.out) hb); have n7_ := A0_ (Kept.below (S := (fun k_ => P0_1_ k_ ∨ P1_1_ k_)) (by repeat (first | (with_reducible first | exact HK.out | apply Kept.alloc | apply Kept.drewN | apply Kept.drew | refine Kept.setCell ?_ (.inr GW303.out) _ | refine Kept.setCell ?_ (.inr GW304.out) _ | refine Kept.setCell ?_ (.inr GW305.out) _) | exact HK.out)) hb); have n8_ := A0_ (below_step (by repeat (first | (with_reducible first | exact qm_ HB.out | apply qA_ | apply qN_ | apply qD_ | refine below_set ?_ GE303.out | refine below_set ?_ GE304.out | refine below_set ?_ GE305.out) | exact HB.out)) hb); clear HO_304001 HO_305001 HO308 BK303 BK304 BK305 HK HB; have HO_304001 := n0_; have HO_305001 := n1_; have HO308 := n2_; have HO311 := n3_; have BK303 := n4_; have BK304 := n5_; have BK305 := n6_; have HK := n7_; have HB := n8_; clear n0_ n1_ n2_ n3_ n4_ n5_ n6_ n7_ n8_; (try clear hb); (try clear ho0); have hcz98 := bc3_ BK303.out; have hfz98 := bf3_ BK303.out; have hcz99 := bc3_ BK304.out; have hfz99 := bf3_ BK304.out; obtain ⟨Ao100, co100, eo100⟩ := Kd.R_slice HO308.out; subst eo100; obtain ⟨Ao101, co101, eo101⟩ := Kd.R_slice HO311.out; subst eo101) | ((with_reducible refine gate_callee (f := 98) rfl ?_); refine goesL_ (some 54) rfl rfl Try.func98 (by kernel_rfl) rfl #[.slice Ao100 t306.length co100, .slice Ao101 t309.length co101] rfl (by (try simp only [List.map_toArray, List.map_cons, List.map_nil]); first | done | rfl | (simp only [List.length_drop, List.length_take]; rfl)) ?_; (with_reducible refine (cutplaneref01_Cmp.calls kj26 _ _ t306 _ _ t309 t320 _ ?side1 ?side2 ?side3 ?side4 A66.out).mono ?_); (case side1 => repeat (first | exact (Kd.R_reads' HO308.out).2.2 | (with_reducible refine Kd.C_alloc ?_ _) | (with_reducible refine Kd.C_drewN ?_ _) | (with_reducible refine Kd.C_drew ?_))); (case side2 => exact (Kd.R_reads' HO308.out).2.1); (case side3 => repeat (first | exact (Kd.R_reads' HO311.out).2.2 | (with_reducible refine Kd.C_alloc ?_ _) | (with_reducible refine Kd.C_drewN ?_ _) | (with_reducible refine Kd.C_drew ?_))); (case side4 => exact (Kd.R_reads' HO311.out).2.1); rintro e w' ⟨rfl, ⟨nd, rfl⟩⟩; refine ⟨_, rfl, ?_⟩; (try (rw [drewN_self w97]; generalize hq_ : World.drewN w97 _ = w97; have n0_ : Aside0 (Kd.R (Kd.int .u32) 103 w97 w0.heap.size (fun k_ => ((P0_1_ k_ ∨ P1_1_ k_) ∨ w.heap.size ≤ k_) ∧ some k_ ≠ (.slice Ao101 t309.length co101 : Value).ownBlock ∧ some k_ ≠ (.slice Ao28 l0_1.length co28 : Value).ownBlock ∧ some k_ ≠ (.slice Ao30 l1_1.length co30 : Value).ownBlock) (.slice Ao100 t306.length co100) t306) := ⟨by rw [← hq_]; exact (by (with_reducible repeat (first | apply Kd.R_alloc | apply Kd.R_drewN | apply Kd.R_drew)); exact Kd.R_mono HO308.out (fun _ hk => by first | exact ⟨hk.1.1.1.1, ⟨hk.2, ⟨hk.1.1.2, hk.1.2⟩⟩⟩ | (refine ⟨?_, ⟨?_, ⟨?_, ?_⟩⟩⟩ <;> first | exact hk.1 | exact hk.2 | exact hk.1.1 | exact hk.1.2 | exact hk.2.1 | exact hk.2.2 | exact hk.1.1.1 | exact hk.1.1.2 | exact hk.1.2.1 | exact hk.1.2.2 | exact hk.2.1.1 | exact hk.2.1.2 | exact hk.2.2.1 | exact hk.2.2.2 | exact hk.1.1.1.1 | exact hk.1.1.1.2 | exact hk.1.1.2.1 | exact hk.1.1.2.2 | exact hk.1.2.1.1 | exact hk.1.2.1.2 | exact hk.1.2.2.1 | exact hk.1.2.2.2 | exact hk.2.1.1.1 | exact hk.2.1.1.2 | exact hk.2.1.2.1 | exact hk.2.1.2.2 | exact hk.2.2.1.1 | exact hk.2.2.1.2 | exact hk.2.2.2.1 | exact hk.2.2.2.2 | exact hk.1.1.1.1.1 | exact hk.1.1.1.1.2 | exact hk.1.1.1.1.1.1 | exact hk.1.1.1.1.1.2 | exact hk.1.1.1.1.1.1.1 | exact hk.1.1.1.1.1.1.2 | exact hk.1.1.1.1.1.1.1.1 | exact hk.1.1.1.1.1.1.1.2 | exact hk.1.1.1.1.1.1.1.1.1 | exact hk.1.1.1.1.1.1.1.1.2 | exact hk.1.1.1.1.1.1.1.1.1.1 | exact hk.1.1.1.1.1.1.1.1.1.2 | exact hk.1.1.1.1.1.1.1.1.1.1.1 | exact hk.1.1.1.1.1.1.1.1.1.1.2 | exact hk.1.1.1.1.1.1.1.1.1.1.1.1 | exact hk.1.1.1.1.1.1.1.1.1.1.1.2)))⟩; have n1_ : Aside0 (Kd.R (Kd.int .u32) 103 w97 w0.heap.size (fun k_ => ((P0_1_ k_ ∨ P1_1_ k_) ∨ w.heap.size ≤ k_) ∧ some k_ ≠ (.slice Ao100 t306.length co100 : Value).ownBlock ∧ some k_ ≠ (.slice Ao28 l0_1.length co28 : Value).ownBlock ∧ some k_ ≠ (.slice Ao30 l1_1.length co30 : Value).ownBlock) (.slice Ao101 t309.length co101) t309) := ⟨by rw [← hq_]; exact (by (with_reducible repeat (first | apply Kd.R_alloc | apply Kd.R_drewN | apply Kd.R_drew)); exact Kd.R_mono HO311.out (fun _ hk => by first | exact ⟨hk.1.1.1.1, ⟨hk.2, ⟨hk.1.1.2, hk.1.2⟩⟩⟩ | (refine ⟨?_, ⟨?_, ⟨?_, ?_⟩⟩⟩ <;> first | exact hk.1 | exact hk.2 | exact hk.1.1 | exact hk.1.2 | exact hk.2.1 | exact hk.2.2 | exact hk.1.1.1 | exact hk.1.1.2 | exact hk.1.2.1 | exact hk.1.2.2 | exact hk.2.1.1 | exact hk.2.1.2 | exact hk.2.2.1 | exact hk.2.2.2 | exact hk.1.1.1.1 | exact hk.1.1.1.2 | exact hk.1.1.2.1 | exact hk.1.1.2.2 | exact hk.1.2.1.1 | exact hk.1.2.1.2 | exact hk.1.2.2.1 | exact hk.1.2.2.2 | exact hk.2.1.1.1 | exact hk.2.1.1.2 | exact hk.2.1.2.1 | exact hk.2.1.2.2 | exact hk.2.2.1.1 | exact hk.2.2.1.2 | exact hk.2.2.2.1 | exact hk.2.2.2.2 | exact hk.1.1.1.1.1 | exact hk.1.1.1.1.2 | exact hk.1.1.1.1.1.1 | exact hk.1.1.1.1.1.2 | exact hk.1.1.1.1.1.1.1 | exact hk.1.1.1.1.1.1.2 | exact hk.1.1.1.1.1.1.1.1 | exact hk.1.1.1.1.1.1.1.2 | exact hk.1.1.1.1.1.1.1.1.1 | exact hk.1.1.1.1.1.1.1.1.2 | exact hk.1.1.1.1.1.1.1.1.1.1 | exact hk.1.1.1.1.1.1.1.1.1.2 | exact hk.1.1.1.1.1.1.1.1.1.1.1 | exact hk.1.1.1.1.1.1.1.1.1.1.2 | exact hk.1.1.1.1.1.1.1.1.1.1.1.1 | exact hk.1.1.1.1.1.1.1.1.1.1.1.2)))⟩; have n2_ : Aside0 (Kd.R (Kd.int .u32) 103 w97 w0.heap.size (fun k_ => ((P0_1_ k_ ∨ P1_1_ k_) ∨ w.heap.size ≤ k_) ∧ some k_ ≠ (.slice Ao100 t306.length co100 : Value).ownBlock ∧ some k_ ≠ (.slice Ao101 t309.length co101 : Value).ownBlock ∧ some k_ ≠ (.slice Ao30 l1_1.length co30 : Value).ownBlock) (.slice Ao28 l0_1.length co28) l0_1) := ⟨by rw [← hq_]; exact (by (with_reducible repeat (first | apply Kd.R_alloc | apply Kd.R_drewN | apply Kd.R_drew)); exact Kd.R_mono HO_304001.out (fun _ hk => by first | exact ⟨hk.1.1.1, ⟨hk.1.2, ⟨hk.2, hk.1.1.2⟩⟩⟩ | (refine ⟨?_, ⟨?_, ⟨?_, ?_⟩⟩⟩ <;> first | exact hk.1 | exact hk.2 | exact hk.1.1 | exact hk.1.2 | exact hk.2.1 | exact hk.2.2 | exact hk.1.1.1 | exact hk.1.1.2 | exact hk.1.2.1 | exact hk.1.2.2 | exact hk.2.1.1 | exact hk.2.1.2 | exact hk.2.2.1 | exact hk.2.2.2 | exact hk.1.1.1.1 | exact hk.1.1.1.2 | exact hk.1.1.2.1 | exact hk.1.1.2.2 | exact hk.1.2.1.1 | exact hk.1.2.1.2 | exact hk.1.2.2.1 | exact hk.1.2.2.2 | exact hk.2.1.1.1 | exact hk.2.1.1.2 | exact hk.2.1.2.1 | exact hk.2.1.2.2 | exact hk.2.2.1.1 | exact hk.2.2.1.2 | exact hk.2.2.2.1 | exact hk.2.2.2.2 | exact hk.1.1.1.1.1 | exact hk.1.1.1.1.2 | exact hk.1.1.1.1.1.1 | exact hk.1.1.1.1.1.2 | exact hk.1.1.1.1.1.1.1 | exact hk.1.1.1.1.1.1.2 | exact hk.1.1.1.1.1.1.1.1 | exact hk.1.1.1.1.1.1.1.2 | exact hk.1.1.1.1.1.1.1.1.1 | exact hk.1.1.1.1.1.1.1.1.2 | exact hk.1.1.1.1.1.1.1.1.1.1 | exact hk.1.1.1.1.1.1.1.1.1.2 | exact hk.1.1.1.1.1.1.1.1.1.1.1 | exact hk.1.1.1.1.1.1.1.1.1.1.2 | exact hk.1.1.1.1.1.1.1.1.1.1.1.1 | exact hk.1.1.1.1.1.1.1.1.1.1.1.2)))⟩; have n3_ : Aside0 (Kd.R (Kd.int .u32) 103 w97 w0.heap.size (fun k_ => ((P0_1_ k_ ∨ P1_1_ k_) ∨ w.heap.size ≤ k_) ∧ some k_ ≠ (.slice Ao100 t306.length co100 : Value).ownBlock ∧ some k_ ≠ (.slice Ao101 t309.length co101 : Value).ownBlock ∧ some k_ ≠ (.slice Ao28 l0_1.length co28 : Value).ownBlock) (.slice Ao30 l1_1.length co30) l1_1) := ⟨by rw [← hq_]; exact (by (with_reducible repeat (first | apply Kd.R_alloc | apply Kd.R_drewN | apply Kd.R_drew)); exact Kd.R_mono HO_305001.out (fun _ hk => by first | exact ⟨hk.1.1.1, ⟨hk.1.2, ⟨hk.2, hk.1.1.2⟩⟩⟩ | (refine ⟨?_, ⟨?_, ⟨?_, ?_⟩⟩⟩ <;> first | exact hk.1 | exact hk.2 | exact hk.1.1 | exact hk.1.2 | exact hk.2.1 | exact hk.2.2 | exact hk.1.1.1 | exact hk.1.1.2 | exact hk.1.2.1 | exact hk.1.2.2 | exact hk.2.1.1 | exact hk.2.1.2 | exact hk.2.2.1 | exact hk.2.2.2 | exact hk.1.1.1.1 | exact hk.1.1.1.2 | exact hk.1.1.2.1 | exact hk.1.1.2.2 | exact hk.1.2.1.1 | exact hk.1.2.1.2 | exact hk.1.2.2.1 | exact hk.1.2.2.2 | exact hk.2.1.1.1 | exact hk.2.1.1.2 | exact hk.2.1.2.1 | exact hk.2.1.2.2 | exact hk.2.2.1.1 | exact hk.2.2.1.2 | exact hk.2.2.2.1 | exact hk.2.2.2.2 | exact hk.1.1.1.1.1 | exact hk.1.1.1.1.2 | exact hk.1.1.1.1.1.1 | exact hk.1.1.1.1.1.2 | exact hk.1.1.1.1.1.1.1 | exact hk.1.1.1.1.1.1.2 | exact hk.1.1.1.1.1.1.1.1 | exact hk.1.1.1.1.1.1.1.2 | exact hk.1.1.1.1.1.1.1.1.1 | exact hk.1.1.1.1.1.1.1.1.2 | exact hk.1.1.1.1.1.1.1.1.1.1 | exact hk.1.1.1.1.1.1.1.1.1.2 | exact hk.1.1.1.1.1.1.1.1.1.1.1 | exact hk.1.1.1.1.1.1.1.1.1.1.2 | exact hk.1.1.1.1.1.1.1.1.1.1.1.1 | exact hk.1.1.1.1.1.1.1.1.1.1.1.2)))⟩; have n4_ : Aside0 (w97.heap[gb303]? = some (.cells #[.bool a0_0, .slice Ao28 l0_1.length co28, .int .i64 a0_2] 64 (0, 0))) := ⟨by rw [← hq_]; exact (bm_ BK303.out)⟩; have n5_ : Aside0 (w97.heap[gb304]? = some (.cells #[.bool a1_0, .slice Ao30 l1_1.length co30, .int .i64 a1_2] 64 (0, 0))) := ⟨by rw [← hq_]; exact (bm_ BK304.out)⟩; have n6_ : Aside0 (w97.heap[gb305]? = some (.cells #[.bool false, .slice none 0 0, .int .i64 0] 64 (0, 0))) := ⟨by rw [← hq_]; exact (bm_ BK305.out)⟩; have n7_ : Aside0 (Kept w w97 (fun k_ => P0_1_ k_ ∨ P1_1_ k_)) := ⟨by rw [← hq_]; exact (by repeat (first | (with_reducible first | exact HK.out | apply Kept.alloc | apply Kept.drewN | apply Kept.drew | refine Kept.setCell ?_ (.inr GW303.out) _ | refine Kept.setCell ?_ (.inr GW304.out) _ | refine Kept.setCell ?_ (.inr GW305.out) _) | exact HK.out))⟩; have n8_ : Aside0 (Below w0.heap.size w0 w97) := ⟨by rw [← hq_]; exact (by repeat (first | (with_reducible first | exact qm_ HB.out | apply qA_ | apply qN_ | apply qD_ | refine below_set ?_ GE303.out | refine below_set ?_ GE304.out | refine below_set ?_ GE305.out) | exact HB.out))⟩; clear HO308 HO311 HO_304001 HO_305001 BK303 BK304 BK305 HK HB hq_; have HO308 := n0_; have HO311 := n1_; have HO_304001 := n2_; have HO_305001 := n3_; have BK303 := n4_; have BK304 := n5_; have BK305 := n6_; have HK := n7_; have HB := n8_; clear n0_ n1_ n2_ n3_ n4_ n5_ n6_ n7_ n8_))))
       have n0_ := A0_ (Kd.R_drew HO_304001.out)
       have n1_ := A0_ (Kd.R_drew HO_305001.out)
       have n2_ := A0_ (Kd.R_drew HO308.out)
       have n3_ := A0_ (Kd.R_drew HO311.out)
       have n4_ := A0_ (blk_drew BK303.out)
       have n5_ := A0_ (blk_drew BK304.out)
       have n6_ := A0_ (blk_drew BK305.out)
       have n7_ := A0_ (Kept.drew HK.out)
       have n8_ := A0_ (below_drew1 HB.out)
       clear HO_304001 HO_305001 HO308 HO311 BK303 BK304 BK305 HK HB
       have HO_304001 := n0_
       have HO_305001 := n1_
       have HO308 := n2_
       have HO311 := n3_
       have BK303 := n4_
       have BK304 := n5_
       have BK305 := n6_
       have HK := n7_
       have HB := n8_
       clear n0_ n1_ n2_ n3_ n4_ n5_ n6_ n7_ n8_
       refine start_ (n := 8) (S := fun w' => w'.cell? ⟨gb304, 0, none⟩ = some (.bool a1_0) ∧ w'.cell? ⟨gb304, 1, none⟩ = some (.slice Ao30 l1_1.length co30) ∧ w'.cell? ⟨gb304, 2, none⟩ = some (.int .i64 a1_2)) (ds := []) #[false, false, false, false, false, false, false, false] (by kernel_rfl) rfl rfl ⟨bC_ BK304.out 0, bC_ BK304.out 1, bC_ BK304.out 2⟩ (fun hHeld => ?_); refine with_tabW cutplaneref02_Add.tab14 cutplaneref02_Add.bits14 (fun HT_ HW_ => ?_)
       generalize w97.drew = w102 at HO_304001 HO_305001 HO308 HO311 BK303 BK304 BK305 HK HB hHeld ⊢
       refine pure_ (i := 0) (N := some 63) (v := ?_) (a' := ?_) #[true, false, false, false, false, false, false, false] rfl rfl (any_of HT_.out (by kernel_rfl)) (fun _ _ _ h => h) (Or.inl ⟨by rfl, ?_⟩) ?_ ?_
       rotate_left
       ·intro w'
        go_simp
        with_reducible rfl
       rotate_left
       ·simp only [Act.put, sp_, i64_w, i32_w]
        rfl
       refine pure_ (i := 2) (N := some 65) (v := ?_) (a' := ?_) #[true, false, true, false, false, false, false, false] rfl rfl (any_of HT_.out (by kernel_rfl)) (fun _ _ _ h => h) (Or.inl ⟨by rfl, ?_⟩) ?_ ?_
       rotate_left
       ·intro w'
        go_simp
        with_reducible rfl
       rotate_left
       ·simp only [Act.put, sp_, i64_w, i32_w]
        rfl
       refine pure_ (i := 3) (N := some 66) (v := ?_) (a' := ?_) #[true, false, true, true, false, false, false, false] rfl rfl (any_of HT_.out (by kernel_rfl)) (fun _ _ _ h => h) (Or.inl ⟨by rfl, ?_⟩) ?_ ?_
       rotate_left
       ·intro w'
        go_simp
        with_reducible rfl
       rotate_left
       ·simp only [Act.put, sp_, i64_w, i32_w]
        rfl
       refine pure_ (i := 5) (N := some 68) (v := ?_) (a' := ?_) #[true, false, true, true, false, true, false, false] rfl rfl (any_of HT_.out (by kernel_rfl)) (fun _ _ _ h => h) (Or.inl ⟨by rfl, ?_⟩) ?_ ?_
       rotate_left
       ·intro w'
        go_simp
        with_reducible rfl
       rotate_left
       ·simp only [Act.put, sp_, i64_w, i32_w]
        rfl
       refine take_ (i := 1) (N := some 64) (v := ?_) (a' := ?_) #[true, true, true, true, false, true, false, false] rfl rfl (take_ofW HT_.out HW_.out (by kernel_rfl)) (fun _ _ _ h => h) (Or.inl ⟨by rfl, ?_⟩) hHeld ?_ ?_
       rotate_left
       ·rintro w' ⟨s0, s1, s2⟩
        go_simp
        with_reducible rfl
       rotate_left
       ·simp only [Act.put, sp_, i64_w, i32_w]
        rfl
       refine one_ (i := 4) (N := some 67) #[true, true, true, true, true, true, false, false] rfl rfl (one_of HT_.out (by kernel_rfl)) (by decide) (fun K hK => ?_)
       refine goes_ Try.func99 (by kernel_rfl) rfl #[.slice Ao101 t309.length co101, .slice Ao100 t306.length co100] (by rfl) rfl rfl (by (try simp only [List.map_toArray, List.map_cons, List.map_nil]); first | done | rfl | (simp only [List.length_drop, List.length_take]; rfl)) ?_
       with_reducible refine (cutplaneref01_Sub.calls kj26 _ _ t309 _ _ t306 t329 _ ?side1 ?side2 ?side3 ?side4 A89.out).mono ?_
       (case side1 => repeat (first | exact (Kd.R_reads' HO311.out).2.2 | (with_reducible refine Kd.C_alloc ?_ _) | (with_reducible refine Kd.C_drewN ?_ _) | (with_reducible refine Kd.C_drew ?_)))
       (case side2 => exact (Kd.R_reads' HO311.out).2.1)
       (case side3 => repeat (first | exact (Kd.R_reads' HO308.out).2.2 | (with_reducible refine Kd.C_alloc ?_ _) | (with_reducible refine Kd.C_drewN ?_ _) | (with_reducible refine Kd.C_drew ?_)))
       (case side4 => exact (Kd.R_reads' HO308.out).2.1)
       rintro e w103 ⟨v330, rfl, ho0, hb⟩
       refine ⟨_, rfl, ?_⟩
       have n0_ := A0_ (Kd.R_elder' (by exact rm_ HO_304001.out) (Kd.R_base ho0) hb)
       have n1_ := A0_ (Kd.R_elder' (by exact rm_ HO_305001.out) (Kd.R_base ho0) hb)
       have n2_ := A0_ (Kd.R_elder' (by exact rm_ HO308.out) (Kd.R_base ho0) hb)
       have n3_ := A0_ (Kd.R_elder' (by exact rm_ HO311.out) (Kd.R_base ho0) hb)
       have n4_ := A0_ (Kd.R_lower (Kd.R_new' (Kd.R_new' (Kd.R_new' (Kd.R_new' (Kd.R_newM (M := fun k_ => ((P0_1_ k_ ∨ P1_1_ k_) ∨ w.heap.size ≤ k_)) ho0 (by first | exact HK.out.1 | exact (show Kept w _ (fun k_ => P0_1_ k_ ∨ P1_1_ k_) from by repeat (first | (with_reducible first | exact HK.out | apply Kept.alloc | apply Kept.drewN | apply Kept.drew | refine Kept.setCell ?_ (.inr GW303.out) _ | refine Kept.setCell ?_ (.inr GW304.out) _ | refine Kept.setCell ?_ (.inr GW305.out) _) | exact HK.out)).1) (fun k_ h_ => .inr h_)) (Kd.R_lt (by exact rm_ HO_304001.out))) (Kd.R_lt (by exact rm_ HO_305001.out))) (Kd.R_lt (by exact rm_ HO308.out))) (Kd.R_lt (by exact rm_ HO311.out))) (below_size (by repeat (first | (with_reducible first | exact qm_ HB.out | apply qA_ | apply qN_ | apply qD_ | refine below_set ?_ GE303.out | refine below_set ?_ GE304.out | refine below_set ?_ GE305.out) | exact HB.out))))
       have n5_ := A0_ (blk_below (bm_ BK303.out) hb)
       have n6_ := A0_ (blk_below (bm_ BK304.out) hb)
       have n7_ := A0_ (blk_below (bm_ BK305.out) hb)
       have n8_ := A0_ (Kept.below (S := (fun k_ => P0_1_ k_ ∨ P1_1_ k_)) (by repeat (first | (with_reducible first | exact HK.out | apply Kept.alloc | apply Kept.drewN | apply Kept.drew | refine Kept.setCell ?_ (.inr GW303.out) _ | refine Kept.setCell ?_ (.inr GW304.out) _ | refine Kept.setCell ?_ (.inr GW305.out) _) | exact HK.out)) hb)
       have n9_ := A0_ (below_step (by repeat (first | (with_reducible first | exact qm_ HB.out | apply qA_ | apply qN_ | apply qD_ | refine below_set ?_ GE303.out | refine below_set ?_ GE304.out | refine below_set ?_ GE305.out) | exact HB.out)) hb)
       clear HO_304001 HO_305001 HO308 HO311 BK303 BK304 BK305 HK HB
       have HO_304001 := n0_
       have HO_305001 := n1_
       have HO308 := n2_
       have HO311 := n3_
       have HO331 := n4_
       have BK303 := n5_
       have BK304 := n6_
       have BK305 := n7_
       have HK := n8_
       have HB := n9_
       clear n0_ n1_ n2_ n3_ n4_ n5_ n6_ n7_ n8_ n9_
       (try clear hb)
       (try clear ho0)
       obtain ⟨Ao104, co104, eo104⟩ := Kd.R_slice HO331.out
       (first | subst eo104 | (injection eo104 with f1_ f2_ f3_; have f4_ := f1_.symm; have f5_ := f3_.symm; clear f1_ f2_ f3_; subst f4_; subst f5_))
       refine hK.out _ _ ⟨bC_ BK304.out 0, bC_ BK304.out 1, bC_ BK304.out 2⟩ (fun hHeld => ?_)
       clear hK K
       refine norm_ (a' := ?_) ?_ ?_
       rotate_left
       ·show Act.put _ (some 67) _ = _
        simp only [Act.put, sp_, i64_w, i32_w]
        rfl
       refine one_ (i := 6) (N := some 69) #[true, true, true, true, true, true, true, false] rfl rfl (one_of HT_.out (by kernel_rfl)) (by decide) (fun K hK => ?_)
       refine goes_ Try.func63 (by kernel_rfl) rfl #[.bool a1_0, .slice Ao104 t329.length co104, .int .i64 x5_26] (by rfl) rfl rfl (by (try simp only [List.map_toArray, List.map_cons, List.map_nil]); first | done | rfl | (simp only [List.length_drop, List.length_take]; rfl)) ?_
       with_reducible refine (cutplaneref02_Form.calls kj26 a1_0 _ _ t329 x5_26 t332 t333 t336 _ ?side1 ?side2 A90.out).mono ?_
       (case side1 => repeat (first | exact (Kd.R_reads' HO331.out).2.2 | (with_reducible refine Kd.C_alloc ?_ _) | (with_reducible refine Kd.C_drewN ?_ _) | (with_reducible refine Kd.C_drew ?_)))
       (case side2 => exact (Kd.R_reads' HO331.out).2.1)
       rintro e w105 ⟨v334, rfl, ho0, hb⟩
       refine ⟨_, rfl, ?_⟩
       have n0_ := A0_ (Kd.R_elder' (by exact rm_ HO_304001.out) (Kd.R_base ho0) hb)
       have n1_ := A0_ (Kd.R_elder' (by exact rm_ HO_305001.out) (Kd.R_base ho0) hb)
       have n2_ := A0_ (Kd.R_elder' (by exact rm_ HO308.out) (Kd.R_base ho0) hb)
       have n3_ := A0_ (Kd.R_elder' (by exact rm_ HO311.out) (Kd.R_base ho0) hb)
       have n4_ := A0_ (Kd.R_elder' (by exact rm_ HO331.out) (Kd.R_base ho0) hb)
       have n5_ := A0_ (Kd.R_lower (Kd.R_new' (Kd.R_new' (Kd.R_new' (Kd.R_new' (Kd.R_new' (Kd.R_newM (M := fun k_ => ((P0_1_ k_ ∨ P1_1_ k_) ∨ w.heap.size ≤ k_)) ho0 (by first | exact HK.out.1 | exact (show Kept w _ (fun k_ => P0_1_ k_ ∨ P1_1_ k_) from by repeat (first | (with_reducible first | exact HK.out | apply Kept.alloc | apply Kept.drewN | apply Kept.drew | refine Kept.setCell ?_ (.inr GW303.out) _ | refine Kept.setCell ?_ (.inr GW304.out) _ | refine Kept.setCell ?_ (.inr GW305.out) _) | exact HK.out)).1) (fun k_ h_ => .inr h_)) (Kd.R_lt (by exact rm_ HO_304001.out))) (Kd.R_lt (by exact rm_ HO_305001.out))) (Kd.R_lt (by exact rm_ HO308.out))) (Kd.R_lt (by exact rm_ HO311.out))) (Kd.R_lt (by exact rm_ HO331.out))) (below_size (by repeat (first | (with_reducible first | exact qm_ HB.out | apply qA_ | apply qN_ | apply qD_ | refine below_set ?_ GE303.out | refine below_set ?_ GE304.out | refine below_set ?_ GE305.out) | exact HB.out))))
       have n6_ := A0_ (blk_below (bm_ BK303.out) hb)
       have n7_ := A0_ (blk_below (bm_ BK304.out) hb)
       have n8_ := A0_ (blk_below (bm_ BK305.out) hb)
       have n9_ := A0_ (Kept.below (S := (fun k_ => P0_1_ k_ ∨ P1_1_ k_)) (by repeat (first | (with_reducible first | exact HK.out | apply Kept.alloc | apply Kept.drewN | apply Kept.drew | refine Kept.setCell ?_ (.inr GW303.out) _ | refine Kept.setCell ?_ (.inr GW304.out) _ | refine Kept.setCell ?_ (.inr GW305.out) _) | exact HK.out)) hb)
       have n10_ := A0_ (below_step (by repeat (first | (with_reducible first | exact qm_ HB.out | apply qA_ | apply qN_ | apply qD_ | refine below_set ?_ GE303.out | refine below_set ?_ GE304.out | refine below_set ?_ GE305.out) | exact HB.out)) hb)
       clear HO_304001 HO_305001 HO308 HO311 HO331 BK303 BK304 BK305 HK HB
       have HO_304001 := n0_
       have HO_305001 := n1_
       have HO308 := n2_
       have HO311 := n3_
       have HO331 := n4_
       have HO335 := n5_
       have BK303 := n6_
       have BK304 := n7_
       have BK305 := n8_
       have HK := n9_
       have HB := n10_
       clear n0_ n1_ n2_ n3_ n4_ n5_ n6_ n7_ n8_ n9_ n10_
       (try clear hb)
       (try clear ho0)
       obtain ⟨Ao107, co107, eo107⟩ := Kd.R_slice HO335.out
       (first | subst eo107 | (injection eo107 with f1_ f2_ f3_; have f4_ := f1_.symm; have f5_ := f3_.symm; clear f1_ f2_ f3_; subst f4_; subst f5_))
       refine hK.out _ _ ⟨bC_ BK304.out 0, bC_ BK304.out 1, bC_ BK304.out 2⟩ (fun hHeld => ?_)
       clear hK K
       refine norm_ (a' := ?_) ?_ ?_
       rotate_left
       ·show Act.put _ (some 69) _ = _
        simp only [Act.put, sp_, i64_w, i32_w]
        rfl
       refine one_ (i := 7) (N := none) #[true, true, true, true, true, true, true, true] rfl rfl (one_of HT_.out (by kernel_rfl)) (by decide) (fun K hK => ?_)
       have hs106 : w105.cell? ⟨gb305, 0, none⟩ = some (.bool false) := (blk_cell BK305.out 0).trans rfl
       have hfs106 := blk_frozen BK305.out 0
       have hns106_0 := NB303_305.out
       have hns106_1 := NB304_305.out
       have hms106_0 := NB305_303.out
       have hms106_1 := NB305_304.out
       have hs108 : w105.cell? ⟨gb305, 1, none⟩ = some (.slice none 0 0) := (blk_cell BK305.out 1).trans rfl
       have hfs108 := blk_frozen BK305.out 1
       have hns108_0 := NB303_305.out
       have hns108_1 := NB304_305.out
       have hms108_0 := NB305_303.out
       have hms108_1 := NB305_304.out
       have hs109 : w105.cell? ⟨gb305, 2, none⟩ = some (.int .i64 0) := (blk_cell BK305.out 2).trans rfl
       have hfs109 := blk_frozen BK305.out 2
       have hns109_0 := NB303_305.out
       have hns109_1 := NB304_305.out
       have hms109_0 := NB305_303.out
       have hms109_1 := NB305_304.out
       refine skip_ (w1 := ?_) (by rfl) rfl ?_ ?_
       rotate_left
       ·go_simp
        rfl
       refine hK.out _ _ ⟨((cell_far (p := ⟨gb305, _, none⟩) NB304_305.out _).trans (((cell_far (p := ⟨gb305, _, none⟩) NB304_305.out _).trans (((cell_far (p := ⟨gb305, _, none⟩) NB304_305.out _).trans (hHeld.1)))))), ((cell_far (p := ⟨gb305, _, none⟩) NB304_305.out _).trans (((cell_far (p := ⟨gb305, _, none⟩) NB304_305.out _).trans (((cell_far (p := ⟨gb305, _, none⟩) NB304_305.out _).trans (hHeld.2.1)))))), ((cell_far (p := ⟨gb305, _, none⟩) NB304_305.out _).trans (((cell_far (p := ⟨gb305, _, none⟩) NB304_305.out _).trans (((cell_far (p := ⟨gb305, _, none⟩) NB304_305.out _).trans (hHeld.2.2))))))⟩ (fun hHeld => ?_)
       clear hK K
       refine done_ (done_of HT_.out (by kernel_rfl)) ?_
       try go_wp2
       refine bodyPost_ret (results_cell_row rfl _ _ gb305 64 #[.bool t332, .slice Ao107 t333.length co107, .int .i64 t336] (0, 0) _ rfl (by (with_reducible repeat first | apply bN_ | apply bD_ | apply bA_); refine blk_put (cs := #[.bool t332, .slice Ao107 t333.length co107, .int .i64 0]) ?_ 2 _ rfl; (with_reducible repeat first | apply bN_ | apply bD_ | apply bA_); refine blk_put (cs := #[.bool t332, .slice none 0 0, .int .i64 0]) ?_ 1 _ rfl; (with_reducible repeat first | apply bN_ | apply bD_ | apply bA_); refine blk_put (cs := #[.bool false, .slice none 0 0, .int .i64 0]) ?_ 0 _ rfl; (with_reducible repeat first | apply bN_ | apply bD_ | apply bA_); exact BK305.out) Try.underlying64 rfl (by kernel_rfl)) rfl ?_
       exact ⟨_, by first | rfl | (simp [errW_none, errW_some] <;> rfl) | (simp [*, errW_none, errW_some] <;> rfl), by (with_reducible repeat (first | apply Kd.R_alloc | apply Kd.R_drewN | apply Kd.R_drew)); exact Kd.R_mono (Kd.R_far (p := ⟨gb305, 2, none⟩) (Kd.R_far (p := ⟨gb305, 1, none⟩) (Kd.R_far (p := ⟨gb305, 0, none⟩) (Kd.R_types HO335.out BK305.out (by decide)) (fun _ hk => hk.2) (.bool t332)) (fun _ hk => hk.2) (.slice Ao107 t333.length co107)) (fun _ hk => hk.2) (.int .i64 t336)) (fun _ hk => hk.1.1.1.1.1.1.1), by repeat (first | (with_reducible first | exact qm_ HB.out | apply qA_ | apply qN_ | apply qD_ | refine below_set ?_ GE303.out | refine below_set ?_ GE304.out | refine below_set ?_ GE305.out) | exact HB.out), by repeat (first | (with_reducible first | exact HK.out | apply Kept.alloc | apply Kept.drewN | apply Kept.drew | refine Kept.setCell ?_ (.inr GW303.out) _ | refine Kept.setCell ?_ (.inr GW304.out) _ | refine Kept.setCell ?_ (.inr GW305.out) _) | exact HK.out)⟩
end Go.Proofs.Ytnjdaoeebhbmfaa.PA
end
