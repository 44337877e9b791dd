/- Steps of Go functions that the law RankSorts uses, told as plain Lean functions, each with the proof that its call comes to what it tells; words on memory; plain facts. No condition beyond those that each text names. -/
import Derived.Test.YtnjdaoeebhbmfaaProg
import Derived.Below
import Derived.Deep.Draws
import Derived.Deep.AppendLies
import Derived.Maps.AppendAt
import Derived.OwnWalk
import Derived.Laws.BytesArg
import Derived.Laws.MakeOwn
import Derived.Laws.OwnMore
import Derived.Deep.OwnRows
import Derived.Tactics
import Derived.Lib.ConvBytes
import Derived.Laws.Slices
import Derived.WalkKit
import Derived.KernelRfl
import Derived.RowKit3
import Derived.Deep.LoopGhost
import Derived.Deep.QuietTactic
import Derived.BigQuiet
import Derived.WideLaws
import Derived.Deep.DeepCutAuto
import Derived.Deep.CutBlock
import Derived.Deep.RegionHeld3
import Derived.Laws.Rows
import Derived.Lib.AppendStr
import Derived.ArgAppend
import Derived.Laws.IdiomCopy
import Derived.OrdersHeld
import Derived.Laws.BitsLemmas
import Derived.RowKit
import Derived.Laws.StructEq
import Derived.Test.YtnjdaoeebhbmfaaSRankSorts0
import Derived.Test.YtnjdaoeebhbmfaaSRankSorts1
import Derived.Test.YtnjdaoeebhbmfaaSRankSorts3
import Derived.Test.YtnjdaoeebhbmfaaSRankSorts6
import Derived.Test.YtnjdaoeebhbmfaaSRankSorts7
import Derived.Test.YtnjdaoeebhbmfaaSRankSorts8
import Derived.Test.YtnjdaoeebhbmfaaSRankSorts9
import Derived.Test.YtnjdaoeebhbmfaaSRankSorts10
import Derived.Test.YtnjdaoeebhbmfaaSRankSorts11
section
namespace Go.Proofs.Ytnjdaoeebhbmfaa.PA
open Go.RowKit Go.Proofs.YtnjdaoeebhbmfaaW.PrintWords Go.Proofs.YtnjdaoeebhbmfaaW.PrintLast Go.Proofs.YtnjdaoeebhbmfaaW.PrintMore
attribute [local go_sem] max2_int min2_int max_two min_two max_three min_three max_four min_four   -- for this text's walks alone
set_option linter.unusedVariables false
set_option linter.unusedSimpArgs false
def cutplaneref02_Cmp.f (k : Nat) (a0_0 : Bool) (l0_1 : List Int) (a0_2 : Int) (a1_0 : Bool) (l1_1 : List Int) (a1_2 : Int) : Option (Int) := (cutplaneref02_Sign.f a0_0 l0_1 a0_2).bind fun t354 => ((cutplaneref02_Sign.f a1_0 l1_1 a1_2).bind fun t355 => (if t354 = t355 then (if t354 = 0 then (some 0) else ((cutplaneref02_Top.f k a0_0 l0_1 a0_2).bind fun t356 => ((cutplaneref02_Top.f k a1_0 l1_1 a1_2).bind fun t357 => (if t356 = t357 then ((cutplaneref02_Sub.f k a0_0 l0_1 a0_2 a1_0 l1_1 a1_2).bind fun bt358 => ((cutplaneref02_Sign.f bt358.1 bt358.2.1 bt358.2.2).bind fun t363 => (some t363))) else ((cutplaneref02_Top.f k a0_0 l0_1 a0_2).bind fun t364 => ((cutplaneref02_Top.f k a1_0 l1_1 a1_2).bind fun t365 => (if ((decide (t364 < t365)) == (decide (t354 > 0))) = true then (some (-1)) else (some 1)))))))) else (if t354 < t355 then (some (-1)) else (some 1))))
theorem cutplaneref02_Cmp.mono : ∀ a0 a1 a2 a3 a4 a5 k, LeO (cutplaneref02_Cmp.f k a0 a1 a2 a3 a4 a5) (cutplaneref02_Cmp.f (k + 1) a0 a1 a2 a3 a4 a5) := by
 intro a0 a1 a2 a3 a4 a5 k
 unfold cutplaneref02_Cmp.f
 repeat' first
   | (with_reducible exact cutplaneref02_Sub.mono _ _ _ _ _ _ _)
   | (with_reducible exact cutplaneref02_Top.mono _ _ _ _)
   | (with_reducible exact LeO.refl _)
   | (with_reducible exact LeO.none _)
   | (with_reducible refine LeO.ite ?_ ?_)
   | (with_reducible refine LeO.bind ?_ (fun _ => ?_))
   | exact cutplaneref02_Sub.mono _ _ _ _ _ _ _
   | exact cutplaneref02_Top.mono _ _ _ _
   | exact LeO.none _
   | refine LeO.ite ?_ ?_
   | refine LeO.bind ?_ (fun _ => ?_)
def cutplaneref02_Cmp.T9 : Bool × List (List Nat × List Nat) := (true, [([], []), ([0], [0]), ([], []), ([2, 1], [2]), ([1, 3], [1, 3]), ([], []), ([5], [5]), ([4, 6], [4, 6])])
def cutplaneref02_Cmp.B9 : List Nat := [0, 1, 0, 7, 15, 0, 32, 127]
theorem cutplaneref02_Cmp.tab9 : rtab .any (opsOf Try.f40 9) = cutplaneref02_Cmp.T9 := by kernel_rfl
theorem cutplaneref02_Cmp.bits9 : waitsOk cutplaneref02_Cmp.T9.2 cutplaneref02_Cmp.B9 = true := by kernel_rfl
set_option maxHeartbeats 2000000 in
set_option maxRecDepth 100000 in
theorem cutplaneref02_Cmp.calls (k : Nat) (a0_0 : Bool) (P0_1_ : Nat → Prop) (u9000_ : Value) (l0_1 : List Int) (a0_2 : Int) (a1_0 : Bool) (P1_1_ : Nat → Prop) (u9001_ : Value) (l1_1 : List Int) (a1_2 : Int) (r : Int) (w0 w : World) (hB : Below w0.heap.size w0 w) (ho0_1 : Kd.R (Kd.int .u32) 103 w w0.heap.size P0_1_ u9000_ l0_1) (hp0_1_1_1 : ∀ k_, P0_1_ k_ → ¬ P1_1_ k_) (ho1_1 : Kd.R (Kd.int .u32) 103 w w0.heap.size P1_1_ u9001_ l1_1) (hp1_1_0_1 : ∀ k_, P1_1_ k_ → ¬ P0_1_ k_) (h : cutplaneref02_Cmp.f k a0_0 l0_1 a0_2 a1_0 l1_1 a1_2 = some r) :
  Calls Try.prog 40 #[.agg #[.bool a0_0, u9000_, .int .i64 a0_2], .agg #[.bool a1_0, u9001_, .int .i64 a1_2]] w fun e w' => e = .returned (.int .i64 r) ∧ Below w0.heap.size w0 w' ∧ Kept w w' (fun k_ => P0_1_ k_ ∨ P1_1_ k_) := by
 have hu64 := Try.underlying64
 have HO0_1 := A0_ (show Kd.R (Kd.int .u32) 103 w w0.heap.size (fun k_ => ((P0_1_ k_ ∨ P1_1_ k_) ∨ w.heap.size ≤ k_) ∧ some k_ ≠ (u9001_ : Value).ownBlock) u9000_ l0_1 from Kd.R_mono ho0_1 (fun k_ hk => ⟨(.inl (.inl hk)), fun e_ => hp0_1_1_1 k_ hk (ho1_1.1 k_ e_.symm)⟩))
 have HO1_1 := A0_ (show Kd.R (Kd.int .u32) 103 w w0.heap.size (fun k_ => ((P0_1_ k_ ∨ P1_1_ k_) ∨ w.heap.size ≤ k_) ∧ some k_ ≠ (u9000_ : Value).ownBlock) u9001_ l1_1 from Kd.R_mono ho1_1 (fun k_ hk => ⟨(.inl (.inr hk)), fun e_ => hp1_1_0_1 k_ hk (ho0_1.1 k_ e_.symm)⟩))
 have HK := A0_ (Kept.refl w (fun k_ => P0_1_ k_ ∨ P1_1_ k_))
 have HW0 := A0_ hB.size
 have HB := A0_ hB
 clear hB
 have H : ((cutplaneref02_Sign.f a0_0 l0_1 a0_2).bind fun t354 => ((cutplaneref02_Sign.f a1_0 l1_1 a1_2).bind fun t355 => (if t354 = t355 then (if t354 = 0 then (some 0) else ((cutplaneref02_Top.f k a0_0 l0_1 a0_2).bind fun t356 => ((cutplaneref02_Top.f k a1_0 l1_1 a1_2).bind fun t357 => (if t356 = t357 then ((cutplaneref02_Sub.f k a0_0 l0_1 a0_2 a1_0 l1_1 a1_2).bind fun bt358 => ((cutplaneref02_Sign.f bt358.1 bt358.2.1 bt358.2.2).bind fun t363 => (some t363))) else ((cutplaneref02_Top.f k a0_0 l0_1 a0_2).bind fun t364 => ((cutplaneref02_Top.f k a1_0 l1_1 a1_2).bind fun t365 => (if ((decide (t364 < t365)) == (decide (t354 > 0))) = true then (some (-1)) else (some 1)))))))) else (if t354 < t355 then (some (-1)) else (some 1))))) = some r := h
 clear h
 replace H := Option.bind_eq_some_iff.mp H
 obtain ⟨t354, A30, H⟩ := H
 replace H : ((cutplaneref02_Sign.f a1_0 l1_1 a1_2).bind fun t355 => (if t354 = t355 then (if t354 = 0 then (some 0) else ((cutplaneref02_Top.f k a0_0 l0_1 a0_2).bind fun t356 => ((cutplaneref02_Top.f k a1_0 l1_1 a1_2).bind fun t357 => (if t356 = t357 then ((cutplaneref02_Sub.f k a0_0 l0_1 a0_2 a1_0 l1_1 a1_2).bind fun bt358 => ((cutplaneref02_Sign.f bt358.1 bt358.2.1 bt358.2.2).bind fun t363 => (some t363))) else ((cutplaneref02_Top.f k a0_0 l0_1 a0_2).bind fun t364 => ((cutplaneref02_Top.f k a1_0 l1_1 a1_2).bind fun t365 => (if ((decide (t364 < t365)) == (decide (t354 > 0))) = true then (some (-1)) else (some 1)))))))) else (if t354 < t355 then (some (-1)) else (some 1)))) = some r := H
 have A3 := A0_ A30
 clear A30
 replace H := Option.bind_eq_some_iff.mp H
 obtain ⟨t355, A40, H⟩ := H
 replace H : (if t354 = t355 then (if t354 = 0 then (some 0) else ((cutplaneref02_Top.f k a0_0 l0_1 a0_2).bind fun t356 => ((cutplaneref02_Top.f k a1_0 l1_1 a1_2).bind fun t357 => (if t356 = t357 then ((cutplaneref02_Sub.f k a0_0 l0_1 a0_2 a1_0 l1_1 a1_2).bind fun bt358 => ((cutplaneref02_Sign.f bt358.1 bt358.2.1 bt358.2.2).bind fun t363 => (some t363))) else ((cutplaneref02_Top.f k a0_0 l0_1 a0_2).bind fun t364 => ((cutplaneref02_Top.f k a1_0 l1_1 a1_2).bind fun t365 => (if ((decide (t364 < t365)) == (decide (t354 > 0))) = true then (some (-1)) else (some 1)))))))) else (if t354 < t355 then (some (-1)) else (some 1))) = some r := H
 have A4 := A0_ A40
 clear A40
 by_cases c5 : t354 = t355
 ·rw [if_pos c5] at H
  have c5b0 : (t354 == t355) = true := beq_iff_eq.mpr c5
  have c5b1 : (t354 != t355) = false := bne_eq_false_iff_eq.mpr c5
  clear c5
  by_cases c6 : t354 = 0
  ·rw [if_pos c6] at H
   have c6b0 : (t354 == 0) = true := beq_iff_eq.mpr c6
   have c6b1 : (t354 != 0) = false := bne_eq_false_iff_eq.mpr c6
   clear c6
   obtain rfl := Option.some.inj H
   obtain ⟨Ao7, co7, eo7⟩ := Kd.R_slice HO0_1.out
   subst eo7
   go_enter Try.func40, Try.ntmps40
   try go_wp2_with (first | ((with_reducible refine gate_dst (N := 2) rfl ?_); refine box_event ?hg (N := 2) ?hd (cs := #[.bool a0_0, .slice Ao7 l0_1.length co7, .int .i64 a0_2]) (t := 64) ?hr ?_; (case hd => rfl); (case hg => rfl); (case hr => first | (go_simp; done) | (go_simp; rfl)); intro gb352 hg w8 hbox hb; have n0_ := A0_ (Kd.R_below (by exact rm_ HO0_1.out) hb); have n1_ := A0_ (Kd.R_below (by exact rm_ HO1_1.out) hb); have n2_ := A0_ (Kept.below (S := (fun k_ => P0_1_ k_ ∨ P1_1_ k_)) (by repeat (first | (with_reducible first | exact HK.out | apply Kept.alloc | apply Kept.drewN | apply Kept.drew) | exact HK.out)) hb); have n3_ := A0_ (below_step (qm_ HB.out) hb); have n4_ := A0_ (hbox); have n5_ := A0_ ((by rw [hg]; exact (by first | exact HK.out.1 | exact (show Kept w _ (fun k_ => P0_1_ k_ ∨ P1_1_ k_) from by repeat (first | (with_reducible first | exact HK.out | apply Kept.alloc | apply Kept.drewN | apply Kept.drew) | exact HK.out)).1) : w.heap.size ≤ gb352)); have n6_ := A0_ ((by rw [hg]; exact (below_size (qm_ HB.out)) : w0.heap.size ≤ gb352)); clear HO0_1 HO1_1 HK HB; have HO0_1 := n0_; have HO1_1 := n1_; have HK := n2_; have HB := n3_; have BK352 := n4_; have GW352 := n5_; have GE352 := n6_; clear n0_ n1_ n2_ n3_ n4_ n5_ n6_ hb hbox hg; obtain ⟨Ao9, co9, eo9⟩ := Kd.R_slice HO1_1.out; subst eo9) | ((with_reducible refine gate_dst (N := 3) rfl ?_); refine box_event ?hg (N := 3) ?hd (cs := #[.bool a1_0, .slice Ao9 l1_1.length co9, .int .i64 a1_2]) (t := 64) ?hr ?_; (case hd => rfl); (case hg => rfl); (case hr => first | (go_simp; done) | (go_simp; rfl)); intro gb353 hg w10 hbox hb; have n0_ := A0_ (Kd.R_below (by exact rm_ HO0_1.out) hb); have n1_ := A0_ (Kd.R_below (by exact rm_ HO1_1.out) hb); have n2_ := A0_ (blk_below (bm_ BK352.out) hb); have n3_ := A0_ (Kept.below (S := (fun k_ => P0_1_ k_ ∨ P1_1_ k_)) (by repeat (first | (with_reducible first | exact HK.out | apply Kept.alloc | apply Kept.drewN | apply Kept.drew | refine Kept.setCell ?_ (.inr GW352.out) _) | exact HK.out)) hb); have n4_ := A0_ (below_step (by repeat (first | (with_reducible first | exact qm_ HB.out | apply qA_ | apply qN_ | apply qD_ | refine below_set ?_ GE352.out) | exact HB.out)) hb); have n5_ := A0_ (hbox); have n6_ := A0_ ((by rw [hg]; exact (by first | exact HK.out.1 | exact (show Kept w _ (fun k_ => P0_1_ k_ ∨ P1_1_ k_) from by repeat (first | (with_reducible first | exact HK.out | apply Kept.alloc | apply Kept.drewN | apply Kept.drew | refine Kept.setCell ?_ (.inr GW352.out) _) | exact HK.out)).1) : w.heap.size ≤ gb353)); have n7_ := A0_ ((by rw [hg]; exact (below_size (by repeat (first | (with_reducible first | exact qm_ HB.out | apply qA_ | apply qN_ | apply qD_ | refine below_set ?_ GE352.out) | exact HB.out))) : w0.heap.size ≤ gb353)); have n8_ := A0_ ((by rw [hg]; exact Nat.ne_of_lt (blk_lt (bm_ BK352.out)) : gb352 ≠ gb353)); have n9_ := A0_ ((by rw [hg]; exact Nat.ne_of_gt (blk_lt (bm_ BK352.out)) : gb353 ≠ gb352)); clear HO0_1 HO1_1 BK352 HK HB; have HO0_1 := n0_; have HO1_1 := n1_; have BK352 := n2_; have HK := n3_; have HB := n4_; have BK353 := n5_; have GW353 := n6_; have GE353 := n7_; have NB352_353 := n8_; have NB353_352 := n9_; clear n0_ n1_ n2_ n3_ n4_ n5_ n6_ n7_ n8_ n9_ hb hbox hg))
   have n0_ := A0_ (Kd.R_drew HO0_1.out)
   have n1_ := A0_ (Kd.R_drew HO1_1.out)
   have n2_ := A0_ (blk_drew BK352.out)
   have n3_ := A0_ (blk_drew BK353.out)
   have n4_ := A0_ (Kept.drew HK.out)
   have n5_ := A0_ (below_drew1 HB.out)
   clear HO0_1 HO1_1 BK352 BK353 HK HB
   have HO0_1 := n0_
   have HO1_1 := n1_
   have BK352 := n2_
   have BK353 := n3_
   have HK := n4_
   have HB := n5_
   clear n0_ n1_ n2_ n3_ n4_ n5_
   refine start_ (n := 6) (S := fun w' => w'.cell? ⟨gb352, 0, none⟩ = some (.bool a0_0) ∧ w'.cell? ⟨gb352, 1, none⟩ = some (.slice Ao7 l0_1.length co7) ∧ w'.cell? ⟨gb352, 2, none⟩ = some (.int .i64 a0_2) ∧ w'.cell? ⟨gb353, 0, none⟩ = some (.bool a1_0) ∧ w'.cell? ⟨gb353, 1, none⟩ = some (.slice Ao9 l1_1.length co9) ∧ w'.cell? ⟨gb353, 2, none⟩ = some (.int .i64 a1_2)) (ds := []) #[false, false, false, false, false, false] (by kernel_rfl) rfl rfl ⟨bC_ BK352.out 0, bC_ BK352.out 1, bC_ BK352.out 2, bC_ BK353.out 0, bC_ BK353.out 1, bC_ BK353.out 2⟩ (fun hHeld => ?_)
   generalize w10.drew = w11 at HO0_1 HO1_1 BK352 BK353 HK HB hHeld ⊢
   refine take_ (i := 0) (N := some 7) (v := ?_) (a' := ?_) #[true, false, false, false, false, false] rfl rfl (by kernel_rfl) (fun _ _ _ h => h) (Or.inl ⟨by rfl, ?_⟩) hHeld ?_ ?_
   rotate_left
   ·rintro w' ⟨s0, s1, s2, s3, s4, s5⟩
    go_simp
    with_reducible rfl
   rotate_left
   ·simp only [Act.put, sp_, i64_w, i32_w]
    rfl
   refine take_ (i := 2) (N := some 9) (v := ?_) (a' := ?_) #[true, false, true, false, false, false] rfl rfl (by kernel_rfl) (fun _ _ _ h => h) (Or.inl ⟨by rfl, ?_⟩) hHeld ?_ ?_
   rotate_left
   ·rintro w' ⟨s0, s1, s2, s3, s4, s5⟩
    go_simp
    with_reducible rfl
   rotate_left
   ·simp only [Act.put, sp_, i64_w, i32_w]
    rfl
   refine one_ (i := 1) (N := some 8) #[true, true, true, false, false, false] rfl rfl (by kernel_rfl) (by decide) (fun K hK => ?_)
   refine goes_ Try.func60 (by kernel_rfl) rfl #[.agg #[.bool a0_0, .slice Ao7 l0_1.length co7, .int .i64 a0_2]] (by rfl) rfl rfl (by (try simp only [List.map_toArray, List.map_cons, List.map_nil]); first | done | rfl | (simp only [List.length_drop, List.length_take]; rfl)) ?_
   with_reducible refine (cutplaneref02_Sign.calls a0_0 _ _ l0_1 a0_2 t354 _ ?side1 ?side2 A3.out).mono ?_
   (case side1 => repeat (first | exact (Kd.R_reads' HO0_1.out).2.2 | (with_reducible refine Kd.C_alloc ?_ _) | (with_reducible refine Kd.C_drewN ?_ _) | (with_reducible refine Kd.C_drew ?_)))
   (case side2 => exact (Kd.R_reads' HO0_1.out).2.1)
   rintro e w12 ⟨rfl, hb⟩
   refine ⟨_, rfl, ?_⟩
   have n0_ := A0_ (Kd.R_below (by exact rm_ HO0_1.out) hb)
   have n1_ := A0_ (Kd.R_below (by exact rm_ HO1_1.out) hb)
   have n2_ := A0_ (blk_below (bm_ BK352.out) hb)
   have n3_ := A0_ (blk_below (bm_ BK353.out) hb)
   have n4_ := A0_ (Kept.below (S := (fun k_ => P0_1_ k_ ∨ P1_1_ k_)) (by repeat (first | (with_reducible first | exact HK.out | apply Kept.alloc | apply Kept.drewN | apply Kept.drew | refine Kept.setCell ?_ (.inr GW352.out) _ | refine Kept.setCell ?_ (.inr GW353.out) _) | exact HK.out)) hb)
   have n5_ := A0_ (below_step (by repeat (first | (with_reducible first | exact qm_ HB.out | apply qA_ | apply qN_ | apply qD_ | refine below_set ?_ GE352.out | refine below_set ?_ GE353.out) | exact HB.out)) hb)
   clear HO0_1 HO1_1 BK352 BK353 HK HB
   have HO0_1 := n0_
   have HO1_1 := n1_
   have BK352 := n2_
   have BK353 := n3_
   have HK := n4_
   have HB := n5_
   clear n0_ n1_ n2_ n3_ n4_ n5_
   (try clear hb)
   refine hK.out _ _ ⟨bC_ BK352.out 0, bC_ BK352.out 1, bC_ BK352.out 2, bC_ BK353.out 0, bC_ BK353.out 1, bC_ BK353.out 2⟩ (fun hHeld => ?_)
   clear hK K
   refine norm_ (a' := ?_) ?_ ?_
   rotate_left
   ·show Act.put _ (some 8) _ = _
    simp only [Act.put, sp_, i64_w, i32_w]
    rfl
   refine one_ (i := 3) (N := some 10) #[true, true, true, true, false, false] rfl rfl (by kernel_rfl) (by decide) (fun K hK => ?_)
   refine goes_ Try.func60 (by kernel_rfl) rfl #[.agg #[.bool a1_0, .slice Ao9 l1_1.length co9, .int .i64 a1_2]] (by rfl) rfl rfl (by (try simp only [List.map_toArray, List.map_cons, List.map_nil]); first | done | rfl | (simp only [List.length_drop, List.length_take]; rfl)) ?_
   with_reducible refine (cutplaneref02_Sign.calls a1_0 _ _ l1_1 a1_2 t355 _ ?side1 ?side2 A4.out).mono ?_
   (case side1 => repeat (first | exact (Kd.R_reads' HO1_1.out).2.2 | (with_reducible refine Kd.C_alloc ?_ _) | (with_reducible refine Kd.C_drewN ?_ _) | (with_reducible refine Kd.C_drew ?_)))
   (case side2 => exact (Kd.R_reads' HO1_1.out).2.1)
   rintro e w13 ⟨rfl, hb⟩
   refine ⟨_, rfl, ?_⟩
   have n0_ := A0_ (Kd.R_below (by exact rm_ HO0_1.out) hb)
   have n1_ := A0_ (Kd.R_below (by exact rm_ HO1_1.out) hb)
   have n2_ := A0_ (blk_below (bm_ BK352.out) hb)
   have n3_ := A0_ (blk_below (bm_ BK353.out) hb)
   have n4_ := A0_ (Kept.below (S := (fun k_ => P0_1_ k_ ∨ P1_1_ k_)) (by repeat (first | (with_reducible first | exact HK.out | apply Kept.alloc | apply Kept.drewN | apply Kept.drew | refine Kept.setCell ?_ (.inr GW352.out) _ | refine Kept.setCell ?_ (.inr GW353.out) _) | exact HK.out)) hb)
   have n5_ := A0_ (below_step (by repeat (first | (with_reducible first | exact qm_ HB.out | apply qA_ | apply qN_ | apply qD_ | refine below_set ?_ GE352.out | refine below_set ?_ GE353.out) | exact HB.out)) hb)
   clear HO0_1 HO1_1 BK352 BK353 HK HB
   have HO0_1 := n0_
   have HO1_1 := n1_
   have BK352 := n2_
   have BK353 := n3_
   have HK := n4_
   have HB := n5_
   clear n0_ n1_ n2_ n3_ n4_ n5_
   (try clear hb)
   refine hK.out _ _ ⟨bC_ BK352.out 0, bC_ BK352.out 1, bC_ BK352.out 2, bC_ BK353.out 0, bC_ BK353.out 1, bC_ BK353.out 2⟩ (fun hHeld => ?_)
   clear hK K
   refine norm_ (a' := ?_) ?_ ?_
   rotate_left
   ·show Act.put _ (some 10) _ = _
    simp only [Act.put, sp_, i64_w, i32_w]
    rfl
   refine pure_ (i := 4) (N := some 5) (v := ?_) (a' := ?_) #[true, true, true, true, true, false] rfl rfl (by kernel_rfl) (fun _ _ _ h => h) (Or.inl ⟨by rfl, ?_⟩) ?_ ?_
   rotate_left
   ·intro w'
    go_simp
    with_reducible rfl
   rotate_left
   ·simp only [Act.put, sp_, i64_w, i32_w]
    rfl
   refine pure_ (i := 5) (N := some 6) (v := ?_) (a' := ?_) #[true, true, true, true, true, true] rfl rfl (by kernel_rfl) (fun _ _ _ h => h) (Or.inl ⟨by rfl, ?_⟩) ?_ ?_
   rotate_left
   ·intro w'
    go_simp
    with_reducible rfl
   rotate_left
   ·simp only [Act.put, sp_, i64_w, i32_w]
    rfl
   refine done_ (by kernel_rfl) ?_
   try go_wp2
   go_ret
   exact ⟨by first | rfl | (simp [errW_none, errW_some] <;> rfl) | (simp [*, errW_none, errW_some] <;> rfl), by repeat (first | (with_reducible first | exact qm_ HB.out | apply qA_ | apply qN_ | apply qD_ | refine below_set ?_ GE352.out | refine below_set ?_ GE353.out) | exact HB.out), by repeat (first | (with_reducible first | exact HK.out | apply Kept.alloc | apply Kept.drewN | apply Kept.drew | refine Kept.setCell ?_ (.inr GW352.out) _ | refine Kept.setCell ?_ (.inr GW353.out) _) | exact HK.out)⟩
  ·rw [if_neg c6] at H
   have c6b0 : (t354 == 0) = false := beq_eq_false_iff_ne.mpr c6
   have c6b1 : (t354 != 0) = true := bne_iff_ne.mpr c6
   replace H := Option.bind_eq_some_iff.mp H
   obtain ⟨t356, A140, H⟩ := H
   replace H : ((cutplaneref02_Top.f k a1_0 l1_1 a1_2).bind fun t357 => (if t356 = t357 then ((cutplaneref02_Sub.f k a0_0 l0_1 a0_2 a1_0 l1_1 a1_2).bind fun bt358 => ((cutplaneref02_Sign.f bt358.1 bt358.2.1 bt358.2.2).bind fun t363 => (some t363))) else ((cutplaneref02_Top.f k a0_0 l0_1 a0_2).bind fun t364 => ((cutplaneref02_Top.f k a1_0 l1_1 a1_2).bind fun t365 => (if ((decide (t364 < t365)) == (decide (t354 > 0))) = true then (some (-1)) else (some 1)))))) = some r := H
   have A14 := A0_ A140
   clear A140
   replace H := Option.bind_eq_some_iff.mp H
   obtain ⟨t357, A150, H⟩ := H
   replace H : (if t356 = t357 then ((cutplaneref02_Sub.f k a0_0 l0_1 a0_2 a1_0 l1_1 a1_2).bind fun bt358 => ((cutplaneref02_Sign.f bt358.1 bt358.2.1 bt358.2.2).bind fun t363 => (some t363))) else ((cutplaneref02_Top.f k a0_0 l0_1 a0_2).bind fun t364 => ((cutplaneref02_Top.f k a1_0 l1_1 a1_2).bind fun t365 => (if ((decide (t364 < t365)) == (decide (t354 > 0))) = true then (some (-1)) else (some 1))))) = some r := H
   have A15 := A0_ A150
   clear A150
   by_cases c16 : t356 = t357
   ·rw [if_pos c16] at H
    have c16b0 : (t356 == t357) = true := beq_iff_eq.mpr c16
    have c16b1 : (t356 != t357) = false := bne_eq_false_iff_eq.mpr c16
    clear c16
    replace H := Option.bind_eq_some_iff.mp H
    obtain ⟨⟨t358, t359, t362⟩, A170, H⟩ := H
    replace H : ((cutplaneref02_Sign.f t358 t359 t362).bind fun t363 => (some t363)) = some r := H
    have A17 := A0_ A170
    clear A170
    replace H := Option.bind_eq_some_iff.mp H
    obtain ⟨t363, A180, H⟩ := H
    replace H : (some t363) = some r := H
    have A18 := A0_ A180
    clear A180
    obtain rfl := Option.some.inj H
    obtain ⟨Ao19, co19, eo19⟩ := Kd.R_slice HO0_1.out
    subst eo19
    go_enter Try.func40, Try.ntmps40
    try go_wp2_with (first | ((with_reducible refine gate_dst (N := 2) rfl ?_); refine box_event ?hg (N := 2) ?hd (cs := #[.bool a0_0, .slice Ao19 l0_1.length co19, .int .i64 a0_2]) (t := 64) ?hr ?_; (case hd => rfl); (case hg => rfl); (case hr => first | (go_simp; done) | (go_simp; rfl)); intro gb352 hg w20 hbox hb; have n0_ := A0_ (Kd.R_below (by exact rm_ HO0_1.out) hb); have n1_ := A0_ (Kd.R_below (by exact rm_ HO1_1.out) hb); have n2_ := A0_ (Kept.below (S := (fun k_ => P0_1_ k_ ∨ P1_1_ k_)) (by repeat (first | (with_reducible first | exact HK.out | apply Kept.alloc | apply Kept.drewN | apply Kept.drew) | exact HK.out)) hb); have n3_ := A0_ (below_step (qm_ HB.out) hb); have n4_ := A0_ (hbox); have n5_ := A0_ ((by rw [hg]; exact (by first | exact HK.out.1 | exact (show Kept w _ (fun k_ => P0_1_ k_ ∨ P1_1_ k_) from by repeat (first | (with_reducible first | exact HK.out | apply Kept.alloc | apply Kept.drewN | apply Kept.drew) | exact HK.out)).1) : w.heap.size ≤ gb352)); have n6_ := A0_ ((by rw [hg]; exact (below_size (qm_ HB.out)) : w0.heap.size ≤ gb352)); clear HO0_1 HO1_1 HK HB; have HO0_1 := n0_; have HO1_1 := n1_; have HK := n2_; have HB := n3_; have BK352 := n4_; have GW352 := n5_; have GE352 := n6_; clear n0_ n1_ n2_ n3_ n4_ n5_ n6_ hb hbox hg; obtain ⟨Ao21, co21, eo21⟩ := Kd.R_slice HO1_1.out; subst eo21) | ((with_reducible refine gate_dst (N := 3) rfl ?_); refine box_event ?hg (N := 3) ?hd (cs := #[.bool a1_0, .slice Ao21 l1_1.length co21, .int .i64 a1_2]) (t := 64) ?hr ?_; (case hd => rfl); (case hg => rfl); (case hr => first | (go_simp; done) | (go_simp; rfl)); intro gb353 hg w22 hbox hb; have n0_ := A0_ (Kd.R_below (by exact rm_ HO0_1.out) hb); have n1_ := A0_ (Kd.R_below (by exact rm_ HO1_1.out) hb); have n2_ := A0_ (blk_below (bm_ BK352.out) hb); have n3_ := A0_ (Kept.below (S := (fun k_ => P0_1_ k_ ∨ P1_1_ k_)) (by repeat (first | (with_reducible first | exact HK.out | apply Kept.alloc | apply Kept.drewN | apply Kept.drew | refine Kept.setCell ?_ (.inr GW352.out) _) | exact HK.out)) hb); have n4_ := A0_ (below_step (by repeat (first | (with_reducible first | exact qm_ HB.out | apply qA_ | apply qN_ | apply qD_ | refine below_set ?_ GE352.out) | exact HB.out)) hb); have n5_ := A0_ (hbox); have n6_ := A0_ ((by rw [hg]; exact (by first | exact HK.out.1 | exact (show Kept w _ (fun k_ => P0_1_ k_ ∨ P1_1_ k_) from by repeat (first | (with_reducible first | exact HK.out | apply Kept.alloc | apply Kept.drewN | apply Kept.drew | refine Kept.setCell ?_ (.inr GW352.out) _) | exact HK.out)).1) : w.heap.size ≤ gb353)); have n7_ := A0_ ((by rw [hg]; exact (below_size (by repeat (first | (with_reducible first | exact qm_ HB.out | apply qA_ | apply qN_ | apply qD_ | refine below_set ?_ GE352.out) | exact HB.out))) : w0.heap.size ≤ gb353)); have n8_ := A0_ ((by rw [hg]; exact Nat.ne_of_lt (blk_lt (bm_ BK352.out)) : gb352 ≠ gb353)); have n9_ := A0_ ((by rw [hg]; exact Nat.ne_of_gt (blk_lt (bm_ BK352.out)) : gb353 ≠ gb352)); clear HO0_1 HO1_1 BK352 HK HB; have HO0_1 := n0_; have HO1_1 := n1_; have BK352 := n2_; have HK := n3_; have HB := n4_; have BK353 := n5_; have GW353 := n6_; have GE353 := n7_; have NB352_353 := n8_; have NB353_352 := n9_; clear n0_ n1_ n2_ n3_ n4_ n5_ n6_ n7_ n8_ n9_ hb hbox hg))
    have n0_ := A0_ (Kd.R_drew HO0_1.out)
    have n1_ := A0_ (Kd.R_drew HO1_1.out)
    have n2_ := A0_ (blk_drew BK352.out)
    have n3_ := A0_ (blk_drew BK353.out)
    have n4_ := A0_ (Kept.drew HK.out)
    have n5_ := A0_ (below_drew1 HB.out)
    clear HO0_1 HO1_1 BK352 BK353 HK HB
    have HO0_1 := n0_
    have HO1_1 := n1_
    have BK352 := n2_
    have BK353 := n3_
    have HK := n4_
    have HB := n5_
    clear n0_ n1_ n2_ n3_ n4_ n5_
    refine start_ (n := 6) (S := fun w' => w'.cell? ⟨gb352, 0, none⟩ = some (.bool a0_0) ∧ w'.cell? ⟨gb352, 1, none⟩ = some (.slice Ao19 l0_1.length co19) ∧ w'.cell? ⟨gb352, 2, none⟩ = some (.int .i64 a0_2) ∧ w'.cell? ⟨gb353, 0, none⟩ = some (.bool a1_0) ∧ w'.cell? ⟨gb353, 1, none⟩ = some (.slice Ao21 l1_1.length co21) ∧ w'.cell? ⟨gb353, 2, none⟩ = some (.int .i64 a1_2)) (ds := []) #[false, false, false, false, false, false] (by kernel_rfl) rfl rfl ⟨bC_ BK352.out 0, bC_ BK352.out 1, bC_ BK352.out 2, bC_ BK353.out 0, bC_ BK353.out 1, bC_ BK353.out 2⟩ (fun hHeld => ?_)
    generalize w22.drew = w23 at HO0_1 HO1_1 BK352 BK353 HK HB hHeld ⊢
    refine take_ (i := 0) (N := some 7) (v := ?_) (a' := ?_) #[true, false, false, false, false, false] rfl rfl (by kernel_rfl) (fun _ _ _ h => h) (Or.inl ⟨by rfl, ?_⟩) hHeld ?_ ?_
    rotate_left
    ·rintro w' ⟨s0, s1, s2, s3, s4, s5⟩
     go_simp
     with_reducible rfl
    rotate_left
    ·simp only [Act.put, sp_, i64_w, i32_w]
     rfl
    refine take_ (i := 2) (N := some 9) (v := ?_) (a' := ?_) #[true, false, true, false, false, false] rfl rfl (by kernel_rfl) (fun _ _ _ h => h) (Or.inl ⟨by rfl, ?_⟩) hHeld ?_ ?_
    rotate_left
    ·rintro w' ⟨s0, s1, s2, s3, s4, s5⟩
     go_simp
     with_reducible rfl
    rotate_left
    ·simp only [Act.put, sp_, i64_w, i32_w]
     rfl
    refine one_ (i := 1) (N := some 8) #[true, true, true, false, false, false] rfl rfl (by kernel_rfl) (by decide) (fun K hK => ?_)
    refine goes_ Try.func60 (by kernel_rfl) rfl #[.agg #[.bool a0_0, .slice Ao19 l0_1.length co19, .int .i64 a0_2]] (by rfl) rfl rfl (by (try simp only [List.map_toArray, List.map_cons, List.map_nil]); first | done | rfl | (simp only [List.length_drop, List.length_take]; rfl)) ?_
    with_reducible refine (cutplaneref02_Sign.calls a0_0 _ _ l0_1 a0_2 t354 _ ?side1 ?side2 A3.out).mono ?_
    (case side1 => repeat (first | exact (Kd.R_reads' HO0_1.out).2.2 | (with_reducible refine Kd.C_alloc ?_ _) | (with_reducible refine Kd.C_drewN ?_ _) | (with_reducible refine Kd.C_drew ?_)))
    (case side2 => exact (Kd.R_reads' HO0_1.out).2.1)
    rintro e w24 ⟨rfl, hb⟩
    refine ⟨_, rfl, ?_⟩
    have n0_ := A0_ (Kd.R_below (by exact rm_ HO0_1.out) hb)
    have n1_ := A0_ (Kd.R_below (by exact rm_ HO1_1.out) hb)
    have n2_ := A0_ (blk_below (bm_ BK352.out) hb)
    have n3_ := A0_ (blk_below (bm_ BK353.out) hb)
    have n4_ := A0_ (Kept.below (S := (fun k_ => P0_1_ k_ ∨ P1_1_ k_)) (by repeat (first | (with_reducible first | exact HK.out | apply Kept.alloc | apply Kept.drewN | apply Kept.drew | refine Kept.setCell ?_ (.inr GW352.out) _ | refine Kept.setCell ?_ (.inr GW353.out) _) | exact HK.out)) hb)
    have n5_ := A0_ (below_step (by repeat (first | (with_reducible first | exact qm_ HB.out | apply qA_ | apply qN_ | apply qD_ | refine below_set ?_ GE352.out | refine below_set ?_ GE353.out) | exact HB.out)) hb)
    clear HO0_1 HO1_1 BK352 BK353 HK HB
    have HO0_1 := n0_
    have HO1_1 := n1_
    have BK352 := n2_
    have BK353 := n3_
    have HK := n4_
    have HB := n5_
    clear n0_ n1_ n2_ n3_ n4_ n5_
    (try clear hb)
    refine hK.out _ _ ⟨bC_ BK352.out 0, bC_ BK352.out 1, bC_ BK352.out 2, bC_ BK353.out 0, bC_ BK353.out 1, bC_ BK353.out 2⟩ (fun hHeld => ?_)
    clear hK K
    refine norm_ (a' := ?_) ?_ ?_
    rotate_left
    ·show Act.put _ (some 8) _ = _
     simp only [Act.put, sp_, i64_w, i32_w]
     rfl
    refine one_ (i := 3) (N := some 10) #[true, true, true, true, false, false] rfl rfl (by kernel_rfl) (by decide) (fun K hK => ?_)
    refine goes_ Try.func60 (by kernel_rfl) rfl #[.agg #[.bool a1_0, .slice Ao21 l1_1.length co21, .int .i64 a1_2]] (by rfl) rfl rfl (by (try simp only [List.map_toArray, List.map_cons, List.map_nil]); first | done | rfl | (simp only [List.length_drop, List.length_take]; rfl)) ?_
    with_reducible refine (cutplaneref02_Sign.calls a1_0 _ _ l1_1 a1_2 t355 _ ?side1 ?side2 A4.out).mono ?_
    (case side1 => repeat (first | exact (Kd.R_reads' HO1_1.out).2.2 | (with_reducible refine Kd.C_alloc ?_ _) | (with_reducible refine Kd.C_drewN ?_ _) | (with_reducible refine Kd.C_drew ?_)))
    (case side2 => exact (Kd.R_reads' HO1_1.out).2.1)
    rintro e w25 ⟨rfl, hb⟩
    refine ⟨_, rfl, ?_⟩
    have n0_ := A0_ (Kd.R_below (by exact rm_ HO0_1.out) hb)
    have n1_ := A0_ (Kd.R_below (by exact rm_ HO1_1.out) hb)
    have n2_ := A0_ (blk_below (bm_ BK352.out) hb)
    have n3_ := A0_ (blk_below (bm_ BK353.out) hb)
    have n4_ := A0_ (Kept.below (S := (fun k_ => P0_1_ k_ ∨ P1_1_ k_)) (by repeat (first | (with_reducible first | exact HK.out | apply Kept.alloc | apply Kept.drewN | apply Kept.drew | refine Kept.setCell ?_ (.inr GW352.out) _ | refine Kept.setCell ?_ (.inr GW353.out) _) | exact HK.out)) hb)
    have n5_ := A0_ (below_step (by repeat (first | (with_reducible first | exact qm_ HB.out | apply qA_ | apply qN_ | apply qD_ | refine below_set ?_ GE352.out | refine below_set ?_ GE353.out) | exact HB.out)) hb)
    clear HO0_1 HO1_1 BK352 BK353 HK HB
    have HO0_1 := n0_
    have HO1_1 := n1_
    have BK352 := n2_
    have BK353 := n3_
    have HK := n4_
    have HB := n5_
    clear n0_ n1_ n2_ n3_ n4_ n5_
    (try clear hb)
    refine hK.out _ _ ⟨bC_ BK352.out 0, bC_ BK352.out 1, bC_ BK352.out 2, bC_ BK353.out 0, bC_ BK353.out 1, bC_ BK353.out 2⟩ (fun hHeld => ?_)
    clear hK K
    refine norm_ (a' := ?_) ?_ ?_
    rotate_left
    ·show Act.put _ (some 10) _ = _
     simp only [Act.put, sp_, i64_w, i32_w]
     rfl
    refine pure_ (i := 4) (N := some 5) (v := ?_) (a' := ?_) #[true, true, true, true, true, false] rfl rfl (by kernel_rfl) (fun _ _ _ h => h) (Or.inl ⟨by rfl, ?_⟩) ?_ ?_
    rotate_left
    ·intro w'
     go_simp
     with_reducible rfl
    rotate_left
    ·simp only [Act.put, sp_, i64_w, i32_w]
     rfl
    refine pure_ (i := 5) (N := some 6) (v := ?_) (a' := ?_) #[true, true, true, true, true, true] rfl rfl (by kernel_rfl) (fun _ _ _ h => h) (Or.inl ⟨by rfl, ?_⟩) ?_ ?_
    rotate_left
    ·intro w'
     go_simp
     with_reducible rfl
    rotate_left
    ·simp only [Act.put, sp_, i64_w, i32_w]
     rfl
    refine done_ (by kernel_rfl) ?_
    try go_wp2
    have n0_ := A0_ (Kd.R_drew HO0_1.out)
    have n1_ := A0_ (Kd.R_drew HO1_1.out)
    have n2_ := A0_ (blk_drew BK352.out)
    have n3_ := A0_ (blk_drew BK353.out)
    have n4_ := A0_ (Kept.drew HK.out)
    have n5_ := A0_ (below_drew1 HB.out)
    clear HO0_1 HO1_1 BK352 BK353 HK HB
    have HO0_1 := n0_
    have HO1_1 := n1_
    have BK352 := n2_
    have BK353 := n3_
    have HK := n4_
    have HB := n5_
    clear n0_ n1_ n2_ n3_ n4_ n5_
    refine start_ (n := 5) (S := fun w' => w'.cell? ⟨gb352, 0, none⟩ = some (.bool a0_0) ∧ w'.cell? ⟨gb352, 1, none⟩ = some (.slice Ao19 l0_1.length co19) ∧ w'.cell? ⟨gb352, 2, none⟩ = some (.int .i64 a0_2) ∧ w'.cell? ⟨gb353, 0, none⟩ = some (.bool a1_0) ∧ w'.cell? ⟨gb353, 1, none⟩ = some (.slice Ao21 l1_1.length co21) ∧ w'.cell? ⟨gb353, 2, none⟩ = some (.int .i64 a1_2)) (ds := []) #[false, false, false, false, false] (by kernel_rfl) rfl rfl ⟨bC_ BK352.out 0, bC_ BK352.out 1, bC_ BK352.out 2, bC_ BK353.out 0, bC_ BK353.out 1, bC_ BK353.out 2⟩ (fun hHeld => ?_)
    generalize w25.drew = w26 at HO0_1 HO1_1 BK352 BK353 HK HB hHeld ⊢
    refine take_ (i := 0) (N := some 19) (v := ?_) (a' := ?_) #[true, false, false, false, false] rfl rfl (by kernel_rfl) (fun _ _ _ h => h) (Or.inl ⟨by rfl, ?_⟩) hHeld ?_ ?_
    rotate_left
    ·rintro w' ⟨s0, s1, s2, s3, s4, s5⟩
     go_simp
     with_reducible rfl
    rotate_left
    ·simp only [Act.put, sp_, i64_w, i32_w]
     rfl
    refine take_ (i := 2) (N := some 21) (v := ?_) (a' := ?_) #[true, false, true, false, false] rfl rfl (by kernel_rfl) (fun _ _ _ h => h) (Or.inl ⟨by rfl, ?_⟩) hHeld ?_ ?_
    rotate_left
    ·rintro w' ⟨s0, s1, s2, s3, s4, s5⟩
     go_simp
     with_reducible rfl
    rotate_left
    ·simp only [Act.put, sp_, i64_w, i32_w]
     rfl
    refine one_ (i := 1) (N := some 20) #[true, true, true, false, false] rfl rfl (by kernel_rfl) (by decide) (fun K hK => ?_)
    refine goes_ Try.func61 (by kernel_rfl) rfl #[.agg #[.bool a0_0, .slice Ao19 l0_1.length co19, .int .i64 a0_2]] (by rfl) rfl rfl (by (try simp only [List.map_toArray, List.map_cons, List.map_nil]); first | done | rfl | (simp only [List.length_drop, List.length_take]; rfl)) ?_
    with_reducible refine (cutplaneref02_Top.calls k a0_0 _ _ l0_1 a0_2 t356 _ ?side1 ?side2 A14.out).mono ?_
    (case side1 => repeat (first | exact (Kd.R_reads' HO0_1.out).2.2 | (with_reducible refine Kd.C_alloc ?_ _) | (with_reducible refine Kd.C_drewN ?_ _) | (with_reducible refine Kd.C_drew ?_)))
    (case side2 => exact (Kd.R_reads' HO0_1.out).2.1)
    rintro e w27 ⟨rfl, hb⟩
    refine ⟨_, rfl, ?_⟩
    have n0_ := A0_ (Kd.R_below (by exact rm_ HO0_1.out) hb)
    have n1_ := A0_ (Kd.R_below (by exact rm_ HO1_1.out) hb)
    have n2_ := A0_ (blk_below (bm_ BK352.out) hb)
    have n3_ := A0_ (blk_below (bm_ BK353.out) hb)
    have n4_ := A0_ (Kept.below (S := (fun k_ => P0_1_ k_ ∨ P1_1_ k_)) (by repeat (first | (with_reducible first | exact HK.out | apply Kept.alloc | apply Kept.drewN | apply Kept.drew | refine Kept.setCell ?_ (.inr GW352.out) _ | refine Kept.setCell ?_ (.inr GW353.out) _) | exact HK.out)) hb)
    have n5_ := A0_ (below_step (by repeat (first | (with_reducible first | exact qm_ HB.out | apply qA_ | apply qN_ | apply qD_ | refine below_set ?_ GE352.out | refine below_set ?_ GE353.out) | exact HB.out)) hb)
    clear HO0_1 HO1_1 BK352 BK353 HK HB
    have HO0_1 := n0_
    have HO1_1 := n1_
    have BK352 := n2_
    have BK353 := n3_
    have HK := n4_
    have HB := n5_
    clear n0_ n1_ n2_ n3_ n4_ n5_
    (try clear hb)
    refine hK.out _ _ ⟨bC_ BK352.out 0, bC_ BK352.out 1, bC_ BK352.out 2, bC_ BK353.out 0, bC_ BK353.out 1, bC_ BK353.out 2⟩ (fun hHeld => ?_)
    clear hK K
    refine norm_ (a' := ?_) ?_ ?_
    rotate_left
    ·show Act.put _ (some 20) _ = _
     simp only [Act.put, sp_, i64_w, i32_w]
     rfl
    refine one_ (i := 3) (N := some 22) #[true, true, true, true, false] rfl rfl (by kernel_rfl) (by decide) (fun K hK => ?_)
    refine goes_ Try.func61 (by kernel_rfl) rfl #[.agg #[.bool a1_0, .slice Ao21 l1_1.length co21, .int .i64 a1_2]] (by rfl) rfl rfl (by (try simp only [List.map_toArray, List.map_cons, List.map_nil]); first | done | rfl | (simp only [List.length_drop, List.length_take]; rfl)) ?_
    with_reducible refine (cutplaneref02_Top.calls k a1_0 _ _ l1_1 a1_2 t357 _ ?side1 ?side2 A15.out).mono ?_
    (case side1 => repeat (first | exact (Kd.R_reads' HO1_1.out).2.2 | (with_reducible refine Kd.C_alloc ?_ _) | (with_reducible refine Kd.C_drewN ?_ _) | (with_reducible refine Kd.C_drew ?_)))
    (case side2 => exact (Kd.R_reads' HO1_1.out).2.1)
    rintro e w28 ⟨rfl, hb⟩
    refine ⟨_, rfl, ?_⟩
    have n0_ := A0_ (Kd.R_below (by exact rm_ HO0_1.out) hb)
    have n1_ := A0_ (Kd.R_below (by exact rm_ HO1_1.out) hb)
    have n2_ := A0_ (blk_below (bm_ BK352.out) hb)
    have n3_ := A0_ (blk_below (bm_ BK353.out) hb)
    have n4_ := A0_ (Kept.below (S := (fun k_ => P0_1_ k_ ∨ P1_1_ k_)) (by repeat (first | (with_reducible first | exact HK.out | apply Kept.alloc | apply Kept.drewN | apply Kept.drew | refine Kept.setCell ?_ (.inr GW352.out) _ | refine Kept.setCell ?_ (.inr GW353.out) _) | exact HK.out)) hb)
    have n5_ := A0_ (below_step (by repeat (first | (with_reducible first | exact qm_ HB.out | apply qA_ | apply qN_ | apply qD_ | refine below_set ?_ GE352.out | refine below_set ?_ GE353.out) | exact HB.out)) hb)
    clear HO0_1 HO1_1 BK352 BK353 HK HB
    have HO0_1 := n0_
    have HO1_1 := n1_
    have BK352 := n2_
    have BK353 := n3_
    have HK := n4_
    have HB := n5_
    clear n0_ n1_ n2_ n3_ n4_ n5_
    (try clear hb)
    refine hK.out _ _ ⟨bC_ BK352.out 0, bC_ BK352.out 1, bC_ BK352.out 2, bC_ BK353.out 0, bC_ BK353.out 1, bC_ BK353.out 2⟩ (fun hHeld => ?_)
    clear hK K
    refine norm_ (a' := ?_) ?_ ?_
    rotate_left
    ·show Act.put _ (some 22) _ = _
     simp only [Act.put, sp_, i64_w, i32_w]
     rfl
    refine pure_ (i := 4) (N := some 23) (v := ?_) (a' := ?_) #[true, true, true, true, true] rfl rfl (by kernel_rfl) (fun _ _ _ h => h) (Or.inl ⟨by rfl, ?_⟩) ?_ ?_
    rotate_left
    ·intro w'
     go_simp
     with_reducible rfl
    rotate_left
    ·simp only [Act.put, sp_, i64_w, i32_w]
     rfl
    refine done_ (by kernel_rfl) ?_
    have hnb29 := NB352_353.out
    have hnc29 := NB353_352.out
    have hcz30 := bc3_ BK352.out
    have hfz30 := bf3_ BK352.out
    have hcz31 := bc3_ BK353.out
    have hfz31 := bf3_ BK353.out
    try go_wp2_with (first | ((with_reducible refine gate_callee (f := 62) rfl ?_); refine goesL_ (some 34) rfl rfl Try.func62 (by kernel_rfl) rfl #[.agg #[.bool a0_0, .slice Ao19 l0_1.length co19, .int .i64 a0_2], .agg #[.bool a1_0, .slice Ao21 l1_1.length co21, .int .i64 a1_2]] rfl (by (try simp only [List.map_toArray, List.map_cons, List.map_nil]); first | done | rfl | (simp only [List.length_drop, List.length_take]; rfl)) ?_; (with_reducible refine (cutplaneref02_Sub.calls k a0_0 (fun k_ => some k_ = (.slice Ao19 l0_1.length co19 : Value).ownBlock) (.slice Ao19 l0_1.length co19) l0_1 a0_2 a1_0 (fun k_ => some k_ = (.slice Ao21 l1_1.length co21 : Value).ownBlock) (.slice Ao21 l1_1.length co21) l1_1 a1_2 t358 t359 t362 w0 _ ?side1 ?side2 ?side3 ?side4 ?side5 A17.out).mono ?_); (case side1 => repeat (first | (with_reducible first | exact HB.out | apply below_alloc | apply pw_below_drewN | apply below_drew1 | refine below_set ?_ GE352.out | refine below_set ?_ GE353.out) | exact HB.out)); (case side2 => exact Kd.R_tight rfl HO0_1.out); (case side3 => exact fun k_ e_ => (HO0_1.out.1 k_ e_.symm).2); (case side4 => exact Kd.R_tight rfl HO1_1.out); (case side5 => exact fun k_ e_ => (HO1_1.out.1 k_ e_.symm).2); rintro e w32 ⟨v360, rfl, ho0, hb, hkp⟩; refine ⟨_, rfl, ?_⟩; have n0_ := A0_ (blk_kept (bm_ BK352.out) hkp (fun hs_ => Or.elim hs_ (fun e_ => (fun e_ => (Kd.R_ne HO0_1.out BK352.out (by decide)) e_) e_) (fun e_ => (fun e_ => (Kd.R_ne HO1_1.out BK352.out (by decide)) e_) e_))); have n1_ := A0_ (blk_kept (bm_ BK353.out) hkp (fun hs_ => Or.elim hs_ (fun e_ => (fun e_ => (Kd.R_ne HO0_1.out BK353.out (by decide)) e_) e_) (fun e_ => (fun e_ => (Kd.R_ne HO1_1.out BK353.out (by decide)) e_) e_))); have n2_ := A0_ (Kd.R_mono (ok' := fun k_ => ((P0_1_ k_ ∨ P1_1_ k_) ∨ w.heap.size ≤ k_)) ho0 (fun k_ hk_ => Or.elim hk_ (fun hs_ => Or.elim hs_ (fun hs_ => (HO0_1.out.1 k_ (hs_).symm).1) (fun hs_ => (HO1_1.out.1 k_ (hs_).symm).1)) (fun hn_ => (.inr (Nat.le_trans (by first | exact HK.out.1 | exact (show Kept w _ (fun k_ => P0_1_ k_ ∨ P1_1_ k_) from by repeat (first | (with_reducible first | exact HK.out | apply Kept.alloc | apply Kept.drewN | apply Kept.drew | refine Kept.setCell ?_ (.inr GW352.out) _ | refine Kept.setCell ?_ (.inr GW353.out) _) | exact HK.out)).1) hn_))))); have n3_ := A0_ (Kept.then_ (S := (fun k_ => P0_1_ k_ ∨ P1_1_ k_)) (by repeat (first | (with_reducible first | exact HK.out | apply Kept.alloc | apply Kept.drewN | apply Kept.drew | refine Kept.setCell ?_ (.inr GW352.out) _ | refine Kept.setCell ?_ (.inr GW353.out) _) | exact HK.out)) hkp (fun k_ hs_ => Or.elim hs_ (fun e_ => (fun e_ => (HO0_1.out.1 k_ e_.symm).1) e_) (fun e_ => (fun e_ => (HO1_1.out.1 k_ e_.symm).1) e_))); have n4_ := A0_ (hb); clear BK352 BK353 HK HB HO0_1 HO1_1; have BK352 := n0_; have BK353 := n1_; have HO361 := n2_; have HK := n3_; have HB := n4_; clear n0_ n1_ n2_ n3_ n4_; (try clear hb); (try clear hkp); (try clear ho0); obtain ⟨Ao33, co33, eo33⟩ := Kd.R_slice HO361.out; subst eo33) | ((with_reducible refine gate_callee (f := 60) rfl ?_); refine goesL_ (some 35) rfl rfl Try.func60 (by kernel_rfl) rfl #[.agg #[.bool t358, .slice Ao33 t359.length co33, .int .i64 t362]] rfl (by (try simp only [List.map_toArray, List.map_cons, List.map_nil]); first | done | rfl | (simp only [List.length_drop, List.length_take]; rfl)) ?_; (with_reducible refine (cutplaneref02_Sign.calls t358 _ _ t359 t362 t363 _ ?side1 ?side2 A18.out).mono ?_); (case side1 => repeat (first | exact (Kd.R_reads' HO361.out).2.2 | (with_reducible refine Kd.C_alloc ?_ _) | (with_reducible refine Kd.C_drewN ?_ _) | (with_reducible refine Kd.C_drew ?_))); (case side2 => exact (Kd.R_reads' HO361.out).2.1); rintro e w34 ⟨rfl, hb⟩; refine ⟨_, rfl, ?_⟩; have n0_ := A0_ (Kd.R_below (by exact rm_ HO361.out) hb); have n1_ := A0_ (blk_below (bm_ BK352.out) hb); have n2_ := A0_ (blk_below (bm_ BK353.out) hb); have n3_ := A0_ (Kept.below (S := (fun k_ => P0_1_ k_ ∨ P1_1_ k_)) (by repeat (first | (with_reducible first | exact HK.out | apply Kept.alloc | apply Kept.drewN | apply Kept.drew | refine Kept.setCell ?_ (.inr GW352.out) _ | refine Kept.setCell ?_ (.inr GW353.out) _) | exact HK.out)) hb); have n4_ := A0_ (below_step (by repeat (first | (with_reducible first | exact qm_ HB.out | apply qA_ | apply qN_ | apply qD_ | refine below_set ?_ GE352.out | refine below_set ?_ GE353.out) | exact HB.out)) hb); clear HO361 BK352 BK353 HK HB; have HO361 := n0_; have BK352 := n1_; have BK353 := n2_; have HK := n3_; have HB := n4_; clear n0_ n1_ n2_ n3_ n4_; (try clear hb)))
    go_ret
    exact ⟨by first | rfl | (simp [errW_none, errW_some] <;> rfl) | (simp [*, errW_none, errW_some] <;> rfl), by repeat (first | (with_reducible first | exact qm_ HB.out | apply qA_ | apply qN_ | apply qD_ | refine below_set ?_ GE352.out | refine below_set ?_ GE353.out) | exact HB.out), by repeat (first | (with_reducible first | exact HK.out | apply Kept.alloc | apply Kept.drewN | apply Kept.drew | refine Kept.setCell ?_ (.inr GW352.out) _ | refine Kept.setCell ?_ (.inr GW353.out) _) | exact HK.out)⟩
   ·rw [if_neg c16] at H
    have c16b0 : (t356 == t357) = false := beq_eq_false_iff_ne.mpr c16
    have c16b1 : (t356 != t357) = true := bne_iff_ne.mpr c16
    replace H := Option.bind_eq_some_iff.mp H
    obtain ⟨t364, A350, H⟩ := H
    replace H : ((cutplaneref02_Top.f k a1_0 l1_1 a1_2).bind fun t365 => (if ((decide (t364 < t365)) == (decide (t354 > 0))) = true then (some (-1)) else (some 1))) = some r := H
    have A35 := A0_ A350
    clear A350
    replace H := Option.bind_eq_some_iff.mp H
    obtain ⟨t365, A360, H⟩ := H
    replace H : (if ((decide (t364 < t365)) == (decide (t354 > 0))) = true then (some (-1)) else (some 1)) = some r := H
    have A36 := A0_ A360
    clear A360
    by_cases c37 : ((decide (t364 < t365)) == (decide (t354 > 0))) = true
    ·rw [if_pos c37] at H
     have c37b0 : ((decide (t364 < t365)) == (decide (t354 > 0))) = true := c37
     (try (have c37b1 : decide ((decide (t364 < t365)) = (decide (t354 > 0))) = true := by simpa using c37))
     (try (have c37b2 : ((decide (t364 < t365)) == (decide (t354 > 0))) = true := by simpa using c37))
     clear c37
     obtain rfl := Option.some.inj H
     obtain ⟨Ao38, co38, eo38⟩ := Kd.R_slice HO0_1.out
     subst eo38
     go_enter Try.func40, Try.ntmps40
     try go_wp2_with (first | ((with_reducible refine gate_dst (N := 2) rfl ?_); refine box_event ?hg (N := 2) ?hd (cs := #[.bool a0_0, .slice Ao38 l0_1.length co38, .int .i64 a0_2]) (t := 64) ?hr ?_; (case hd => rfl); (case hg => rfl); (case hr => first | (go_simp; done) | (go_simp; rfl)); intro gb352 hg w39 hbox hb; have n0_ := A0_ (Kd.R_below (by exact rm_ HO0_1.out) hb); have n1_ := A0_ (Kd.R_below (by exact rm_ HO1_1.out) hb); have n2_ := A0_ (Kept.below (S := (fun k_ => P0_1_ k_ ∨ P1_1_ k_)) (by repeat (first | (with_reducible first | exact HK.out | apply Kept.alloc | apply Kept.drewN | apply Kept.drew) | exact HK.out)) hb); have n3_ := A0_ (below_step (qm_ HB.out) hb); have n4_ := A0_ (hbox); have n5_ := A0_ ((by rw [hg]; exact (by first | exact HK.out.1 | exact (show Kept w _ (fun k_ => P0_1_ k_ ∨ P1_1_ k_) from by repeat (first | (with_reducible first | exact HK.out | apply Kept.alloc | apply Kept.drewN | apply Kept.drew) | exact HK.out)).1) : w.heap.size ≤ gb352)); have n6_ := A0_ ((by rw [hg]; exact (below_size (qm_ HB.out)) : w0.heap.size ≤ gb352)); clear HO0_1 HO1_1 HK HB; have HO0_1 := n0_; have HO1_1 := n1_; have HK := n2_; have HB := n3_; have BK352 := n4_; have GW352 := n5_; have GE352 := n6_; clear n0_ n1_ n2_ n3_ n4_ n5_ n6_ hb hbox hg; obtain ⟨Ao40, co40, eo40⟩ := Kd.R_slice HO1_1.out; subst eo40) | ((with_reducible refine gate_dst (N := 3) rfl ?_); refine box_event ?hg (N := 3) ?hd (cs := #[.bool a1_0, .slice Ao40 l1_1.length co40, .int .i64 a1_2]) (t := 64) ?hr ?_; (case hd => rfl); (case hg => rfl); (case hr => first | (go_simp; done) | (go_simp; rfl)); intro gb353 hg w41 hbox hb; have n0_ := A0_ (Kd.R_below (by exact rm_ HO0_1.out) hb); have n1_ := A0_ (Kd.R_below (by exact rm_ HO1_1.out) hb); have n2_ := A0_ (blk_below (bm_ BK352.out) hb); have n3_ := A0_ (Kept.below (S := (fun k_ => P0_1_ k_ ∨ P1_1_ k_)) (by repeat (first | (with_reducible first | exact HK.out | apply Kept.alloc | apply Kept.drewN | apply Kept.drew | refine Kept.setCell ?_ (.inr GW352.out) _) | exact HK.out)) hb); have n4_ := A0_ (below_step (by repeat (first | (with_reducible first | exact qm_ HB.out | apply qA_ | apply qN_ | apply qD_ | refine below_set ?_ GE352.out) | exact HB.out)) hb); have n5_ := A0_ (hbox); have n6_ := A0_ ((by rw [hg]; exact (by first | exact HK.out.1 | exact (show Kept w _ (fun k_ => P0_1_ k_ ∨ P1_1_ k_) from by repeat (first | (with_reducible first | exact HK.out | apply Kept.alloc | apply Kept.drewN | apply Kept.drew | refine Kept.setCell ?_ (.inr GW352.out) _) | exact HK.out)).1) : w.heap.size ≤ gb353)); have n7_ := A0_ ((by rw [hg]; exact (below_size (by repeat (first | (with_reducible first | exact qm_ HB.out | apply qA_ | apply qN_ | apply qD_ | refine below_set ?_ GE352.out) | exact HB.out))) : w0.heap.size ≤ gb353)); have n8_ := A0_ ((by rw [hg]; exact Nat.ne_of_lt (blk_lt (bm_ BK352.out)) : gb352 ≠ gb353)); have n9_ := A0_ ((by rw [hg]; exact Nat.ne_of_gt (blk_lt (bm_ BK352.out)) : gb353 ≠ gb352)); clear HO0_1 HO1_1 BK352 HK HB; have HO0_1 := n0_; have HO1_1 := n1_; have BK352 := n2_; have HK := n3_; have HB := n4_; have BK353 := n5_; have GW353 := n6_; have GE353 := n7_; have NB352_353 := n8_; have NB353_352 := n9_; clear n0_ n1_ n2_ n3_ n4_ n5_ n6_ n7_ n8_ n9_ hb hbox hg))
     have n0_ := A0_ (Kd.R_drew HO0_1.out)
     have n1_ := A0_ (Kd.R_drew HO1_1.out)
     have n2_ := A0_ (blk_drew BK352.out)
     have n3_ := A0_ (blk_drew BK353.out)
     have n4_ := A0_ (Kept.drew HK.out)
     have n5_ := A0_ (below_drew1 HB.out)
     clear HO0_1 HO1_1 BK352 BK353 HK HB
     have HO0_1 := n0_
     have HO1_1 := n1_
     have BK352 := n2_
     have BK353 := n3_
     have HK := n4_
     have HB := n5_
     clear n0_ n1_ n2_ n3_ n4_ n5_
     refine start_ (n := 6) (S := fun w' => w'.cell? ⟨gb352, 0, none⟩ = some (.bool a0_0) ∧ w'.cell? ⟨gb352, 1, none⟩ = some (.slice Ao38 l0_1.length co38) ∧ w'.cell? ⟨gb352, 2, none⟩ = some (.int .i64 a0_2) ∧ w'.cell? ⟨gb353, 0, none⟩ = some (.bool a1_0) ∧ w'.cell? ⟨gb353, 1, none⟩ = some (.slice Ao40 l1_1.length co40) ∧ w'.cell? ⟨gb353, 2, none⟩ = some (.int .i64 a1_2)) (ds := []) #[false, false, false, false, false, false] (by kernel_rfl) rfl rfl ⟨bC_ BK352.out 0, bC_ BK352.out 1, bC_ BK352.out 2, bC_ BK353.out 0, bC_ BK353.out 1, bC_ BK353.out 2⟩ (fun hHeld => ?_)
     generalize w41.drew = w42 at HO0_1 HO1_1 BK352 BK353 HK HB hHeld ⊢
     refine take_ (i := 0) (N := some 7) (v := ?_) (a' := ?_) #[true, false, false, false, false, false] rfl rfl (by kernel_rfl) (fun _ _ _ h => h) (Or.inl ⟨by rfl, ?_⟩) hHeld ?_ ?_
     rotate_left
     ·rintro w' ⟨s0, s1, s2, s3, s4, s5⟩
      go_simp
      with_reducible rfl
     rotate_left
     ·simp only [Act.put, sp_, i64_w, i32_w]
      rfl
     refine take_ (i := 2) (N := some 9) (v := ?_) (a' := ?_) #[true, false, true, false, false, false] rfl rfl (by kernel_rfl) (fun _ _ _ h => h) (Or.inl ⟨by rfl, ?_⟩) hHeld ?_ ?_
     rotate_left
     ·rintro w' ⟨s0, s1, s2, s3, s4, s5⟩
      go_simp
      with_reducible rfl
     rotate_left
     ·simp only [Act.put, sp_, i64_w, i32_w]
      rfl
     refine one_ (i := 1) (N := some 8) #[true, true, true, false, false, false] rfl rfl (by kernel_rfl) (by decide) (fun K hK => ?_)
     refine goes_ Try.func60 (by kernel_rfl) rfl #[.agg #[.bool a0_0, .slice Ao38 l0_1.length co38, .int .i64 a0_2]] (by rfl) rfl rfl (by (try simp only [List.map_toArray, List.map_cons, List.map_nil]); first | done | rfl | (simp only [List.length_drop, List.length_take]; rfl)) ?_
     with_reducible refine (cutplaneref02_Sign.calls a0_0 _ _ l0_1 a0_2 t354 _ ?side1 ?side2 A3.out).mono ?_
     (case side1 => repeat (first | exact (Kd.R_reads' HO0_1.out).2.2 | (with_reducible refine Kd.C_alloc ?_ _) | (with_reducible refine Kd.C_drewN ?_ _) | (with_reducible refine Kd.C_drew ?_)))
     (case side2 => exact (Kd.R_reads' HO0_1.out).2.1)
     rintro e w43 ⟨rfl, hb⟩
     refine ⟨_, rfl, ?_⟩
     have n0_ := A0_ (Kd.R_below (by exact rm_ HO0_1.out) hb)
     have n1_ := A0_ (Kd.R_below (by exact rm_ HO1_1.out) hb)
     have n2_ := A0_ (blk_below (bm_ BK352.out) hb)
     have n3_ := A0_ (blk_below (bm_ BK353.out) hb)
     have n4_ := A0_ (Kept.below (S := (fun k_ => P0_1_ k_ ∨ P1_1_ k_)) (by repeat (first | (with_reducible first | exact HK.out | apply Kept.alloc | apply Kept.drewN | apply Kept.drew | refine Kept.setCell ?_ (.inr GW352.out) _ | refine Kept.setCell ?_ (.inr GW353.out) _) | exact HK.out)) hb)
     have n5_ := A0_ (below_step (by repeat (first | (with_reducible first | exact qm_ HB.out | apply qA_ | apply qN_ | apply qD_ | refine below_set ?_ GE352.out | refine below_set ?_ GE353.out) | exact HB.out)) hb)
     clear HO0_1 HO1_1 BK352 BK353 HK HB
     have HO0_1 := n0_
     have HO1_1 := n1_
     have BK352 := n2_
     have BK353 := n3_
     have HK := n4_
     have HB := n5_
     clear n0_ n1_ n2_ n3_ n4_ n5_
     (try clear hb)
     refine hK.out _ _ ⟨bC_ BK352.out 0, bC_ BK352.out 1, bC_ BK352.out 2, bC_ BK353.out 0, bC_ BK353.out 1, bC_ BK353.out 2⟩ (fun hHeld => ?_)
     clear hK K
     refine norm_ (a' := ?_) ?_ ?_
     rotate_left
     ·show Act.put _ (some 8) _ = _
      simp only [Act.put, sp_, i64_w, i32_w]
      rfl
     refine one_ (i := 3) (N := some 10) #[true, true, true, true, false, false] rfl rfl (by kernel_rfl) (by decide) (fun K hK => ?_)
     refine goes_ Try.func60 (by kernel_rfl) rfl #[.agg #[.bool a1_0, .slice Ao40 l1_1.length co40, .int .i64 a1_2]] (by rfl) rfl rfl (by (try simp only [List.map_toArray, List.map_cons, List.map_nil]); first | done | rfl | (simp only [List.length_drop, List.length_take]; rfl)) ?_
     with_reducible refine (cutplaneref02_Sign.calls a1_0 _ _ l1_1 a1_2 t355 _ ?side1 ?side2 A4.out).mono ?_
     (case side1 => repeat (first | exact (Kd.R_reads' HO1_1.out).2.2 | (with_reducible refine Kd.C_alloc ?_ _) | (with_reducible refine Kd.C_drewN ?_ _) | (with_reducible refine Kd.C_drew ?_)))
     (case side2 => exact (Kd.R_reads' HO1_1.out).2.1)
     rintro e w44 ⟨rfl, hb⟩
     refine ⟨_, rfl, ?_⟩
     have n0_ := A0_ (Kd.R_below (by exact rm_ HO0_1.out) hb)
     have n1_ := A0_ (Kd.R_below (by exact rm_ HO1_1.out) hb)
     have n2_ := A0_ (blk_below (bm_ BK352.out) hb)
     have n3_ := A0_ (blk_below (bm_ BK353.out) hb)
     have n4_ := A0_ (Kept.below (S := (fun k_ => P0_1_ k_ ∨ P1_1_ k_)) (by repeat (first | (with_reducible first | exact HK.out | apply Kept.alloc | apply Kept.drewN | apply Kept.drew | refine Kept.setCell ?_ (.inr GW352.out) _ | refine Kept.setCell ?_ (.inr GW353.out) _) | exact HK.out)) hb)
     have n5_ := A0_ (below_step (by repeat (first | (with_reducible first | exact qm_ HB.out | apply qA_ | apply qN_ | apply qD_ | refine below_set ?_ GE352.out | refine below_set ?_ GE353.out) | exact HB.out)) hb)
     clear HO0_1 HO1_1 BK352 BK353 HK HB
     have HO0_1 := n0_
     have HO1_1 := n1_
     have BK352 := n2_
     have BK353 := n3_
     have HK := n4_
     have HB := n5_
     clear n0_ n1_ n2_ n3_ n4_ n5_
     (try clear hb)
     refine hK.out _ _ ⟨bC_ BK352.out 0, bC_ BK352.out 1, bC_ BK352.out 2, bC_ BK353.out 0, bC_ BK353.out 1, bC_ BK353.out 2⟩ (fun hHeld => ?_)
     clear hK K
     refine norm_ (a' := ?_) ?_ ?_
     rotate_left
     ·show Act.put _ (some 10) _ = _
      simp only [Act.put, sp_, i64_w, i32_w]
      rfl
     refine pure_ (i := 4) (N := some 5) (v := ?_) (a' := ?_) #[true, true, true, true, true, false] rfl rfl (by kernel_rfl) (fun _ _ _ h => h) (Or.inl ⟨by rfl, ?_⟩) ?_ ?_
     rotate_left
     ·intro w'
      go_simp
      with_reducible rfl
     rotate_left
     ·simp only [Act.put, sp_, i64_w, i32_w]
      rfl
     refine pure_ (i := 5) (N := some 6) (v := ?_) (a' := ?_) #[true, true, true, true, true, true] rfl rfl (by kernel_rfl) (fun _ _ _ h => h) (Or.inl ⟨by rfl, ?_⟩) ?_ ?_
     rotate_left
     ·intro w'
      go_simp
      with_reducible rfl
     rotate_left
     ·simp only [Act.put, sp_, i64_w, i32_w]
      rfl
     refine done_ (by kernel_rfl) ?_
     try go_wp2
     have n0_ := A0_ (Kd.R_drew HO0_1.out)
     have n1_ := A0_ (Kd.R_drew HO1_1.out)
     have n2_ := A0_ (blk_drew BK352.out)
     have n3_ := A0_ (blk_drew BK353.out)
     have n4_ := A0_ (Kept.drew HK.out)
     have n5_ := A0_ (below_drew1 HB.out)
     clear HO0_1 HO1_1 BK352 BK353 HK HB
     have HO0_1 := n0_
     have HO1_1 := n1_
     have BK352 := n2_
     have BK353 := n3_
     have HK := n4_
     have HB := n5_
     clear n0_ n1_ n2_ n3_ n4_ n5_
     refine start_ (n := 5) (S := fun w' => w'.cell? ⟨gb352, 0, none⟩ = some (.bool a0_0) ∧ w'.cell? ⟨gb352, 1, none⟩ = some (.slice Ao38 l0_1.length co38) ∧ w'.cell? ⟨gb352, 2, none⟩ = some (.int .i64 a0_2) ∧ w'.cell? ⟨gb353, 0, none⟩ = some (.bool a1_0) ∧ w'.cell? ⟨gb353, 1, none⟩ = some (.slice Ao40 l1_1.length co40) ∧ w'.cell? ⟨gb353, 2, none⟩ = some (.int .i64 a1_2)) (ds := []) #[false, false, false, false, false] (by kernel_rfl) rfl rfl ⟨bC_ BK352.out 0, bC_ BK352.out 1, bC_ BK352.out 2, bC_ BK353.out 0, bC_ BK353.out 1, bC_ BK353.out 2⟩ (fun hHeld => ?_)
     generalize w44.drew = w45 at HO0_1 HO1_1 BK352 BK353 HK HB hHeld ⊢
     refine take_ (i := 0) (N := some 19) (v := ?_) (a' := ?_) #[true, false, false, false, false] rfl rfl (by kernel_rfl) (fun _ _ _ h => h) (Or.inl ⟨by rfl, ?_⟩) hHeld ?_ ?_
     rotate_left
     ·rintro w' ⟨s0, s1, s2, s3, s4, s5⟩
      go_simp
      with_reducible rfl
     rotate_left
     ·simp only [Act.put, sp_, i64_w, i32_w]
      rfl
     refine take_ (i := 2) (N := some 21) (v := ?_) (a' := ?_) #[true, false, true, false, false] rfl rfl (by kernel_rfl) (fun _ _ _ h => h) (Or.inl ⟨by rfl, ?_⟩) hHeld ?_ ?_
     rotate_left
     ·rintro w' ⟨s0, s1, s2, s3, s4, s5⟩
      go_simp
      with_reducible rfl
     rotate_left
     ·simp only [Act.put, sp_, i64_w, i32_w]
      rfl
     refine one_ (i := 1) (N := some 20) #[true, true, true, false, false] rfl rfl (by kernel_rfl) (by decide) (fun K hK => ?_)
     refine goes_ Try.func61 (by kernel_rfl) rfl #[.agg #[.bool a0_0, .slice Ao38 l0_1.length co38, .int .i64 a0_2]] (by rfl) rfl rfl (by (try simp only [List.map_toArray, List.map_cons, List.map_nil]); first | done | rfl | (simp only [List.length_drop, List.length_take]; rfl)) ?_
     with_reducible refine (cutplaneref02_Top.calls k a0_0 _ _ l0_1 a0_2 t356 _ ?side1 ?side2 A14.out).mono ?_
     (case side1 => repeat (first | exact (Kd.R_reads' HO0_1.out).2.2 | (with_reducible refine Kd.C_alloc ?_ _) | (with_reducible refine Kd.C_drewN ?_ _) | (with_reducible refine Kd.C_drew ?_)))
     (case side2 => exact (Kd.R_reads' HO0_1.out).2.1)
     rintro e w46 ⟨rfl, hb⟩
     refine ⟨_, rfl, ?_⟩
     have n0_ := A0_ (Kd.R_below (by exact rm_ HO0_1.out) hb)
     have n1_ := A0_ (Kd.R_below (by exact rm_ HO1_1.out) hb)
     have n2_ := A0_ (blk_below (bm_ BK352.out) hb)
     have n3_ := A0_ (blk_below (bm_ BK353.out) hb)
     have n4_ := A0_ (Kept.below (S := (fun k_ => P0_1_ k_ ∨ P1_1_ k_)) (by repeat (first | (with_reducible first | exact HK.out | apply Kept.alloc | apply Kept.drewN | apply Kept.drew | refine Kept.setCell ?_ (.inr GW352.out) _ | refine Kept.setCell ?_ (.inr GW353.out) _) | exact HK.out)) hb)
     have n5_ := A0_ (below_step (by repeat (first | (with_reducible first | exact qm_ HB.out | apply qA_ | apply qN_ | apply qD_ | refine below_set ?_ GE352.out | refine below_set ?_ GE353.out) | exact HB.out)) hb)
     clear HO0_1 HO1_1 BK352 BK353 HK HB
     have HO0_1 := n0_
     have HO1_1 := n1_
     have BK352 := n2_
     have BK353 := n3_
     have HK := n4_
     have HB := n5_
     clear n0_ n1_ n2_ n3_ n4_ n5_
     (try clear hb)
     refine hK.out _ _ ⟨bC_ BK352.out 0, bC_ BK352.out 1, bC_ BK352.out 2, bC_ BK353.out 0, bC_ BK353.out 1, bC_ BK353.out 2⟩ (fun hHeld => ?_)
     clear hK K
     refine norm_ (a' := ?_) ?_ ?_
     rotate_left
     ·show Act.put _ (some 20) _ = _
      simp only [Act.put, sp_, i64_w, i32_w]
      rfl
     refine one_ (i := 3) (N := some 22) #[true, true, true, true, false] rfl rfl (by kernel_rfl) (by decide) (fun K hK => ?_)
     refine goes_ Try.func61 (by kernel_rfl) rfl #[.agg #[.bool a1_0, .slice Ao40 l1_1.length co40, .int .i64 a1_2]] (by rfl) rfl rfl (by (try simp only [List.map_toArray, List.map_cons, List.map_nil]); first | done | rfl | (simp only [List.length_drop, List.length_take]; rfl)) ?_
     with_reducible refine (cutplaneref02_Top.calls k a1_0 _ _ l1_1 a1_2 t357 _ ?side1 ?side2 A15.out).mono ?_
     (case side1 => repeat (first | exact (Kd.R_reads' HO1_1.out).2.2 | (with_reducible refine Kd.C_alloc ?_ _) | (with_reducible refine Kd.C_drewN ?_ _) | (with_reducible refine Kd.C_drew ?_)))
     (case side2 => exact (Kd.R_reads' HO1_1.out).2.1)
     rintro e w47 ⟨rfl, hb⟩
     refine ⟨_, rfl, ?_⟩
     have n0_ := A0_ (Kd.R_below (by exact rm_ HO0_1.out) hb)
     have n1_ := A0_ (Kd.R_below (by exact rm_ HO1_1.out) hb)
     have n2_ := A0_ (blk_below (bm_ BK352.out) hb)
     have n3_ := A0_ (blk_below (bm_ BK353.out) hb)
     have n4_ := A0_ (Kept.below (S := (fun k_ => P0_1_ k_ ∨ P1_1_ k_)) (by repeat (first | (with_reducible first | exact HK.out | apply Kept.alloc | apply Kept.drewN | apply Kept.drew | refine Kept.setCell ?_ (.inr GW352.out) _ | refine Kept.setCell ?_ (.inr GW353.out) _) | exact HK.out)) hb)
     have n5_ := A0_ (below_step (by repeat (first | (with_reducible first | exact qm_ HB.out | apply qA_ | apply qN_ | apply qD_ | refine below_set ?_ GE352.out | refine below_set ?_ GE353.out) | exact HB.out)) hb)
     clear HO0_1 HO1_1 BK352 BK353 HK HB
     have HO0_1 := n0_
     have HO1_1 := n1_
     have BK352 := n2_
     have BK353 := n3_
     have HK := n4_
     have HB := n5_
     clear n0_ n1_ n2_ n3_ n4_ n5_
     (try clear hb)
     refine hK.out _ _ ⟨bC_ BK352.out 0, bC_ BK352.out 1, bC_ BK352.out 2, bC_ BK353.out 0, bC_ BK353.out 1, bC_ BK353.out 2⟩ (fun hHeld => ?_)
     clear hK K
     refine norm_ (a' := ?_) ?_ ?_
     rotate_left
     ·show Act.put _ (some 22) _ = _
      simp only [Act.put, sp_, i64_w, i32_w]
      rfl
     refine pure_ (i := 4) (N := some 23) (v := ?_) (a' := ?_) #[true, true, true, true, true] rfl rfl (by kernel_rfl) (fun _ _ _ h => h) (Or.inl ⟨by rfl, ?_⟩) ?_ ?_
     rotate_left
     ·intro w'
      go_simp
      with_reducible rfl
     rotate_left
     ·simp only [Act.put, sp_, i64_w, i32_w]
      rfl
     refine done_ (by kernel_rfl) ?_
     try go_wp2
     have n0_ := A0_ (Kd.R_drew HO0_1.out)
     have n1_ := A0_ (Kd.R_drew HO1_1.out)
     have n2_ := A0_ (blk_drew BK352.out)
     have n3_ := A0_ (blk_drew BK353.out)
     have n4_ := A0_ (Kept.drew HK.out)
     have n5_ := A0_ (below_drew1 HB.out)
     clear HO0_1 HO1_1 BK352 BK353 HK HB
     have HO0_1 := n0_
     have HO1_1 := n1_
     have BK352 := n2_
     have BK353 := n3_
     have HK := n4_
     have HB := n5_
     clear n0_ n1_ n2_ n3_ n4_ n5_
     refine start_ (n := 8) (S := fun w' => w'.cell? ⟨gb352, 0, none⟩ = some (.bool a0_0) ∧ w'.cell? ⟨gb352, 1, none⟩ = some (.slice Ao38 l0_1.length co38) ∧ w'.cell? ⟨gb352, 2, none⟩ = some (.int .i64 a0_2) ∧ w'.cell? ⟨gb353, 0, none⟩ = some (.bool a1_0) ∧ w'.cell? ⟨gb353, 1, none⟩ = some (.slice Ao40 l1_1.length co40) ∧ w'.cell? ⟨gb353, 2, none⟩ = some (.int .i64 a1_2)) (ds := []) #[false, false, false, false, false, false, false, false] (by kernel_rfl) rfl rfl ⟨bC_ BK352.out 0, bC_ BK352.out 1, bC_ BK352.out 2, bC_ BK353.out 0, bC_ BK353.out 1, bC_ BK353.out 2⟩ (fun hHeld => ?_); refine with_tabW cutplaneref02_Cmp.tab9 cutplaneref02_Cmp.bits9 (fun HT_ HW_ => ?_)
     generalize w47.drew = w48 at HO0_1 HO1_1 BK352 BK353 HK HB hHeld ⊢
     refine pure_ (i := 5) (N := some 29) (v := ?_) (a' := ?_) #[false, false, false, false, false, true, false, false] rfl rfl (any_of HT_.out (by kernel_rfl)) (fun _ _ _ h => h) (Or.inl ⟨by rfl, ?_⟩) ?_ ?_
     rotate_left
     ·intro w'
      go_simp
      with_reducible rfl
     rotate_left
     ·simp only [Act.put, sp_, i64_w, i32_w]
      rfl
     refine pure_ (i := 6) (N := some 30) (v := ?_) (a' := ?_) #[false, false, false, false, false, true, true, false] rfl rfl (any_of HT_.out (by kernel_rfl)) (fun _ _ _ h => h) (Or.inl ⟨by rfl, ?_⟩) ?_ ?_
     rotate_left
     ·intro w'
      go_simp
      with_reducible rfl
     rotate_left
     ·simp only [Act.put, sp_, i64_w, i32_w]
      rfl
     refine take_ (i := 0) (N := some 24) (v := ?_) (a' := ?_) #[true, false, false, false, false, true, true, false] rfl rfl (take_ofW HT_.out HW_.out (by kernel_rfl)) (fun _ _ _ h => h) (Or.inl ⟨by rfl, ?_⟩) hHeld ?_ ?_
     rotate_left
     ·rintro w' ⟨s0, s1, s2, s3, s4, s5⟩
      go_simp
      with_reducible rfl
     rotate_left
     ·simp only [Act.put, sp_, i64_w, i32_w]
      rfl
     refine take_ (i := 2) (N := some 26) (v := ?_) (a' := ?_) #[true, false, true, false, false, true, true, false] rfl rfl (take_ofW HT_.out HW_.out (by kernel_rfl)) (fun _ _ _ h => h) (Or.inl ⟨by rfl, ?_⟩) hHeld ?_ ?_
     rotate_left
     ·rintro w' ⟨s0, s1, s2, s3, s4, s5⟩
      go_simp
      with_reducible rfl
     rotate_left
     ·simp only [Act.put, sp_, i64_w, i32_w]
      rfl
     refine one_ (i := 1) (N := some 25) #[true, true, true, false, false, true, true, false] rfl rfl (one_of HT_.out (by kernel_rfl)) (by decide) (fun K hK => ?_)
     refine goes_ Try.func61 (by kernel_rfl) rfl #[.agg #[.bool a0_0, .slice Ao38 l0_1.length co38, .int .i64 a0_2]] (by rfl) rfl rfl (by (try simp only [List.map_toArray, List.map_cons, List.map_nil]); first | done | rfl | (simp only [List.length_drop, List.length_take]; rfl)) ?_
     with_reducible refine (cutplaneref02_Top.calls k a0_0 _ _ l0_1 a0_2 t364 _ ?side1 ?side2 A35.out).mono ?_
     (case side1 => repeat (first | exact (Kd.R_reads' HO0_1.out).2.2 | (with_reducible refine Kd.C_alloc ?_ _) | (with_reducible refine Kd.C_drewN ?_ _) | (with_reducible refine Kd.C_drew ?_)))
     (case side2 => exact (Kd.R_reads' HO0_1.out).2.1)
     rintro e w49 ⟨rfl, hb⟩
     refine ⟨_, rfl, ?_⟩
     have n0_ := A0_ (Kd.R_below (by exact rm_ HO0_1.out) hb)
     have n1_ := A0_ (Kd.R_below (by exact rm_ HO1_1.out) hb)
     have n2_ := A0_ (blk_below (bm_ BK352.out) hb)
     have n3_ := A0_ (blk_below (bm_ BK353.out) hb)
     have n4_ := A0_ (Kept.below (S := (fun k_ => P0_1_ k_ ∨ P1_1_ k_)) (by repeat (first | (with_reducible first | exact HK.out | apply Kept.alloc | apply Kept.drewN | apply Kept.drew | refine Kept.setCell ?_ (.inr GW352.out) _ | refine Kept.setCell ?_ (.inr GW353.out) _) | exact HK.out)) hb)
     have n5_ := A0_ (below_step (by repeat (first | (with_reducible first | exact qm_ HB.out | apply qA_ | apply qN_ | apply qD_ | refine below_set ?_ GE352.out | refine below_set ?_ GE353.out) | exact HB.out)) hb)
     clear HO0_1 HO1_1 BK352 BK353 HK HB
     have HO0_1 := n0_
     have HO1_1 := n1_
     have BK352 := n2_
     have BK353 := n3_
     have HK := n4_
     have HB := n5_
     clear n0_ n1_ n2_ n3_ n4_ n5_
     (try clear hb)
     refine hK.out _ _ ⟨bC_ BK352.out 0, bC_ BK352.out 1, bC_ BK352.out 2, bC_ BK353.out 0, bC_ BK353.out 1, bC_ BK353.out 2⟩ (fun hHeld => ?_)
     clear hK K
     refine norm_ (a' := ?_) ?_ ?_
     rotate_left
     ·show Act.put _ (some 25) _ = _
      simp only [Act.put, sp_, i64_w, i32_w]
      rfl
     refine one_ (i := 3) (N := some 27) #[true, true, true, true, false, true, true, false] rfl rfl (one_of HT_.out (by kernel_rfl)) (by decide) (fun K hK => ?_)
     refine goes_ Try.func61 (by kernel_rfl) rfl #[.agg #[.bool a1_0, .slice Ao40 l1_1.length co40, .int .i64 a1_2]] (by rfl) rfl rfl (by (try simp only [List.map_toArray, List.map_cons, List.map_nil]); first | done | rfl | (simp only [List.length_drop, List.length_take]; rfl)) ?_
     with_reducible refine (cutplaneref02_Top.calls k a1_0 _ _ l1_1 a1_2 t365 _ ?side1 ?side2 A36.out).mono ?_
     (case side1 => repeat (first | exact (Kd.R_reads' HO1_1.out).2.2 | (with_reducible refine Kd.C_alloc ?_ _) | (with_reducible refine Kd.C_drewN ?_ _) | (with_reducible refine Kd.C_drew ?_)))
     (case side2 => exact (Kd.R_reads' HO1_1.out).2.1)
     rintro e w50 ⟨rfl, hb⟩
     refine ⟨_, rfl, ?_⟩
     have n0_ := A0_ (Kd.R_below (by exact rm_ HO0_1.out) hb)
     have n1_ := A0_ (Kd.R_below (by exact rm_ HO1_1.out) hb)
     have n2_ := A0_ (blk_below (bm_ BK352.out) hb)
     have n3_ := A0_ (blk_below (bm_ BK353.out) hb)
     have n4_ := A0_ (Kept.below (S := (fun k_ => P0_1_ k_ ∨ P1_1_ k_)) (by repeat (first | (with_reducible first | exact HK.out | apply Kept.alloc | apply Kept.drewN | apply Kept.drew | refine Kept.setCell ?_ (.inr GW352.out) _ | refine Kept.setCell ?_ (.inr GW353.out) _) | exact HK.out)) hb)
     have n5_ := A0_ (below_step (by repeat (first | (with_reducible first | exact qm_ HB.out | apply qA_ | apply qN_ | apply qD_ | refine below_set ?_ GE352.out | refine below_set ?_ GE353.out) | exact HB.out)) hb)
     clear HO0_1 HO1_1 BK352 BK353 HK HB
     have HO0_1 := n0_
     have HO1_1 := n1_
     have BK352 := n2_
     have BK353 := n3_
     have HK := n4_
     have HB := n5_
     clear n0_ n1_ n2_ n3_ n4_ n5_
     (try clear hb)
     refine hK.out _ _ ⟨bC_ BK352.out 0, bC_ BK352.out 1, bC_ BK352.out 2, bC_ BK353.out 0, bC_ BK353.out 1, bC_ BK353.out 2⟩ (fun hHeld => ?_)
     clear hK K
     refine norm_ (a' := ?_) ?_ ?_
     rotate_left
     ·show Act.put _ (some 27) _ = _
      simp only [Act.put, sp_, i64_w, i32_w]
      rfl
     refine pure_ (i := 4) (N := some 28) (v := ?_) (a' := ?_) #[true, true, true, true, true, true, true, false] rfl rfl (any_of HT_.out (by kernel_rfl)) (fun _ _ _ h => h) (Or.inl ⟨by rfl, ?_⟩) ?_ ?_
     rotate_left
     ·intro w'
      go_simp
      with_reducible rfl
     rotate_left
     ·simp only [Act.put, sp_, i64_w, i32_w]
      rfl
     refine pure_ (i := 7) (N := some 31) (v := ?_) (a' := ?_) #[true, true, true, true, true, true, true, true] rfl rfl (any_of HT_.out (by kernel_rfl)) (fun _ _ _ h => h) (Or.inl ⟨by rfl, ?_⟩) ?_ ?_
     rotate_left
     ·intro w'
      go_simp
      with_reducible rfl
     rotate_left
     ·simp only [Act.put, sp_, i64_w, i32_w]
      rfl
     refine done_ (done_of HT_.out (by kernel_rfl)) ?_
     try go_wp2
     go_ret
     exact ⟨by first | rfl | (simp [errW_none, errW_some] <;> rfl) | (simp [*, errW_none, errW_some] <;> rfl), by repeat (first | (with_reducible first | exact qm_ HB.out | apply qA_ | apply qN_ | apply qD_ | refine below_set ?_ GE352.out | refine below_set ?_ GE353.out) | exact HB.out), by repeat (first | (with_reducible first | exact HK.out | apply Kept.alloc | apply Kept.drewN | apply Kept.drew | refine Kept.setCell ?_ (.inr GW352.out) _ | refine Kept.setCell ?_ (.inr GW353.out) _) | exact HK.out)⟩
    ·rw [if_neg c37] at H
     have c37b0 : ((decide (t364 < t365)) == (decide (t354 > 0))) = false := by simpa using c37
     (try (have c37b1 : decide ((decide (t364 < t365)) = (decide (t354 > 0))) = false := by simpa using c37))
     (try (have c37b2 : ((decide (t364 < t365)) == (decide (t354 > 0))) = false := by simpa using c37))
     (try (have c37b3 : ¬ ((decide (t364 < t365)) = (decide (t354 > 0))) := by simpa using c37))
     clear c37
     obtain rfl := Option.some.inj H
     obtain ⟨Ao51, co51, eo51⟩ := Kd.R_slice HO0_1.out
     subst eo51
     go_enter Try.func40, Try.ntmps40
     try go_wp2_with (first | ((with_reducible refine gate_dst (N := 2) rfl ?_); refine box_event ?hg (N := 2) ?hd (cs := #[.bool a0_0, .slice Ao51 l0_1.length co51, .int .i64 a0_2]) (t := 64) ?hr ?_; (case hd => rfl); (case hg => rfl); (case hr => first | (go_simp; done) | (go_simp; rfl)); intro gb352 hg w52 hbox hb; have n0_ := A0_ (Kd.R_below (by exact rm_ HO0_1.out) hb); have n1_ := A0_ (Kd.R_below (by exact rm_ HO1_1.out) hb); have n2_ := A0_ (Kept.below (S := (fun k_ => P0_1_ k_ ∨ P1_1_ k_)) (by repeat (first | (with_reducible first | exact HK.out | apply Kept.alloc | apply Kept.drewN | apply Kept.drew) | exact HK.out)) hb); have n3_ := A0_ (below_step (qm_ HB.out) hb); have n4_ := A0_ (hbox); have n5_ := A0_ ((by rw [hg]; exact (by first | exact HK.out.1 | exact (show Kept w _ (fun k_ => P0_1_ k_ ∨ P1_1_ k_) from by repeat (first | (with_reducible first | exact HK.out | apply Kept.alloc | apply Kept.drewN | apply Kept.drew) | exact HK.out)).1) : w.heap.size ≤ gb352)); have n6_ := A0_ ((by rw [hg]; exact (below_size (qm_ HB.out)) : w0.heap.size ≤ gb352)); clear HO0_1 HO1_1 HK HB; have HO0_1 := n0_; have HO1_1 := n1_; have HK := n2_; have HB := n3_; have BK352 := n4_; have GW352 := n5_; have GE352 := n6_; clear n0_ n1_ n2_ n3_ n4_ n5_ n6_ hb hbox hg; obtain ⟨Ao53, co53, eo53⟩ := Kd.R_slice HO1_1.out; subst eo53) | ((with_reducible refine gate_dst (N := 3) rfl ?_); refine box_event ?hg (N := 3) ?hd (cs := #[.bool a1_0, .slice Ao53 l1_1.length co53, .int .i64 a1_2]) (t := 64) ?hr ?_; (case hd => rfl); (case hg => rfl); (case hr => first | (go_simp; done) | (go_simp; rfl)); intro gb353 hg w54 hbox hb; have n0_ := A0_ (Kd.R_below (by exact rm_ HO0_1.out) hb); have n1_ := A0_ (Kd.R_below (by exact rm_ HO1_1.out) hb); have n2_ := A0_ (blk_below (bm_ BK352.out) hb); have n3_ := A0_ (Kept.below (S := (fun k_ => P0_1_ k_ ∨ P1_1_ k_)) (by repeat (first | (with_reducible first | exact HK.out | apply Kept.alloc | apply Kept.drewN | apply Kept.drew | refine Kept.setCell ?_ (.inr GW352.out) _) | exact HK.out)) hb); have n4_ := A0_ (below_step (by repeat (first | (with_reducible first | exact qm_ HB.out | apply qA_ | apply qN_ | apply qD_ | refine below_set ?_ GE352.out) | exact HB.out)) hb); have n5_ := A0_ (hbox); have n6_ := A0_ ((by rw [hg]; exact (by first | exact HK.out.1 | exact (show Kept w _ (fun k_ => P0_1_ k_ ∨ P1_1_ k_) from by repeat (first | (with_reducible first | exact HK.out | apply Kept.alloc | apply Kept.drewN | apply Kept.drew | refine Kept.setCell ?_ (.inr GW352.out) _) | exact HK.out)).1) : w.heap.size ≤ gb353)); have n7_ := A0_ ((by rw [hg]; exact (below_size (by repeat (first | (with_reducible first | exact qm_ HB.out | apply qA_ | apply qN_ | apply qD_ | refine below_set ?_ GE352.out) | exact HB.out))) : w0.heap.size ≤ gb353)); have n8_ := A0_ ((by rw [hg]; exact Nat.ne_of_lt (blk_lt (bm_ BK352.out)) : gb352 ≠ gb353)); have n9_ := A0_ ((by rw [hg]; exact Nat.ne_of_gt (blk_lt (bm_ BK352.out)) : gb353 ≠ gb352)); clear HO0_1 HO1_1 BK352 HK HB; have HO0_1 := n0_; have HO1_1 := n1_; have BK352 := n2_; have HK := n3_; have HB := n4_; have BK353 := n5_; have GW353 := n6_; have GE353 := n7_; have NB352_353 := n8_; have NB353_352 := n9_; clear n0_ n1_ n2_ n3_ n4_ n5_ n6_ n7_ n8_ n9_ hb hbox hg))
     have n0_ := A0_ (Kd.R_drew HO0_1.out)
     have n1_ := A0_ (Kd.R_drew HO1_1.out)
     have n2_ := A0_ (blk_drew BK352.out)
     have n3_ := A0_ (blk_drew BK353.out)
     have n4_ := A0_ (Kept.drew HK.out)
     have n5_ := A0_ (below_drew1 HB.out)
     clear HO0_1 HO1_1 BK352 BK353 HK HB
     have HO0_1 := n0_
     have HO1_1 := n1_
     have BK352 := n2_
     have BK353 := n3_
     have HK := n4_
     have HB := n5_
     clear n0_ n1_ n2_ n3_ n4_ n5_
     refine start_ (n := 6) (S := fun w' => w'.cell? ⟨gb352, 0, none⟩ = some (.bool a0_0) ∧ w'.cell? ⟨gb352, 1, none⟩ = some (.slice Ao51 l0_1.length co51) ∧ w'.cell? ⟨gb352, 2, none⟩ = some (.int .i64 a0_2) ∧ w'.cell? ⟨gb353, 0, none⟩ = some (.bool a1_0) ∧ w'.cell? ⟨gb353, 1, none⟩ = some (.slice Ao53 l1_1.length co53) ∧ w'.cell? ⟨gb353, 2, none⟩ = some (.int .i64 a1_2)) (ds := []) #[false, false, false, false, false, false] (by kernel_rfl) rfl rfl ⟨bC_ BK352.out 0, bC_ BK352.out 1, bC_ BK352.out 2, bC_ BK353.out 0, bC_ BK353.out 1, bC_ BK353.out 2⟩ (fun hHeld => ?_)
     generalize w54.drew = w55 at HO0_1 HO1_1 BK352 BK353 HK HB hHeld ⊢
     refine take_ (i := 0) (N := some 7) (v := ?_) (a' := ?_) #[true, false, false, false, false, false] rfl rfl (by kernel_rfl) (fun _ _ _ h => h) (Or.inl ⟨by rfl, ?_⟩) hHeld ?_ ?_
     rotate_left
     ·rintro w' ⟨s0, s1, s2, s3, s4, s5⟩
      go_simp
      with_reducible rfl
     rotate_left
     ·simp only [Act.put, sp_, i64_w, i32_w]
      rfl
     refine take_ (i := 2) (N := some 9) (v := ?_) (a' := ?_) #[true, false, true, false, false, false] rfl rfl (by kernel_rfl) (fun _ _ _ h => h) (Or.inl ⟨by rfl, ?_⟩) hHeld ?_ ?_
     rotate_left
     ·rintro w' ⟨s0, s1, s2, s3, s4, s5⟩
      go_simp
      with_reducible rfl
     rotate_left
     ·simp only [Act.put, sp_, i64_w, i32_w]
      rfl
     refine one_ (i := 1) (N := some 8) #[true, true, true, false, false, false] rfl rfl (by kernel_rfl) (by decide) (fun K hK => ?_)
     refine goes_ Try.func60 (by kernel_rfl) rfl #[.agg #[.bool a0_0, .slice Ao51 l0_1.length co51, .int .i64 a0_2]] (by rfl) rfl rfl (by (try simp only [List.map_toArray, List.map_cons, List.map_nil]); first | done | rfl | (simp only [List.length_drop, List.length_take]; rfl)) ?_
     with_reducible refine (cutplaneref02_Sign.calls a0_0 _ _ l0_1 a0_2 t354 _ ?side1 ?side2 A3.out).mono ?_
     (case side1 => repeat (first | exact (Kd.R_reads' HO0_1.out).2.2 | (with_reducible refine Kd.C_alloc ?_ _) | (with_reducible refine Kd.C_drewN ?_ _) | (with_reducible refine Kd.C_drew ?_)))
     (case side2 => exact (Kd.R_reads' HO0_1.out).2.1)
     rintro e w56 ⟨rfl, hb⟩
     refine ⟨_, rfl, ?_⟩
     have n0_ := A0_ (Kd.R_below (by exact rm_ HO0_1.out) hb)
     have n1_ := A0_ (Kd.R_below (by exact rm_ HO1_1.out) hb)
     have n2_ := A0_ (blk_below (bm_ BK352.out) hb)
     have n3_ := A0_ (blk_below (bm_ BK353.out) hb)
     have n4_ := A0_ (Kept.below (S := (fun k_ => P0_1_ k_ ∨ P1_1_ k_)) (by repeat (first | (with_reducible first | exact HK.out | apply Kept.alloc | apply Kept.drewN | apply Kept.drew | refine Kept.setCell ?_ (.inr GW352.out) _ | refine Kept.setCell ?_ (.inr GW353.out) _) | exact HK.out)) hb)
     have n5_ := A0_ (below_step (by repeat (first | (with_reducible first | exact qm_ HB.out | apply qA_ | apply qN_ | apply qD_ | refine below_set ?_ GE352.out | refine below_set ?_ GE353.out) | exact HB.out)) hb)
     clear HO0_1 HO1_1 BK352 BK353 HK HB
     have HO0_1 := n0_
     have HO1_1 := n1_
     have BK352 := n2_
     have BK353 := n3_
     have HK := n4_
     have HB := n5_
     clear n0_ n1_ n2_ n3_ n4_ n5_
     (try clear hb)
     refine hK.out _ _ ⟨bC_ BK352.out 0, bC_ BK352.out 1, bC_ BK352.out 2, bC_ BK353.out 0, bC_ BK353.out 1, bC_ BK353.out 2⟩ (fun hHeld => ?_)
     clear hK K
     refine norm_ (a' := ?_) ?_ ?_
     rotate_left
     ·show Act.put _ (some 8) _ = _
      simp only [Act.put, sp_, i64_w, i32_w]
      rfl
     refine one_ (i := 3) (N := some 10) #[true, true, true, true, false, false] rfl rfl (by kernel_rfl) (by decide) (fun K hK => ?_)
     refine goes_ Try.func60 (by kernel_rfl) rfl #[.agg #[.bool a1_0, .slice Ao53 l1_1.length co53, .int .i64 a1_2]] (by rfl) rfl rfl (by (try simp only [List.map_toArray, List.map_cons, List.map_nil]); first | done | rfl | (simp only [List.length_drop, List.length_take]; rfl)) ?_
     with_reducible refine (cutplaneref02_Sign.calls a1_0 _ _ l1_1 a1_2 t355 _ ?side1 ?side2 A4.out).mono ?_
     (case side1 => repeat (first | exact (Kd.R_reads' HO1_1.out).2.2 | (with_reducible refine Kd.C_alloc ?_ _) | (with_reducible refine Kd.C_drewN ?_ _) | (with_reducible refine Kd.C_drew ?_)))
     (case side2 => exact (Kd.R_reads' HO1_1.out).2.1)
     rintro e w57 ⟨rfl, hb⟩
     refine ⟨_, rfl, ?_⟩
     have n0_ := A0_ (Kd.R_below (by exact rm_ HO0_1.out) hb)
     have n1_ := A0_ (Kd.R_below (by exact rm_ HO1_1.out) hb)
     have n2_ := A0_ (blk_below (bm_ BK352.out) hb)
     have n3_ := A0_ (blk_below (bm_ BK353.out) hb)
     have n4_ := A0_ (Kept.below (S := (fun k_ => P0_1_ k_ ∨ P1_1_ k_)) (by repeat (first | (with_reducible first | exact HK.out | apply Kept.alloc | apply Kept.drewN | apply Kept.drew | refine Kept.setCell ?_ (.inr GW352.out) _ | refine Kept.setCell ?_ (.inr GW353.out) _) | exact HK.out)) hb)
     have n5_ := A0_ (below_step (by repeat (first | (with_reducible first | exact qm_ HB.out | apply qA_ | apply qN_ | apply qD_ | refine below_set ?_ GE352.out | refine below_set ?_ GE353.out) | exact HB.out)) hb)
     clear HO0_1 HO1_1 BK352 BK353 HK HB
     have HO0_1 := n0_
     have HO1_1 := n1_
     have BK352 := n2_
     have BK353 := n3_
     have HK := n4_
     have HB := n5_
     clear n0_ n1_ n2_ n3_ n4_ n5_
     (try clear hb)
     refine hK.out _ _ ⟨bC_ BK352.out 0, bC_ BK352.out 1, bC_ BK352.out 2, bC_ BK353.out 0, bC_ BK353.out 1, bC_ BK353.out 2⟩ (fun hHeld => ?_)
     clear hK K
     refine norm_ (a' := ?_) ?_ ?_
     rotate_left
     ·show Act.put _ (some 10) _ = _
      simp only [Act.put, sp_, i64_w, i32_w]
      rfl
     refine pure_ (i := 4) (N := some 5) (v := ?_) (a' := ?_) #[true, true, true, true, true, false] rfl rfl (by kernel_rfl) (fun _ _ _ h => h) (Or.inl ⟨by rfl, ?_⟩) ?_ ?_
     rotate_left
     ·intro w'
      go_simp
      with_reducible rfl
     rotate_left
     ·simp only [Act.put, sp_, i64_w, i32_w]
      rfl
     refine pure_ (i := 5) (N := some 6) (v := ?_) (a' := ?_) #[true, true, true, true, true, true] rfl rfl (by kernel_rfl) (fun _ _ _ h => h) (Or.inl ⟨by rfl, ?_⟩) ?_ ?_
     rotate_left
     ·intro w'
      go_simp
      with_reducible rfl
     rotate_left
     ·simp only [Act.put, sp_, i64_w, i32_w]
      rfl
     refine done_ (by kernel_rfl) ?_
     try go_wp2
     have n0_ := A0_ (Kd.R_drew HO0_1.out)
     have n1_ := A0_ (Kd.R_drew HO1_1.out)
     have n2_ := A0_ (blk_drew BK352.out)
     have n3_ := A0_ (blk_drew BK353.out)
     have n4_ := A0_ (Kept.drew HK.out)
     have n5_ := A0_ (below_drew1 HB.out)
     clear HO0_1 HO1_1 BK352 BK353 HK HB
     have HO0_1 := n0_
     have HO1_1 := n1_
     have BK352 := n2_
     have BK353 := n3_
     have HK := n4_
     have HB := n5_
     clear n0_ n1_ n2_ n3_ n4_ n5_
     refine start_ (n := 5) (S := fun w' => w'.cell? ⟨gb352, 0, none⟩ = some (.bool a0_0) ∧ w'.cell? ⟨gb352, 1, none⟩ = some (.slice Ao51 l0_1.length co51) ∧ w'.cell? ⟨gb352, 2, none⟩ = some (.int .i64 a0_2) ∧ w'.cell? ⟨gb353, 0, none⟩ = some (.bool a1_0) ∧ w'.cell? ⟨gb353, 1, none⟩ = some (.slice Ao53 l1_1.length co53) ∧ w'.cell? ⟨gb353, 2, none⟩ = some (.int .i64 a1_2)) (ds := []) #[false, false, false, false, false] (by kernel_rfl) rfl rfl ⟨bC_ BK352.out 0, bC_ BK352.out 1, bC_ BK352.out 2, bC_ BK353.out 0, bC_ BK353.out 1, bC_ BK353.out 2⟩ (fun hHeld => ?_)
     generalize w57.drew = w58 at HO0_1 HO1_1 BK352 BK353 HK HB hHeld ⊢
     refine take_ (i := 0) (N := some 19) (v := ?_) (a' := ?_) #[true, false, false, false, false] rfl rfl (by kernel_rfl) (fun _ _ _ h => h) (Or.inl ⟨by rfl, ?_⟩) hHeld ?_ ?_
     rotate_left
     ·rintro w' ⟨s0, s1, s2, s3, s4, s5⟩
      go_simp
      with_reducible rfl
     rotate_left
     ·simp only [Act.put, sp_, i64_w, i32_w]
      rfl
     refine take_ (i := 2) (N := some 21) (v := ?_) (a' := ?_) #[true, false, true, false, false] rfl rfl (by kernel_rfl) (fun _ _ _ h => h) (Or.inl ⟨by rfl, ?_⟩) hHeld ?_ ?_
     rotate_left
     ·rintro w' ⟨s0, s1, s2, s3, s4, s5⟩
      go_simp
      with_reducible rfl
     rotate_left
     ·simp only [Act.put, sp_, i64_w, i32_w]
      rfl
     refine one_ (i := 1) (N := some 20) #[true, true, true, false, false] rfl rfl (by kernel_rfl) (by decide) (fun K hK => ?_)
     refine goes_ Try.func61 (by kernel_rfl) rfl #[.agg #[.bool a0_0, .slice Ao51 l0_1.length co51, .int .i64 a0_2]] (by rfl) rfl rfl (by (try simp only [List.map_toArray, List.map_cons, List.map_nil]); first | done | rfl | (simp only [List.length_drop, List.length_take]; rfl)) ?_
     with_reducible refine (cutplaneref02_Top.calls k a0_0 _ _ l0_1 a0_2 t356 _ ?side1 ?side2 A14.out).mono ?_
     (case side1 => repeat (first | exact (Kd.R_reads' HO0_1.out).2.2 | (with_reducible refine Kd.C_alloc ?_ _) | (with_reducible refine Kd.C_drewN ?_ _) | (with_reducible refine Kd.C_drew ?_)))
     (case side2 => exact (Kd.R_reads' HO0_1.out).2.1)
     rintro e w59 ⟨rfl, hb⟩
     refine ⟨_, rfl, ?_⟩
     have n0_ := A0_ (Kd.R_below (by exact rm_ HO0_1.out) hb)
     have n1_ := A0_ (Kd.R_below (by exact rm_ HO1_1.out) hb)
     have n2_ := A0_ (blk_below (bm_ BK352.out) hb)
     have n3_ := A0_ (blk_below (bm_ BK353.out) hb)
     have n4_ := A0_ (Kept.below (S := (fun k_ => P0_1_ k_ ∨ P1_1_ k_)) (by repeat (first | (with_reducible first | exact HK.out | apply Kept.alloc | apply Kept.drewN | apply Kept.drew | refine Kept.setCell ?_ (.inr GW352.out) _ | refine Kept.setCell ?_ (.inr GW353.out) _) | exact HK.out)) hb)
     have n5_ := A0_ (below_step (by repeat (first | (with_reducible first | exact qm_ HB.out | apply qA_ | apply qN_ | apply qD_ | refine below_set ?_ GE352.out | refine below_set ?_ GE353.out) | exact HB.out)) hb)
     clear HO0_1 HO1_1 BK352 BK353 HK HB
     have HO0_1 := n0_
     have HO1_1 := n1_
     have BK352 := n2_
     have BK353 := n3_
     have HK := n4_
     have HB := n5_
     clear n0_ n1_ n2_ n3_ n4_ n5_
     (try clear hb)
     refine hK.out _ _ ⟨bC_ BK352.out 0, bC_ BK352.out 1, bC_ BK352.out 2, bC_ BK353.out 0, bC_ BK353.out 1, bC_ BK353.out 2⟩ (fun hHeld => ?_)
     clear hK K
     refine norm_ (a' := ?_) ?_ ?_
     rotate_left
     ·show Act.put _ (some 20) _ = _
      simp only [Act.put, sp_, i64_w, i32_w]
      rfl
     refine one_ (i := 3) (N := some 22) #[true, true, true, true, false] rfl rfl (by kernel_rfl) (by decide) (fun K hK => ?_)
     refine goes_ Try.func61 (by kernel_rfl) rfl #[.agg #[.bool a1_0, .slice Ao53 l1_1.length co53, .int .i64 a1_2]] (by rfl) rfl rfl (by (try simp only [List.map_toArray, List.map_cons, List.map_nil]); first | done | rfl | (simp only [List.length_drop, List.length_take]; rfl)) ?_
     with_reducible refine (cutplaneref02_Top.calls k a1_0 _ _ l1_1 a1_2 t357 _ ?side1 ?side2 A15.out).mono ?_
     (case side1 => repeat (first | exact (Kd.R_reads' HO1_1.out).2.2 | (with_reducible refine Kd.C_alloc ?_ _) | (with_reducible refine Kd.C_drewN ?_ _) | (with_reducible refine Kd.C_drew ?_)))
     (case side2 => exact (Kd.R_reads' HO1_1.out).2.1)
     rintro e w60 ⟨rfl, hb⟩
     refine ⟨_, rfl, ?_⟩
     have n0_ := A0_ (Kd.R_below (by exact rm_ HO0_1.out) hb)
     have n1_ := A0_ (Kd.R_below (by exact rm_ HO1_1.out) hb)
     have n2_ := A0_ (blk_below (bm_ BK352.out) hb)
     have n3_ := A0_ (blk_below (bm_ BK353.out) hb)
     have n4_ := A0_ (Kept.below (S := (fun k_ => P0_1_ k_ ∨ P1_1_ k_)) (by repeat (first | (with_reducible first | exact HK.out | apply Kept.alloc | apply Kept.drewN | apply Kept.drew | refine Kept.setCell ?_ (.inr GW352.out) _ | refine Kept.setCell ?_ (.inr GW353.out) _) | exact HK.out)) hb)
     have n5_ := A0_ (below_step (by repeat (first | (with_reducible first | exact qm_ HB.out | apply qA_ | apply qN_ | apply qD_ | refine below_set ?_ GE352.out | refine below_set ?_ GE353.out) | exact HB.out)) hb)
     clear HO0_1 HO1_1 BK352 BK353 HK HB
     have HO0_1 := n0_
     have HO1_1 := n1_
     have BK352 := n2_
     have BK353 := n3_
     have HK := n4_
     have HB := n5_
     clear n0_ n1_ n2_ n3_ n4_ n5_
     (try clear hb)
     refine hK.out _ _ ⟨bC_ BK352.out 0, bC_ BK352.out 1, bC_ BK352.out 2, bC_ BK353.out 0, bC_ BK353.out 1, bC_ BK353.out 2⟩ (fun hHeld => ?_)
     clear hK K
     refine norm_ (a' := ?_) ?_ ?_
     rotate_left
     ·show Act.put _ (some 22) _ = _
      simp only [Act.put, sp_, i64_w, i32_w]
      rfl
     refine pure_ (i := 4) (N := some 23) (v := ?_) (a' := ?_) #[true, true, true, true, true] rfl rfl (by kernel_rfl) (fun _ _ _ h => h) (Or.inl ⟨by rfl, ?_⟩) ?_ ?_
     rotate_left
     ·intro w'
      go_simp
      with_reducible rfl
     rotate_left
     ·simp only [Act.put, sp_, i64_w, i32_w]
      rfl
     refine done_ (by kernel_rfl) ?_
     try go_wp2
     have n0_ := A0_ (Kd.R_drew HO0_1.out)
     have n1_ := A0_ (Kd.R_drew HO1_1.out)
     have n2_ := A0_ (blk_drew BK352.out)
     have n3_ := A0_ (blk_drew BK353.out)
     have n4_ := A0_ (Kept.drew HK.out)
     have n5_ := A0_ (below_drew1 HB.out)
     clear HO0_1 HO1_1 BK352 BK353 HK HB
     have HO0_1 := n0_
     have HO1_1 := n1_
     have BK352 := n2_
     have BK353 := n3_
     have HK := n4_
     have HB := n5_
     clear n0_ n1_ n2_ n3_ n4_ n5_
     refine start_ (n := 8) (S := fun w' => w'.cell? ⟨gb352, 0, none⟩ = some (.bool a0_0) ∧ w'.cell? ⟨gb352, 1, none⟩ = some (.slice Ao51 l0_1.length co51) ∧ w'.cell? ⟨gb352, 2, none⟩ = some (.int .i64 a0_2) ∧ w'.cell? ⟨gb353, 0, none⟩ = some (.bool a1_0) ∧ w'.cell? ⟨gb353, 1, none⟩ = some (.slice Ao53 l1_1.length co53) ∧ w'.cell? ⟨gb353, 2, none⟩ = some (.int .i64 a1_2)) (ds := []) #[false, false, false, false, false, false, false, false] (by kernel_rfl) rfl rfl ⟨bC_ BK352.out 0, bC_ BK352.out 1, bC_ BK352.out 2, bC_ BK353.out 0, bC_ BK353.out 1, bC_ BK353.out 2⟩ (fun hHeld => ?_); refine with_tabW cutplaneref02_Cmp.tab9 cutplaneref02_Cmp.bits9 (fun HT_ HW_ => ?_)
     generalize w60.drew = w61 at HO0_1 HO1_1 BK352 BK353 HK HB hHeld ⊢
     refine pure_ (i := 5) (N := some 29) (v := ?_) (a' := ?_) #[false, false, false, false, false, true, false, false] rfl rfl (any_of HT_.out (by kernel_rfl)) (fun _ _ _ h => h) (Or.inl ⟨by rfl, ?_⟩) ?_ ?_
     rotate_left
     ·intro w'
      go_simp
      with_reducible rfl
     rotate_left
     ·simp only [Act.put, sp_, i64_w, i32_w]
      rfl
     refine pure_ (i := 6) (N := some 30) (v := ?_) (a' := ?_) #[false, false, false, false, false, true, true, false] rfl rfl (any_of HT_.out (by kernel_rfl)) (fun _ _ _ h => h) (Or.inl ⟨by rfl, ?_⟩) ?_ ?_
     rotate_left
     ·intro w'
      go_simp
      with_reducible rfl
     rotate_left
     ·simp only [Act.put, sp_, i64_w, i32_w]
      rfl
     refine take_ (i := 0) (N := some 24) (v := ?_) (a' := ?_) #[true, false, false, false, false, true, true, false] rfl rfl (take_ofW HT_.out HW_.out (by kernel_rfl)) (fun _ _ _ h => h) (Or.inl ⟨by rfl, ?_⟩) hHeld ?_ ?_
     rotate_left
     ·rintro w' ⟨s0, s1, s2, s3, s4, s5⟩
      go_simp
      with_reducible rfl
     rotate_left
     ·simp only [Act.put, sp_, i64_w, i32_w]
      rfl
     refine take_ (i := 2) (N := some 26) (v := ?_) (a' := ?_) #[true, false, true, false, false, true, true, false] rfl rfl (take_ofW HT_.out HW_.out (by kernel_rfl)) (fun _ _ _ h => h) (Or.inl ⟨by rfl, ?_⟩) hHeld ?_ ?_
     rotate_left
     ·rintro w' ⟨s0, s1, s2, s3, s4, s5⟩
      go_simp
      with_reducible rfl
     rotate_left
     ·simp only [Act.put, sp_, i64_w, i32_w]
      rfl
     refine one_ (i := 1) (N := some 25) #[true, true, true, false, false, true, true, false] rfl rfl (one_of HT_.out (by kernel_rfl)) (by decide) (fun K hK => ?_)
     refine goes_ Try.func61 (by kernel_rfl) rfl #[.agg #[.bool a0_0, .slice Ao51 l0_1.length co51, .int .i64 a0_2]] (by rfl) rfl rfl (by (try simp only [List.map_toArray, List.map_cons, List.map_nil]); first | done | rfl | (simp only [List.length_drop, List.length_take]; rfl)) ?_
     with_reducible refine (cutplaneref02_Top.calls k a0_0 _ _ l0_1 a0_2 t364 _ ?side1 ?side2 A35.out).mono ?_
     (case side1 => repeat (first | exact (Kd.R_reads' HO0_1.out).2.2 | (with_reducible refine Kd.C_alloc ?_ _) | (with_reducible refine Kd.C_drewN ?_ _) | (with_reducible refine Kd.C_drew ?_)))
     (case side2 => exact (Kd.R_reads' HO0_1.out).2.1)
     rintro e w62 ⟨rfl, hb⟩
     refine ⟨_, rfl, ?_⟩
     have n0_ := A0_ (Kd.R_below (by exact rm_ HO0_1.out) hb)
     have n1_ := A0_ (Kd.R_below (by exact rm_ HO1_1.out) hb)
     have n2_ := A0_ (blk_below (bm_ BK352.out) hb)
     have n3_ := A0_ (blk_below (bm_ BK353.out) hb)
     have n4_ := A0_ (Kept.below (S := (fun k_ => P0_1_ k_ ∨ P1_1_ k_)) (by repeat (first | (with_reducible first | exact HK.out | apply Kept.alloc | apply Kept.drewN | apply Kept.drew | refine Kept.setCell ?_ (.inr GW352.out) _ | refine Kept.setCell ?_ (.inr GW353.out) _) | exact HK.out)) hb)
     have n5_ := A0_ (below_step (by repeat (first | (with_reducible first | exact qm_ HB.out | apply qA_ | apply qN_ | apply qD_ | refine below_set ?_ GE352.out | refine below_set ?_ GE353.out) | exact HB.out)) hb)
     clear HO0_1 HO1_1 BK352 BK353 HK HB
     have HO0_1 := n0_
     have HO1_1 := n1_
     have BK352 := n2_
     have BK353 := n3_
     have HK := n4_
     have HB := n5_
     clear n0_ n1_ n2_ n3_ n4_ n5_
     (try clear hb)
     refine hK.out _ _ ⟨bC_ BK352.out 0, bC_ BK352.out 1, bC_ BK352.out 2, bC_ BK353.out 0, bC_ BK353.out 1, bC_ BK353.out 2⟩ (fun hHeld => ?_)
     clear hK K
     refine norm_ (a' := ?_) ?_ ?_
     rotate_left
     ·show Act.put _ (some 25) _ = _
      simp only [Act.put, sp_, i64_w, i32_w]
      rfl
     refine one_ (i := 3) (N := some 27) #[true, true, true, true, false, true, true, false] rfl rfl (one_of HT_.out (by kernel_rfl)) (by decide) (fun K hK => ?_)
     refine goes_ Try.func61 (by kernel_rfl) rfl #[.agg #[.bool a1_0, .slice Ao53 l1_1.length co53, .int .i64 a1_2]] (by rfl) rfl rfl (by (try simp only [List.map_toArray, List.map_cons, List.map_nil]); first | done | rfl | (simp only [List.length_drop, List.length_take]; rfl)) ?_
     with_reducible refine (cutplaneref02_Top.calls k a1_0 _ _ l1_1 a1_2 t365 _ ?side1 ?side2 A36.out).mono ?_
     (case side1 => repeat (first | exact (Kd.R_reads' HO1_1.out).2.2 | (with_reducible refine Kd.C_alloc ?_ _) | (with_reducible refine Kd.C_drewN ?_ _) | (with_reducible refine Kd.C_drew ?_)))
     (case side2 => exact (Kd.R_reads' HO1_1.out).2.1)
     rintro e w63 ⟨rfl, hb⟩
     refine ⟨_, rfl, ?_⟩
     have n0_ := A0_ (Kd.R_below (by exact rm_ HO0_1.out) hb)
     have n1_ := A0_ (Kd.R_below (by exact rm_ HO1_1.out) hb)
     have n2_ := A0_ (blk_below (bm_ BK352.out) hb)
     have n3_ := A0_ (blk_below (bm_ BK353.out) hb)
     have n4_ := A0_ (Kept.below (S := (fun k_ => P0_1_ k_ ∨ P1_1_ k_)) (by repeat (first | (with_reducible first | exact HK.out | apply Kept.alloc | apply Kept.drewN | apply Kept.drew | refine Kept.setCell ?_ (.inr GW352.out) _ | refine Kept.setCell ?_ (.inr GW353.out) _) | exact HK.out)) hb)
     have n5_ := A0_ (below_step (by repeat (first | (with_reducible first | exact qm_ HB.out | apply qA_ | apply qN_ | apply qD_ | refine below_set ?_ GE352.out | refine below_set ?_ GE353.out) | exact HB.out)) hb)
     clear HO0_1 HO1_1 BK352 BK353 HK HB
     have HO0_1 := n0_
     have HO1_1 := n1_
     have BK352 := n2_
     have BK353 := n3_
     have HK := n4_
     have HB := n5_
     clear n0_ n1_ n2_ n3_ n4_ n5_
     (try clear hb)
     refine hK.out _ _ ⟨bC_ BK352.out 0, bC_ BK352.out 1, bC_ BK352.out 2, bC_ BK353.out 0, bC_ BK353.out 1, bC_ BK353.out 2⟩ (fun hHeld => ?_)
     clear hK K
     refine norm_ (a' := ?_) ?_ ?_
     rotate_left
     ·show Act.put _ (some 27) _ = _
      simp only [Act.put, sp_, i64_w, i32_w]
      rfl
     refine pure_ (i := 4) (N := some 28) (v := ?_) (a' := ?_) #[true, true, true, true, true, true, true, false] rfl rfl (any_of HT_.out (by kernel_rfl)) (fun _ _ _ h => h) (Or.inl ⟨by rfl, ?_⟩) ?_ ?_
     rotate_left
     ·intro w'
      go_simp
      with_reducible rfl
     rotate_left
     ·simp only [Act.put, sp_, i64_w, i32_w]
      rfl
     refine pure_ (i := 7) (N := some 31) (v := ?_) (a' := ?_) #[true, true, true, true, true, true, true, true] rfl rfl (any_of HT_.out (by kernel_rfl)) (fun _ _ _ h => h) (Or.inl ⟨by rfl, ?_⟩) ?_ ?_
     rotate_left
     ·intro w'
      go_simp
      with_reducible rfl
     rotate_left
     ·simp only [Act.put, sp_, i64_w, i32_w]
      rfl
     refine done_ (done_of HT_.out (by kernel_rfl)) ?_
     try go_wp2
     go_ret
     exact ⟨by first | rfl | (simp [errW_none, errW_some] <;> rfl) | (simp [*, errW_none, errW_some] <;> rfl), by repeat (first | (with_reducible first | exact qm_ HB.out | apply qA_ | apply qN_ | apply qD_ | refine below_set ?_ GE352.out | refine below_set ?_ GE353.out) | exact HB.out), by repeat (first | (with_reducible first | exact HK.out | apply Kept.alloc | apply Kept.drewN | apply Kept.drew | refine Kept.setCell ?_ (.inr GW352.out) _ | refine Kept.setCell ?_ (.inr GW353.out) _) | exact HK.out)⟩
 ·rw [if_neg c5] at H
  have c5b0 : (t354 == t355) = false := beq_eq_false_iff_ne.mpr c5
  have c5b1 : (t354 != t355) = true := bne_iff_ne.mpr c5
  by_cases c64 : t354 < t355
  ·rw [if_pos c64] at H
   have c64b0 : decide (t354 < t355) = true := decide_eq_true c64
   clear c64
   obtain rfl := Option.some.inj H
   obtain ⟨Ao65, co65, eo65⟩ := Kd.R_slice HO0_1.out
   subst eo65
   go_enter Try.func40, Try.ntmps40
   try go_wp2_with (first | ((with_reducible refine gate_dst (N := 2) rfl ?_); refine box_event ?hg (N := 2) ?hd (cs := #[.bool a0_0, .slice Ao65 l0_1.length co65, .int .i64 a0_2]) (t := 64) ?hr ?_; (case hd => rfl); (case hg => rfl); (case hr => first | (go_simp; done) | (go_simp; rfl)); intro gb352 hg w66 hbox hb; have n0_ := A0_ (Kd.R_below (by exact rm_ HO0_1.out) hb); have n1_ := A0_ (Kd.R_below (by exact rm_ HO1_1.out) hb); have n2_ := A0_ (Kept.below (S := (fun k_ => P0_1_ k_ ∨ P1_1_ k_)) (by repeat (first | (with_reducible first | exact HK.out | apply Kept.alloc | apply Kept.drewN | apply Kept.drew) | exact HK.out)) hb); have n3_ := A0_ (below_step (qm_ HB.out) hb); have n4_ := A0_ (hbox); have n5_ := A0_ ((by rw [hg]; exact (by first | exact HK.out.1 | exact (show Kept w _ (fun k_ => P0_1_ k_ ∨ P1_1_ k_) from by repeat (first | (with_reducible first | exact HK.out | apply Kept.alloc | apply Kept.drewN | apply Kept.drew) | exact HK.out)).1) : w.heap.size ≤ gb352)); have n6_ := A0_ ((by rw [hg]; exact (below_size (qm_ HB.out)) : w0.heap.size ≤ gb352)); clear HO0_1 HO1_1 HK HB; have HO0_1 := n0_; have HO1_1 := n1_; have HK := n2_; have HB := n3_; have BK352 := n4_; have GW352 := n5_; have GE352 := n6_; clear n0_ n1_ n2_ n3_ n4_ n5_ n6_ hb hbox hg; obtain ⟨Ao67, co67, eo67⟩ := Kd.R_slice HO1_1.out; subst eo67) | ((with_reducible refine gate_dst (N := 3) rfl ?_); refine box_event ?hg (N := 3) ?hd (cs := #[.bool a1_0, .slice Ao67 l1_1.length co67, .int .i64 a1_2]) (t := 64) ?hr ?_; (case hd => rfl); (case hg => rfl); (case hr => first | (go_simp; done) | (go_simp; rfl)); intro gb353 hg w68 hbox hb; have n0_ := A0_ (Kd.R_below (by exact rm_ HO0_1.out) hb); have n1_ := A0_ (Kd.R_below (by exact rm_ HO1_1.out) hb); have n2_ := A0_ (blk_below (bm_ BK352.out) hb); have n3_ := A0_ (Kept.below (S := (fun k_ => P0_1_ k_ ∨ P1_1_ k_)) (by repeat (first | (with_reducible first | exact HK.out | apply Kept.alloc | apply Kept.drewN | apply Kept.drew | refine Kept.setCell ?_ (.inr GW352.out) _) | exact HK.out)) hb); have n4_ := A0_ (below_step (by repeat (first | (with_reducible first | exact qm_ HB.out | apply qA_ | apply qN_ | apply qD_ | refine below_set ?_ GE352.out) | exact HB.out)) hb); have n5_ := A0_ (hbox); have n6_ := A0_ ((by rw [hg]; exact (by first | exact HK.out.1 | exact (show Kept w _ (fun k_ => P0_1_ k_ ∨ P1_1_ k_) from by repeat (first | (with_reducible first | exact HK.out | apply Kept.alloc | apply Kept.drewN | apply Kept.drew | refine Kept.setCell ?_ (.inr GW352.out) _) | exact HK.out)).1) : w.heap.size ≤ gb353)); have n7_ := A0_ ((by rw [hg]; exact (below_size (by repeat (first | (with_reducible first | exact qm_ HB.out | apply qA_ | apply qN_ | apply qD_ | refine below_set ?_ GE352.out) | exact HB.out))) : w0.heap.size ≤ gb353)); have n8_ := A0_ ((by rw [hg]; exact Nat.ne_of_lt (blk_lt (bm_ BK352.out)) : gb352 ≠ gb353)); have n9_ := A0_ ((by rw [hg]; exact Nat.ne_of_gt (blk_lt (bm_ BK352.out)) : gb353 ≠ gb352)); clear HO0_1 HO1_1 BK352 HK HB; have HO0_1 := n0_; have HO1_1 := n1_; have BK352 := n2_; have HK := n3_; have HB := n4_; have BK353 := n5_; have GW353 := n6_; have GE353 := n7_; have NB352_353 := n8_; have NB353_352 := n9_; clear n0_ n1_ n2_ n3_ n4_ n5_ n6_ n7_ n8_ n9_ hb hbox hg))
   have n0_ := A0_ (Kd.R_drew HO0_1.out)
   have n1_ := A0_ (Kd.R_drew HO1_1.out)
   have n2_ := A0_ (blk_drew BK352.out)
   have n3_ := A0_ (blk_drew BK353.out)
   have n4_ := A0_ (Kept.drew HK.out)
   have n5_ := A0_ (below_drew1 HB.out)
   clear HO0_1 HO1_1 BK352 BK353 HK HB
   have HO0_1 := n0_
   have HO1_1 := n1_
   have BK352 := n2_
   have BK353 := n3_
   have HK := n4_
   have HB := n5_
   clear n0_ n1_ n2_ n3_ n4_ n5_
   refine start_ (n := 6) (S := fun w' => w'.cell? ⟨gb352, 0, none⟩ = some (.bool a0_0) ∧ w'.cell? ⟨gb352, 1, none⟩ = some (.slice Ao65 l0_1.length co65) ∧ w'.cell? ⟨gb352, 2, none⟩ = some (.int .i64 a0_2) ∧ w'.cell? ⟨gb353, 0, none⟩ = some (.bool a1_0) ∧ w'.cell? ⟨gb353, 1, none⟩ = some (.slice Ao67 l1_1.length co67) ∧ w'.cell? ⟨gb353, 2, none⟩ = some (.int .i64 a1_2)) (ds := []) #[false, false, false, false, false, false] (by kernel_rfl) rfl rfl ⟨bC_ BK352.out 0, bC_ BK352.out 1, bC_ BK352.out 2, bC_ BK353.out 0, bC_ BK353.out 1, bC_ BK353.out 2⟩ (fun hHeld => ?_)
   generalize w68.drew = w69 at HO0_1 HO1_1 BK352 BK353 HK HB hHeld ⊢
   refine take_ (i := 0) (N := some 7) (v := ?_) (a' := ?_) #[true, false, false, false, false, false] rfl rfl (by kernel_rfl) (fun _ _ _ h => h) (Or.inl ⟨by rfl, ?_⟩) hHeld ?_ ?_
   rotate_left
   ·rintro w' ⟨s0, s1, s2, s3, s4, s5⟩
    go_simp
    with_reducible rfl
   rotate_left
   ·simp only [Act.put, sp_, i64_w, i32_w]
    rfl
   refine take_ (i := 2) (N := some 9) (v := ?_) (a' := ?_) #[true, false, true, false, false, false] rfl rfl (by kernel_rfl) (fun _ _ _ h => h) (Or.inl ⟨by rfl, ?_⟩) hHeld ?_ ?_
   rotate_left
   ·rintro w' ⟨s0, s1, s2, s3, s4, s5⟩
    go_simp
    with_reducible rfl
   rotate_left
   ·simp only [Act.put, sp_, i64_w, i32_w]
    rfl
   refine one_ (i := 1) (N := some 8) #[true, true, true, false, false, false] rfl rfl (by kernel_rfl) (by decide) (fun K hK => ?_)
   refine goes_ Try.func60 (by kernel_rfl) rfl #[.agg #[.bool a0_0, .slice Ao65 l0_1.length co65, .int .i64 a0_2]] (by rfl) rfl rfl (by (try simp only [List.map_toArray, List.map_cons, List.map_nil]); first | done | rfl | (simp only [List.length_drop, List.length_take]; rfl)) ?_
   with_reducible refine (cutplaneref02_Sign.calls a0_0 _ _ l0_1 a0_2 t354 _ ?side1 ?side2 A3.out).mono ?_
   (case side1 => repeat (first | exact (Kd.R_reads' HO0_1.out).2.2 | (with_reducible refine Kd.C_alloc ?_ _) | (with_reducible refine Kd.C_drewN ?_ _) | (with_reducible refine Kd.C_drew ?_)))
   (case side2 => exact (Kd.R_reads' HO0_1.out).2.1)
   rintro e w70 ⟨rfl, hb⟩
   refine ⟨_, rfl, ?_⟩
   have n0_ := A0_ (Kd.R_below (by exact rm_ HO0_1.out) hb)
   have n1_ := A0_ (Kd.R_below (by exact rm_ HO1_1.out) hb)
   have n2_ := A0_ (blk_below (bm_ BK352.out) hb)
   have n3_ := A0_ (blk_below (bm_ BK353.out) hb)
   have n4_ := A0_ (Kept.below (S := (fun k_ => P0_1_ k_ ∨ P1_1_ k_)) (by repeat (first | (with_reducible first | exact HK.out | apply Kept.alloc | apply Kept.drewN | apply Kept.drew | refine Kept.setCell ?_ (.inr GW352.out) _ | refine Kept.setCell ?_ (.inr GW353.out) _) | exact HK.out)) hb)
   have n5_ := A0_ (below_step (by repeat (first | (with_reducible first | exact qm_ HB.out | apply qA_ | apply qN_ | apply qD_ | refine below_set ?_ GE352.out | refine below_set ?_ GE353.out) | exact HB.out)) hb)
   clear HO0_1 HO1_1 BK352 BK353 HK HB
   have HO0_1 := n0_
   have HO1_1 := n1_
   have BK352 := n2_
   have BK353 := n3_
   have HK := n4_
   have HB := n5_
   clear n0_ n1_ n2_ n3_ n4_ n5_
   (try clear hb)
   refine hK.out _ _ ⟨bC_ BK352.out 0, bC_ BK352.out 1, bC_ BK352.out 2, bC_ BK353.out 0, bC_ BK353.out 1, bC_ BK353.out 2⟩ (fun hHeld => ?_)
   clear hK K
   refine norm_ (a' := ?_) ?_ ?_
   rotate_left
   ·show Act.put _ (some 8) _ = _
    simp only [Act.put, sp_, i64_w, i32_w]
    rfl
   refine one_ (i := 3) (N := some 10) #[true, true, true, true, false, false] rfl rfl (by kernel_rfl) (by decide) (fun K hK => ?_)
   refine goes_ Try.func60 (by kernel_rfl) rfl #[.agg #[.bool a1_0, .slice Ao67 l1_1.length co67, .int .i64 a1_2]] (by rfl) rfl rfl (by (try simp only [List.map_toArray, List.map_cons, List.map_nil]); first | done | rfl | (simp only [List.length_drop, List.length_take]; rfl)) ?_
   with_reducible refine (cutplaneref02_Sign.calls a1_0 _ _ l1_1 a1_2 t355 _ ?side1 ?side2 A4.out).mono ?_
   (case side1 => repeat (first | exact (Kd.R_reads' HO1_1.out).2.2 | (with_reducible refine Kd.C_alloc ?_ _) | (with_reducible refine Kd.C_drewN ?_ _) | (with_reducible refine Kd.C_drew ?_)))
   (case side2 => exact (Kd.R_reads' HO1_1.out).2.1)
   rintro e w71 ⟨rfl, hb⟩
   refine ⟨_, rfl, ?_⟩
   have n0_ := A0_ (Kd.R_below (by exact rm_ HO0_1.out) hb)
   have n1_ := A0_ (Kd.R_below (by exact rm_ HO1_1.out) hb)
   have n2_ := A0_ (blk_below (bm_ BK352.out) hb)
   have n3_ := A0_ (blk_below (bm_ BK353.out) hb)
   have n4_ := A0_ (Kept.below (S := (fun k_ => P0_1_ k_ ∨ P1_1_ k_)) (by repeat (first | (with_reducible first | exact HK.out | apply Kept.alloc | apply Kept.drewN | apply Kept.drew | refine Kept.setCell ?_ (.inr GW352.out) _ | refine Kept.setCell ?_ (.inr GW353.out) _) | exact HK.out)) hb)
   have n5_ := A0_ (below_step (by repeat (first | (with_reducible first | exact qm_ HB.out | apply qA_ | apply qN_ | apply qD_ | refine below_set ?_ GE352.out | refine below_set ?_ GE353.out) | exact HB.out)) hb)
   clear HO0_1 HO1_1 BK352 BK353 HK HB
   have HO0_1 := n0_
   have HO1_1 := n1_
   have BK352 := n2_
   have BK353 := n3_
   have HK := n4_
   have HB := n5_
   clear n0_ n1_ n2_ n3_ n4_ n5_
   (try clear hb)
   refine hK.out _ _ ⟨bC_ BK352.out 0, bC_ BK352.out 1, bC_ BK352.out 2, bC_ BK353.out 0, bC_ BK353.out 1, bC_ BK353.out 2⟩ (fun hHeld => ?_)
   clear hK K
   refine norm_ (a' := ?_) ?_ ?_
   rotate_left
   ·show Act.put _ (some 10) _ = _
    simp only [Act.put, sp_, i64_w, i32_w]
    rfl
   refine pure_ (i := 4) (N := some 5) (v := ?_) (a' := ?_) #[true, true, true, true, true, false] rfl rfl (by kernel_rfl) (fun _ _ _ h => h) (Or.inl ⟨by rfl, ?_⟩) ?_ ?_
   rotate_left
   ·intro w'
    go_simp
    with_reducible rfl
   rotate_left
   ·simp only [Act.put, sp_, i64_w, i32_w]
    rfl
   refine pure_ (i := 5) (N := some 6) (v := ?_) (a' := ?_) #[true, true, true, true, true, true] rfl rfl (by kernel_rfl) (fun _ _ _ h => h) (Or.inl ⟨by rfl, ?_⟩) ?_ ?_
   rotate_left
   ·intro w'
    go_simp
    with_reducible rfl
   rotate_left
   ·simp only [Act.put, sp_, i64_w, i32_w]
    rfl
   refine done_ (by kernel_rfl) ?_
   try go_wp2
   go_ret
   exact ⟨by first | rfl | (simp [errW_none, errW_some] <;> rfl) | (simp [*, errW_none, errW_some] <;> rfl), by repeat (first | (with_reducible first | exact qm_ HB.out | apply qA_ | apply qN_ | apply qD_ | refine below_set ?_ GE352.out | refine below_set ?_ GE353.out) | exact HB.out), by repeat (first | (with_reducible first | exact HK.out | apply Kept.alloc | apply Kept.drewN | apply Kept.drew | refine Kept.setCell ?_ (.inr GW352.out) _ | refine Kept.setCell ?_ (.inr GW353.out) _) | exact HK.out)⟩
  ·rw [if_neg c64] at H
   have c64b0 : decide (t354 < t355) = false := decide_eq_false c64
   clear c64
   obtain rfl := Option.some.inj H
   obtain ⟨Ao72, co72, eo72⟩ := Kd.R_slice HO0_1.out
   subst eo72
   go_enter Try.func40, Try.ntmps40
   try go_wp2_with (first | ((with_reducible refine gate_dst (N := 2) rfl ?_); refine box_event ?hg (N := 2) ?hd (cs := #[.bool a0_0, .slice Ao72 l0_1.length co72, .int .i64 a0_2]) (t := 64) ?hr ?_; (case hd => rfl); (case hg => rfl); (case hr => first | (go_simp; done) | (go_simp; rfl)); intro gb352 hg w73 hbox hb; have n0_ := A0_ (Kd.R_below (by exact rm_ HO0_1.out) hb); have n1_ := A0_ (Kd.R_below (by exact rm_ HO1_1.out) hb); have n2_ := A0_ (Kept.below (S := (fun k_ => P0_1_ k_ ∨ P1_1_ k_)) (by repeat (first | (with_reducible first | exact HK.out | apply Kept.alloc | apply Kept.drewN | apply Kept.drew) | exact HK.out)) hb); have n3_ := A0_ (below_step (qm_ HB.out) hb); have n4_ := A0_ (hbox); have n5_ := A0_ ((by rw [hg]; exact (by first | exact HK.out.1 | exact (show Kept w _ (fun k_ => P0_1_ k_ ∨ P1_1_ k_) from by repeat (first | (with_reducible first | exact HK.out | apply Kept.alloc | apply Kept.drewN | apply Kept.drew) | exact HK.out)).1) : w.heap.size ≤ gb352)); have n6_ := A0_ ((by rw [hg]; exact (below_size (qm_ HB.out)) : w0.heap.size ≤ gb352)); clear HO0_1 HO1_1 HK HB; have HO0_1 := n0_; have HO1_1 := n1_; have HK := n2_; have HB := n3_; have BK352 := n4_; have GW352 := n5_; have GE352 := n6_; clear n0_ n1_ n2_ n3_ n4_ n5_ n6_ hb hbox hg; obtain ⟨Ao74, co74, eo74⟩ := Kd.R_slice HO1_1.out; subst eo74) | ((with_reducible refine gate_dst (N := 3) rfl ?_); refine box_event ?hg (N := 3) ?hd (cs := #[.bool a1_0, .slice Ao74 l1_1.length co74, .int .i64 a1_2]) (t := 64) ?hr ?_; (case hd => rfl); (case hg => rfl); (case hr => first | (go_simp; done) | (go_simp; rfl)); intro gb353 hg w75 hbox hb; have n0_ := A0_ (Kd.R_below (by exact rm_ HO0_1.out) hb); have n1_ := A0_ (Kd.R_below (by exact rm_ HO1_1.out) hb); have n2_ := A0_ (blk_below (bm_ BK352.out) hb); have n3_ := A0_ (Kept.below (S := (fun k_ => P0_1_ k_ ∨ P1_1_ k_)) (by repeat (first | (with_reducible first | exact HK.out | apply Kept.alloc | apply Kept.drewN | apply Kept.drew | refine Kept.setCell ?_ (.inr GW352.out) _) | exact HK.out)) hb); have n4_ := A0_ (below_step (by repeat (first | (with_reducible first | exact qm_ HB.out | apply qA_ | apply qN_ | apply qD_ | refine below_set ?_ GE352.out) | exact HB.out)) hb); have n5_ := A0_ (hbox); have n6_ := A0_ ((by rw [hg]; exact (by first | exact HK.out.1 | exact (show Kept w _ (fun k_ => P0_1_ k_ ∨ P1_1_ k_) from by repeat (first | (with_reducible first | exact HK.out | apply Kept.alloc | apply Kept.drewN | apply Kept.drew | refine Kept.setCell ?_ (.inr GW352.out) _) | exact HK.out)).1) : w.heap.size ≤ gb353)); have n7_ := A0_ ((by rw [hg]; exact (below_size (by repeat (first | (with_reducible first | exact qm_ HB.out | apply qA_ | apply qN_ | apply qD_ | refine below_set ?_ GE352.out) | exact HB.out))) : w0.heap.size ≤ gb353)); have n8_ := A0_ ((by rw [hg]; exact Nat.ne_of_lt (blk_lt (bm_ BK352.out)) : gb352 ≠ gb353)); have n9_ := A0_ ((by rw [hg]; exact Nat.ne_of_gt (blk_lt (bm_ BK352.out)) : gb353 ≠ gb352)); clear HO0_1 HO1_1 BK352 HK HB; have HO0_1 := n0_; have HO1_1 := n1_; have BK352 := n2_; have HK := n3_; have HB := n4_; have BK353 := n5_; have GW353 := n6_; have GE353 := n7_; have NB352_353 := n8_; have NB353_352 := n9_; clear n0_ n1_ n2_ n3_ n4_ n5_ n6_ n7_ n8_ n9_ hb hbox hg))
   have n0_ := A0_ (Kd.R_drew HO0_1.out)
   have n1_ := A0_ (Kd.R_drew HO1_1.out)
   have n2_ := A0_ (blk_drew BK352.out)
   have n3_ := A0_ (blk_drew BK353.out)
   have n4_ := A0_ (Kept.drew HK.out)
   have n5_ := A0_ (below_drew1 HB.out)
   clear HO0_1 HO1_1 BK352 BK353 HK HB
   have HO0_1 := n0_
   have HO1_1 := n1_
   have BK352 := n2_
   have BK353 := n3_
   have HK := n4_
   have HB := n5_
   clear n0_ n1_ n2_ n3_ n4_ n5_
   refine start_ (n := 6) (S := fun w' => w'.cell? ⟨gb352, 0, none⟩ = some (.bool a0_0) ∧ w'.cell? ⟨gb352, 1, none⟩ = some (.slice Ao72 l0_1.length co72) ∧ w'.cell? ⟨gb352, 2, none⟩ = some (.int .i64 a0_2) ∧ w'.cell? ⟨gb353, 0, none⟩ = some (.bool a1_0) ∧ w'.cell? ⟨gb353, 1, none⟩ = some (.slice Ao74 l1_1.length co74) ∧ w'.cell? ⟨gb353, 2, none⟩ = some (.int .i64 a1_2)) (ds := []) #[false, false, false, false, false, false] (by kernel_rfl) rfl rfl ⟨bC_ BK352.out 0, bC_ BK352.out 1, bC_ BK352.out 2, bC_ BK353.out 0, bC_ BK353.out 1, bC_ BK353.out 2⟩ (fun hHeld => ?_)
   generalize w75.drew = w76 at HO0_1 HO1_1 BK352 BK353 HK HB hHeld ⊢
   refine take_ (i := 0) (N := some 7) (v := ?_) (a' := ?_) #[true, false, false, false, false, false] rfl rfl (by kernel_rfl) (fun _ _ _ h => h) (Or.inl ⟨by rfl, ?_⟩) hHeld ?_ ?_
   rotate_left
   ·rintro w' ⟨s0, s1, s2, s3, s4, s5⟩
    go_simp
    with_reducible rfl
   rotate_left
   ·simp only [Act.put, sp_, i64_w, i32_w]
    rfl
   refine take_ (i := 2) (N := some 9) (v := ?_) (a' := ?_) #[true, false, true, false, false, false] rfl rfl (by kernel_rfl) (fun _ _ _ h => h) (Or.inl ⟨by rfl, ?_⟩) hHeld ?_ ?_
   rotate_left
   ·rintro w' ⟨s0, s1, s2, s3, s4, s5⟩
    go_simp
    with_reducible rfl
   rotate_left
   ·simp only [Act.put, sp_, i64_w, i32_w]
    rfl
   refine one_ (i := 1) (N := some 8) #[true, true, true, false, false, false] rfl rfl (by kernel_rfl) (by decide) (fun K hK => ?_)
   refine goes_ Try.func60 (by kernel_rfl) rfl #[.agg #[.bool a0_0, .slice Ao72 l0_1.length co72, .int .i64 a0_2]] (by rfl) rfl rfl (by (try simp only [List.map_toArray, List.map_cons, List.map_nil]); first | done | rfl | (simp only [List.length_drop, List.length_take]; rfl)) ?_
   with_reducible refine (cutplaneref02_Sign.calls a0_0 _ _ l0_1 a0_2 t354 _ ?side1 ?side2 A3.out).mono ?_
   (case side1 => repeat (first | exact (Kd.R_reads' HO0_1.out).2.2 | (with_reducible refine Kd.C_alloc ?_ _) | (with_reducible refine Kd.C_drewN ?_ _) | (with_reducible refine Kd.C_drew ?_)))
   (case side2 => exact (Kd.R_reads' HO0_1.out).2.1)
   rintro e w77 ⟨rfl, hb⟩
   refine ⟨_, rfl, ?_⟩
   have n0_ := A0_ (Kd.R_below (by exact rm_ HO0_1.out) hb)
   have n1_ := A0_ (Kd.R_below (by exact rm_ HO1_1.out) hb)
   have n2_ := A0_ (blk_below (bm_ BK352.out) hb)
   have n3_ := A0_ (blk_below (bm_ BK353.out) hb)
   have n4_ := A0_ (Kept.below (S := (fun k_ => P0_1_ k_ ∨ P1_1_ k_)) (by repeat (first | (with_reducible first | exact HK.out | apply Kept.alloc | apply Kept.drewN | apply Kept.drew | refine Kept.setCell ?_ (.inr GW352.out) _ | refine Kept.setCell ?_ (.inr GW353.out) _) | exact HK.out)) hb)
   have n5_ := A0_ (below_step (by repeat (first | (with_reducible first | exact qm_ HB.out | apply qA_ | apply qN_ | apply qD_ | refine below_set ?_ GE352.out | refine below_set ?_ GE353.out) | exact HB.out)) hb)
   clear HO0_1 HO1_1 BK352 BK353 HK HB
   have HO0_1 := n0_
   have HO1_1 := n1_
   have BK352 := n2_
   have BK353 := n3_
   have HK := n4_
   have HB := n5_
   clear n0_ n1_ n2_ n3_ n4_ n5_
   (try clear hb)
   refine hK.out _ _ ⟨bC_ BK352.out 0, bC_ BK352.out 1, bC_ BK352.out 2, bC_ BK353.out 0, bC_ BK353.out 1, bC_ BK353.out 2⟩ (fun hHeld => ?_)
   clear hK K
   refine norm_ (a' := ?_) ?_ ?_
   rotate_left
   ·show Act.put _ (some 8) _ = _
    simp only [Act.put, sp_, i64_w, i32_w]
    rfl
   refine one_ (i := 3) (N := some 10) #[true, true, true, true, false, false] rfl rfl (by kernel_rfl) (by decide) (fun K hK => ?_)
   refine goes_ Try.func60 (by kernel_rfl) rfl #[.agg #[.bool a1_0, .slice Ao74 l1_1.length co74, .int .i64 a1_2]] (by rfl) rfl rfl (by (try simp only [List.map_toArray, List.map_cons, List.map_nil]); first | done | rfl | (simp only [List.length_drop, List.length_take]; rfl)) ?_
   with_reducible refine (cutplaneref02_Sign.calls a1_0 _ _ l1_1 a1_2 t355 _ ?side1 ?side2 A4.out).mono ?_
   (case side1 => repeat (first | exact (Kd.R_reads' HO1_1.out).2.2 | (with_reducible refine Kd.C_alloc ?_ _) | (with_reducible refine Kd.C_drewN ?_ _) | (with_reducible refine Kd.C_drew ?_)))
   (case side2 => exact (Kd.R_reads' HO1_1.out).2.1)
   rintro e w78 ⟨rfl, hb⟩
   refine ⟨_, rfl, ?_⟩
   have n0_ := A0_ (Kd.R_below (by exact rm_ HO0_1.out) hb)
   have n1_ := A0_ (Kd.R_below (by exact rm_ HO1_1.out) hb)
   have n2_ := A0_ (blk_below (bm_ BK352.out) hb)
   have n3_ := A0_ (blk_below (bm_ BK353.out) hb)
   have n4_ := A0_ (Kept.below (S := (fun k_ => P0_1_ k_ ∨ P1_1_ k_)) (by repeat (first | (with_reducible first | exact HK.out | apply Kept.alloc | apply Kept.drewN | apply Kept.drew | refine Kept.setCell ?_ (.inr GW352.out) _ | refine Kept.setCell ?_ (.inr GW353.out) _) | exact HK.out)) hb)
   have n5_ := A0_ (below_step (by repeat (first | (with_reducible first | exact qm_ HB.out | apply qA_ | apply qN_ | apply qD_ | refine below_set ?_ GE352.out | refine below_set ?_ GE353.out) | exact HB.out)) hb)
   clear HO0_1 HO1_1 BK352 BK353 HK HB
   have HO0_1 := n0_
   have HO1_1 := n1_
   have BK352 := n2_
   have BK353 := n3_
   have HK := n4_
   have HB := n5_
   clear n0_ n1_ n2_ n3_ n4_ n5_
   (try clear hb)
   refine hK.out _ _ ⟨bC_ BK352.out 0, bC_ BK352.out 1, bC_ BK352.out 2, bC_ BK353.out 0, bC_ BK353.out 1, bC_ BK353.out 2⟩ (fun hHeld => ?_)
   clear hK K
   refine norm_ (a' := ?_) ?_ ?_
   rotate_left
   ·show Act.put _ (some 10) _ = _
    simp only [Act.put, sp_, i64_w, i32_w]
    rfl
   refine pure_ (i := 4) (N := some 5) (v := ?_) (a' := ?_) #[true, true, true, true, true, false] rfl rfl (by kernel_rfl) (fun _ _ _ h => h) (Or.inl ⟨by rfl, ?_⟩) ?_ ?_
   rotate_left
   ·intro w'
    go_simp
    with_reducible rfl
   rotate_left
   ·simp only [Act.put, sp_, i64_w, i32_w]
    rfl
   refine pure_ (i := 5) (N := some 6) (v := ?_) (a' := ?_) #[true, true, true, true, true, true] rfl rfl (by kernel_rfl) (fun _ _ _ h => h) (Or.inl ⟨by rfl, ?_⟩) ?_ ?_
   rotate_left
   ·intro w'
    go_simp
    with_reducible rfl
   rotate_left
   ·simp only [Act.put, sp_, i64_w, i32_w]
    rfl
   refine done_ (by kernel_rfl) ?_
   try go_wp2
   go_ret
   exact ⟨by first | rfl | (simp [errW_none, errW_some] <;> rfl) | (simp [*, errW_none, errW_some] <;> rfl), by repeat (first | (with_reducible first | exact qm_ HB.out | apply qA_ | apply qN_ | apply qD_ | refine below_set ?_ GE352.out | refine below_set ?_ GE353.out) | exact HB.out), by repeat (first | (with_reducible first | exact HK.out | apply Kept.alloc | apply Kept.drewN | apply Kept.drew | refine Kept.setCell ?_ (.inr GW352.out) _ | refine Kept.setCell ?_ (.inr GW353.out) _) | exact HK.out)⟩
end Go.Proofs.Ytnjdaoeebhbmfaa.PA
end
