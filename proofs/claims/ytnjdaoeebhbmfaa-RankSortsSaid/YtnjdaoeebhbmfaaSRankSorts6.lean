/- Steps of Go functions that the law RankSorts uses, told as plain Lean functions, each with the proof that its call comes to what it tells; words on memory; plain facts. No condition beyond those that each text names. -/
import Derived.Test.YtnjdaoeebhbmfaaProg
import Derived.Below
import Derived.Deep.Draws
import Derived.Deep.AppendLies
import Derived.Maps.AppendAt
import Derived.OwnWalk
import Derived.Laws.BytesArg
import Derived.Laws.MakeOwn
import Derived.Laws.OwnMore
import Derived.Deep.OwnRows
import Derived.Tactics
import Derived.Lib.ConvBytes
import Derived.Laws.Slices
import Derived.WalkKit
import Derived.KernelRfl
import Derived.RowKit3
import Derived.Deep.LoopGhost
import Derived.Deep.QuietTactic
import Derived.BigQuiet
import Derived.WideLaws
import Derived.Deep.DeepCutAuto
import Derived.Deep.CutBlock
import Derived.Deep.RegionHeld3
import Derived.Laws.Rows
import Derived.Lib.AppendStr
import Derived.ArgAppend
import Derived.Laws.IdiomCopy
import Derived.OrdersHeld
import Derived.Laws.BitsLemmas
import Derived.RowKit
import Derived.Laws.StructEq
import Derived.Test.YtnjdaoeebhbmfaaSRankSorts0
import Derived.Test.YtnjdaoeebhbmfaaSRankSorts1
import Derived.Test.YtnjdaoeebhbmfaaSRankSorts3
import Derived.Test.YtnjdaoeebhbmfaaSRankSorts4
import Derived.Test.YtnjdaoeebhbmfaaSRankSorts5
section
namespace Go.Proofs.Ytnjdaoeebhbmfaa.PA
open Go.RowKit Go.Proofs.YtnjdaoeebhbmfaaW.PrintWords Go.Proofs.YtnjdaoeebhbmfaaW.PrintLast Go.Proofs.YtnjdaoeebhbmfaaW.PrintMore
attribute [local go_sem] max2_int min2_int max_two min_two max_three min_three max_four min_four   -- for this text's walks alone
set_option linter.unusedVariables false
set_option linter.unusedSimpArgs false
def rank_Steps.j0 : Nat → Int → Int → Int → Bool → Option (Int × Int)
 | 0, _, _, _, _ => none
 | k + 1, x0, x1, x2, x26 => if x26 = true then (some (0, 7)) else ((rank_place.f k x0 x1).bind fun t196 => ((rank_place.f k x0 x2).bind fun t197 => (some (IntKind.u64.wrap ((IntKind.u64.wrap (mx t196 t197)) - (IntKind.u64.wrap (mn t196 t197))), 0))))
def rank_Steps.f (k : Nat) (a0 : Int) (a1 : Int) (a2 : Int) : Option (Int × Int) := (rank_open.f k a0 (([a1, a2] : List Int))).bind fun t193 => (if t193 = 0 then ((rank_isNaN.f k a0 a1).bind fun t194 => (if t194 = true then (rank_Steps.j0 k a0 a1 a2 true) else ((rank_isNaN.f k a0 a2).bind fun t195 => (rank_Steps.j0 k a0 a1 a2 t195)))) else (some (0, t193)))
set_option maxHeartbeats 2000000 in
set_option maxRecDepth 100000 in
theorem rank_Steps.calls (k : Nat) (a0 : Int) (a1 : Int) (a2 : Int) (r1 : Int) (r2 : Int) (w : World) (h : rank_Steps.f k a0 a1 a2 = some (r1, r2)) :
  Calls Try.prog 23 #[.int .u8 a0, .int .u64 a1, .int .u64 a2] w fun e w' => e = .returned (.tuple #[.int .u64 r1, .int .i64 r2]) ∧ Below w.heap.size w w' := by
 have HB := A0_ (Below.refl w.heap.size w)
 have H : ((rank_open.f k a0 (([a1, a2] : List Int))).bind fun t193 => (if t193 = 0 then ((rank_isNaN.f k a0 a1).bind fun t194 => (if t194 = true then (rank_Steps.j0 k a0 a1 a2 true) else ((rank_isNaN.f k a0 a2).bind fun t195 => (rank_Steps.j0 k a0 a1 a2 t195)))) else (some (0, t193)))) = some (r1, r2) := h
 clear h
 obtain ⟨y190, hy190⟩ : ∃ y_ : List Int, y_ = (([a1, a2] : List Int)) := ⟨_, rfl⟩
 replace H : ((rank_open.f k a0 y190).bind fun t193 => (if t193 = 0 then ((rank_isNaN.f k a0 a1).bind fun t194 => (if t194 = true then (rank_Steps.j0 k a0 a1 a2 true) else ((rank_isNaN.f k a0 a2).bind fun t195 => (rank_Steps.j0 k a0 a1 a2 t195)))) else (some (0, t193)))) = some (r1, r2) := by first | (rw [hy190]; with_reducible exact H) | (have H2_ := (Option.bind_some _ _).symm.trans H; rw [hy190]; with_reducible exact H2_) | (have H2_ := (Option.bind_some _ _).symm.trans H; with_reducible exact H2_) | with_reducible exact H | (rw [hy190]; exact H) | exact H
 have Ny190 := A0_ hy190
 clear hy190
 replace H := Option.bind_eq_some_iff.mp H
 obtain ⟨t193, A40, H⟩ := H
 replace H : (if t193 = 0 then ((rank_isNaN.f k a0 a1).bind fun t194 => (if t194 = true then (rank_Steps.j0 k a0 a1 a2 true) else ((rank_isNaN.f k a0 a2).bind fun t195 => (rank_Steps.j0 k a0 a1 a2 t195)))) else (some (0, t193))) = some (r1, r2) := H
 have A4 := A0_ A40
 clear A40
 by_cases c5 : t193 = 0
 ·rw [if_pos c5] at H
  have c5b0 : (t193 == 0) = true := beq_iff_eq.mpr c5
  have c5b1 : (t193 != 0) = false := bne_eq_false_iff_eq.mpr c5
  clear c5
  have HC6 := A0_ H
  clear H
  go_enter Try.func23, Try.ntmps23
  go_upto_region 4 with (first | ((with_reducible refine gate_dst (N := 14) rfl ?_); refine Kd.R_lit (Kd.int .u64) _ 23 ?hg (N := 14) ?hd (xs := ([a1, a2] : List Int)) (inner := [.int .u64 a1, .int .u64 a2]) (ok := fun _ => True) (okp := fun _ => True) ?hr ?hp (fun _ hk => hk) trivial (Below.refl _ _) (Nat.le_refl _) (by simp) ?_; (case hd => rfl); (case hg => rfl); (case hr => first | (go_simp; done) | (go_simp; rfl)); (case hp => exact (Reps.one (show Kd.M (Kd.int .u64) _ _ _ a1 [.int .u64 a1] from rfl) (Reps.one (show Kd.M (Kd.int .u64) _ _ _ a2 [.int .u64 a2] from rfl) (Reps.none _ _)))); intro v191 w7 ho8 hb hg_ hnew_; clear hg_ hnew_; (first | rw [← Ny190.out] at ho8 | (simp only [Int.reduceToNat] at ho8; rw [← Ny190.out] at ho8)); have n0_ := A0_ (Kd.R_lower ho8 (below_size (qm_ HB.out))); have n1_ := A0_ (below_step (qm_ HB.out) hb); clear HB; have HO192 := n0_; have HB := n1_; clear n0_ n1_ hb ho8; obtain ⟨Ao9, co9, eo9⟩ := Kd.R_slice HO192.out; subst eo9) | ((with_reducible refine gate_callee (f := 34) rfl ?_); refine goesL_ (some 15) rfl rfl Try.func34 (by kernel_rfl) rfl #[.int .u8 a0, .slice Ao9 y190.length co9] rfl (by (try simp only [List.map_toArray, List.map_cons, List.map_nil]); first | done | rfl | (simp only [List.length_drop, List.length_take]; rfl)) ?_; (with_reducible refine (rank_open.calls k a0 _ _ y190 t193 _ ?side1 ?side2 A4.out).mono ?_); (case side1 => repeat (first | exact (Kd.R_reads' HO192.out).2.2 | (with_reducible refine Kd.C_alloc ?_ _) | (with_reducible refine Kd.C_drewN ?_ _) | (with_reducible refine Kd.C_drew ?_))); (case side2 => exact (Kd.R_reads' HO192.out).2.1); rintro e w10 ⟨rfl, hb⟩; refine ⟨_, rfl, ?_⟩; have n0_ := A0_ (Kd.R_below (by exact rm_ HO192.out) hb); have n1_ := A0_ (below_step (qm_ HB.out) hb); clear HO192 HB; have HO192 := n0_; have HB := n1_; clear n0_ n1_; (try clear hb)))
  (try simp only [Act.put, sp_])
  go_cut [26] (fun v26 wc => ∃ (kq : Nat) (x26_5 : Bool), v26 = .bool x26_5 ∧ Aside0 (rank_Steps.j0 kq a0 a1 a2 x26_5 = some (r1, r2)) ∧ Aside0 (kq ≤ k) ∧ Aside0 (Below w.heap.size w wc))
  case first =>
   have H := HC6.out
   clear HC6
   replace H := Option.bind_eq_some_iff.mp H
   obtain ⟨t194, A110, H⟩ := H
   replace H : (if t194 = true then (rank_Steps.j0 k a0 a1 a2 true) else ((rank_isNaN.f k a0 a2).bind fun t195 => (rank_Steps.j0 k a0 a1 a2 t195))) = some (r1, r2) := H
   have A11 := A0_ A110
   clear A110
   by_cases c12 : t194 = true
   ·subst c12
    have H1 : (rank_Steps.j0 k a0 a1 a2 true) = some (r1, r2) := by rw [if_pos rfl] at H; exact H
    clear H
    have H := H1
    clear H1
    have H' := A0_ H
    clear H
    go_wp2_with (first | ((with_reducible refine gate_callee (f := 35) rfl ?_); refine goesL_ (some 21) rfl rfl Try.func35 (by kernel_rfl) rfl #[.int .u8 a0, .int .u64 a1] rfl (by (try simp only [List.map_toArray, List.map_cons, List.map_nil]); first | done | rfl | (simp only [List.length_drop, List.length_take]; rfl)) ?_; (with_reducible refine (rank_isNaN.calls k a0 a1 true _ A11.out).mono ?_); rintro e w13 ⟨rfl, hb⟩; refine ⟨_, rfl, ?_⟩; have n0_ := A0_ (Kd.R_below (by exact rm_ HO192.out) hb); have n1_ := A0_ (below_step (qm_ HB.out) hb); clear HO192 HB; have HO192 := n0_; have HB := n1_; clear n0_ n1_; (try clear hb)))
    go_meet
    case rel => exact ⟨_, (true), (by first | rfl | (simp; done) | (simp [*]; done)), H', ⟨by first | omega | exact Nat.le_refl _⟩, ⟨qm_ HB.out⟩⟩
   ·replace c12 := Bool.eq_false_iff.mpr c12
    subst c12
    have H1 : ((rank_isNaN.f k a0 a2).bind fun t195 => (rank_Steps.j0 k a0 a1 a2 t195)) = some (r1, r2) := by rw [if_neg (show ¬ (false = true) by decide)] at H; exact H
    clear H
    have H := H1
    clear H1
    replace H := Option.bind_eq_some_iff.mp H
    obtain ⟨t195, A140, H⟩ := H
    replace H : (rank_Steps.j0 k a0 a1 a2 t195) = some (r1, r2) := H
    have A14 := A0_ A140
    clear A140
    have H' := A0_ H
    clear H
    go_wp2_with (first | ((with_reducible refine gate_callee (f := 35) rfl ?_); refine goesL_ (some 21) rfl rfl Try.func35 (by kernel_rfl) rfl #[.int .u8 a0, .int .u64 a1] rfl (by (try simp only [List.map_toArray, List.map_cons, List.map_nil]); first | done | rfl | (simp only [List.length_drop, List.length_take]; rfl)) ?_; (with_reducible refine (rank_isNaN.calls k a0 a1 false _ A11.out).mono ?_); rintro e w15 ⟨rfl, hb⟩; refine ⟨_, rfl, ?_⟩; have n0_ := A0_ (Kd.R_below (by exact rm_ HO192.out) hb); have n1_ := A0_ (below_step (qm_ HB.out) hb); clear HO192 HB; have HO192 := n0_; have HB := n1_; clear n0_ n1_; (try clear hb)) | (go_at_call 35; (with_reducible refine (rank_isNaN.calls k a0 a2 t195 _ A14.out).mono ?_); rintro e w16 ⟨rfl, hb⟩; have n0_ := A0_ (Kd.R_below (by exact rm_ HO192.out) hb); have n1_ := A0_ (below_step (qm_ HB.out) hb); clear HO192 HB; have HO192 := n0_; have HB := n1_; clear n0_ n1_; (try clear hb)))
    go_meet
    case rel => exact ⟨_, (t195), (by first | rfl | (simp; done) | (simp [*]; done)), H', ⟨by first | omega | exact Nat.le_refl _⟩, ⟨qm_ HB.out⟩⟩
  case rest =>
   clear HC6
   try clear c1
   try clear c2
   try clear p2
   try clear c3
   try clear c5
   try clear c5b0
   try clear c5b1
   try clear c12
   obtain ⟨kq, x26_5, rfl, HA, HJ5, HB⟩ := hcut
   cases kq with
   | zero => exact absurd HA.out (by simp [rank_Steps.j0])
   | succ kj5 =>
    have H := HA.out
    clear HA
    simp only [rank_Steps.j0] at H
    by_cases c17 : x26_5 = true
    ·subst c17
     have H1 : (some (0, 7)) = some (r1, r2) := by rw [if_pos rfl] at H; exact H
     clear H
     have H := H1
     clear H1
     simp only [Option.some.injEq, Prod.mk.injEq] at H
     obtain ⟨rfl, rfl⟩ := H
     go_wp2
     go_ret2
     exact ⟨by first | rfl | (simp [errW_none, errW_some] <;> rfl) | (simp [*, errW_none, errW_some] <;> rfl), qm_ HB.out⟩
    ·replace c17 := Bool.eq_false_iff.mpr c17
     subst c17
     have H1 : ((rank_place.f kj5 a0 a1).bind fun t196 => ((rank_place.f kj5 a0 a2).bind fun t197 => (some (IntKind.u64.wrap ((IntKind.u64.wrap (mx t196 t197)) - (IntKind.u64.wrap (mn t196 t197))), 0)))) = some (r1, r2) := by rw [if_neg (show ¬ (false = true) by decide)] at H; exact H
     clear H
     have H := H1
     clear H1
     replace H := Option.bind_eq_some_iff.mp H
     obtain ⟨t196, A180, H⟩ := H
     replace H : ((rank_place.f kj5 a0 a2).bind fun t197 => (some (IntKind.u64.wrap ((IntKind.u64.wrap (mx t196 t197)) - (IntKind.u64.wrap (mn t196 t197))), 0))) = some (r1, r2) := H
     have A18 := A0_ A180
     clear A180
     replace H := Option.bind_eq_some_iff.mp H
     obtain ⟨t197, A190, H⟩ := H
     replace H : (some (IntKind.u64.wrap ((IntKind.u64.wrap (mx t196 t197)) - (IntKind.u64.wrap (mn t196 t197))), 0)) = some (r1, r2) := H
     have A19 := A0_ A190
     clear A190
     obtain ⟨ji20, hji20⟩ : ∃ j_ : Int, (mx t196 t197) = j_ := ⟨_, rfl⟩
     replace H : (some (IntKind.u64.wrap ((IntKind.u64.wrap (ji20)) - (IntKind.u64.wrap (mn t196 t197))), 0)) = some (r1, r2) := by first | (rw [hji20] at H; exact H) | (simp only [hji20] at H ⊢; exact H)
     (try rw [hji20] at A18)
     (try rw [hji20] at A19)
     have hji20_ : (if t196 < t197 then t197 else t196) = ji20 := hji20
     obtain ⟨ji21, hji21⟩ : ∃ j_ : Int, (mn t196 t197) = j_ := ⟨_, rfl⟩
     replace H : (some (IntKind.u64.wrap ((IntKind.u64.wrap (ji20)) - (IntKind.u64.wrap (ji21))), 0)) = some (r1, r2) := by first | (rw [hji21] at H; exact H) | (simp only [hji21] at H ⊢; exact H)
     (try rw [hji21] at A18)
     (try rw [hji21] at A19)
     have hji21_ : (if t197 < t196 then t197 else t196) = ji21 := hji21
     simp only [Option.some.injEq, Prod.mk.injEq] at H
     obtain ⟨rfl, rfl⟩ := H
     go_wp2_with (first | ((with_reducible refine gate_callee (f := 37) rfl ?_); refine goesL_ (some 29) rfl rfl Try.func37 (by kernel_rfl) rfl #[.int .u8 a0, .int .u64 a1] rfl (by (try simp only [List.map_toArray, List.map_cons, List.map_nil]); first | done | rfl | (simp only [List.length_drop, List.length_take]; rfl)) ?_; (with_reducible refine (rank_place.calls kj5 a0 a1 t196 _ A18.out).mono ?_); rintro e w22 ⟨rfl, hb⟩; refine ⟨_, rfl, ?_⟩; have n0_ := A0_ (below_step (qm_ HB.out) hb); clear HB; have HB := n0_; clear n0_; (try clear hb)) | ((with_reducible refine gate_callee (f := 37) rfl ?_); refine goesL_ (some 32) rfl rfl Try.func37 (by kernel_rfl) rfl #[.int .u8 a0, .int .u64 a2] rfl (by (try simp only [List.map_toArray, List.map_cons, List.map_nil]); first | done | rfl | (simp only [List.length_drop, List.length_take]; rfl)) ?_; (with_reducible refine (rank_place.calls kj5 a0 a2 t197 _ A19.out).mono ?_); rintro e w23 ⟨rfl, hb⟩; refine ⟨_, rfl, ?_⟩; have n0_ := A0_ (below_step (qm_ HB.out) hb); clear HB; have HB := n0_; clear n0_; (try clear hb)))
     go_ret2
     exact ⟨by first | rfl | (simp [errW_none, errW_some] <;> rfl) | (simp only [← hji20, ← hji21]; first | rfl | (simp [errW_none, errW_some] <;> rfl)) | (simp [*, errW_none, errW_some] <;> rfl), qm_ HB.out⟩
 ·rw [if_neg c5] at H
  have c5b0 : (t193 == 0) = false := beq_eq_false_iff_ne.mpr c5
  have c5b1 : (t193 != 0) = true := bne_iff_ne.mpr c5
  simp only [Option.some.injEq, Prod.mk.injEq] at H
  obtain ⟨rfl, rfl⟩ := H
  go_enter Try.func23, Try.ntmps23
  go_wp2_with (first | ((with_reducible refine gate_dst (N := 14) rfl ?_); refine Kd.R_lit (Kd.int .u64) _ 23 ?hg (N := 14) ?hd (xs := ([a1, a2] : List Int)) (inner := [.int .u64 a1, .int .u64 a2]) (ok := fun _ => True) (okp := fun _ => True) ?hr ?hp (fun _ hk => hk) trivial (Below.refl _ _) (Nat.le_refl _) (by simp) ?_; (case hd => rfl); (case hg => rfl); (case hr => first | (go_simp; done) | (go_simp; rfl)); (case hp => exact (Reps.one (show Kd.M (Kd.int .u64) _ _ _ a1 [.int .u64 a1] from rfl) (Reps.one (show Kd.M (Kd.int .u64) _ _ _ a2 [.int .u64 a2] from rfl) (Reps.none _ _)))); intro v191 w24 ho25 hb hg_ hnew_; clear hg_ hnew_; (first | rw [← Ny190.out] at ho25 | (simp only [Int.reduceToNat] at ho25; rw [← Ny190.out] at ho25)); have n0_ := A0_ (Kd.R_lower ho25 (below_size (qm_ HB.out))); have n1_ := A0_ (below_step (qm_ HB.out) hb); clear HB; have HO192 := n0_; have HB := n1_; clear n0_ n1_ hb ho25; obtain ⟨Ao26, co26, eo26⟩ := Kd.R_slice HO192.out; subst eo26) | ((with_reducible refine gate_callee (f := 34) rfl ?_); refine goesL_ (some 15) rfl rfl Try.func34 (by kernel_rfl) rfl #[.int .u8 a0, .slice Ao26 y190.length co26] rfl (by (try simp only [List.map_toArray, List.map_cons, List.map_nil]); first | done | rfl | (simp only [List.length_drop, List.length_take]; rfl)) ?_; (with_reducible refine (rank_open.calls k a0 _ _ y190 t193 _ ?side1 ?side2 A4.out).mono ?_); (case side1 => repeat (first | exact (Kd.R_reads' HO192.out).2.2 | (with_reducible refine Kd.C_alloc ?_ _) | (with_reducible refine Kd.C_drewN ?_ _) | (with_reducible refine Kd.C_drew ?_))); (case side2 => exact (Kd.R_reads' HO192.out).2.1); rintro e w27 ⟨rfl, hb⟩; refine ⟨_, rfl, ?_⟩; have n0_ := A0_ (Kd.R_below (by exact rm_ HO192.out) hb); have n1_ := A0_ (below_step (qm_ HB.out) hb); clear HO192 HB; have HO192 := n0_; have HB := n1_; clear n0_ n1_; (try clear hb)))
  go_ret2
  exact ⟨by first | rfl | (simp [errW_none, errW_some] <;> rfl) | (simp [*, errW_none, errW_some] <;> rfl), qm_ HB.out⟩
def cutplanelaw07_known.f (k : Nat)  : Option (Bool) := (rank_Cmp.f k 1 2147483648 0).bind fun bt198 => ((rank_Total.f k 1 2147483648 0).bind fun bt200 => ((rank_Steps.f k 1 2147483649 1).bind fun bt202 => (if bt198.1 = 2 then (if bt198.2 = 0 then (if bt200.1 = (-1) then (if bt200.2 = 0 then (if bt202.1 = 2 then (some (bt202.2 == 0)) else (some false)) else (some false)) else (some false)) else (some false)) else (some false))))
set_option maxHeartbeats 2000000 in
set_option maxRecDepth 100000 in
theorem cutplanelaw07_known.calls (k : Nat)  (r : Bool) (w : World) (h : cutplanelaw07_known.f k  = some r) :
  Calls Try.prog 14 #[] w fun e w' => e = .returned (.bool r) ∧ Below w.heap.size w w' := by
 have HB := A0_ (Below.refl w.heap.size w)
 have H : ((rank_Cmp.f k 1 2147483648 0).bind fun bt198 => ((rank_Total.f k 1 2147483648 0).bind fun bt200 => ((rank_Steps.f k 1 2147483649 1).bind fun bt202 => (if bt198.1 = 2 then (if bt198.2 = 0 then (if bt200.1 = (-1) then (if bt200.2 = 0 then (if bt202.1 = 2 then (some (bt202.2 == 0)) else (some false)) else (some false)) else (some false)) else (some false)) else (some false))))) = some r := h
 clear h
 replace H := Option.bind_eq_some_iff.mp H
 obtain ⟨⟨t198, t199⟩, A10, H⟩ := H
 replace H : ((rank_Total.f k 1 2147483648 0).bind fun bt200 => ((rank_Steps.f k 1 2147483649 1).bind fun bt202 => (if t198 = 2 then (if t199 = 0 then (if bt200.1 = (-1) then (if bt200.2 = 0 then (if bt202.1 = 2 then (some (bt202.2 == 0)) else (some false)) else (some false)) else (some false)) else (some false)) else (some false)))) = some r := H
 have A1 := A0_ A10
 clear A10
 replace H := Option.bind_eq_some_iff.mp H
 obtain ⟨⟨t200, t201⟩, A20, H⟩ := H
 replace H : ((rank_Steps.f k 1 2147483649 1).bind fun bt202 => (if t198 = 2 then (if t199 = 0 then (if t200 = (-1) then (if t201 = 0 then (if bt202.1 = 2 then (some (bt202.2 == 0)) else (some false)) else (some false)) else (some false)) else (some false)) else (some false))) = some r := H
 have A2 := A0_ A20
 clear A20
 replace H := Option.bind_eq_some_iff.mp H
 obtain ⟨⟨t202, t203⟩, A30, H⟩ := H
 replace H : (if t198 = 2 then (if t199 = 0 then (if t200 = (-1) then (if t201 = 0 then (if t202 = 2 then (some (t203 == 0)) else (some false)) else (some false)) else (some false)) else (some false)) else (some false)) = some r := H
 have A3 := A0_ A30
 clear A30
 by_cases c4 : t198 = 2
 ·rw [if_pos c4] at H
  have c4b0 : (t198 == 2) = true := beq_iff_eq.mpr c4
  have c4b1 : (t198 != 2) = false := bne_eq_false_iff_eq.mpr c4
  clear c4
  by_cases c5 : t199 = 0
  ·rw [if_pos c5] at H
   have c5b0 : (t199 == 0) = true := beq_iff_eq.mpr c5
   have c5b1 : (t199 != 0) = false := bne_eq_false_iff_eq.mpr c5
   clear c5
   by_cases c6 : t200 = (-1)
   ·rw [if_pos c6] at H
    have c6b0 : (t200 == (-1)) = true := beq_iff_eq.mpr c6
    have c6b1 : (t200 != (-1)) = false := bne_eq_false_iff_eq.mpr c6
    clear c6
    by_cases c7 : t201 = 0
    ·rw [if_pos c7] at H
     have c7b0 : (t201 == 0) = true := beq_iff_eq.mpr c7
     have c7b1 : (t201 != 0) = false := bne_eq_false_iff_eq.mpr c7
     clear c7
     by_cases c8 : t202 = 2
     ·rw [if_pos c8] at H
      have c8b0 : (t202 == 2) = true := beq_iff_eq.mpr c8
      have c8b1 : (t202 != 2) = false := bne_eq_false_iff_eq.mpr c8
      clear c8
      obtain rfl := Option.some.inj H
      go_enter Try.func14, Try.ntmps14
      go_wp2_with (first | ((with_reducible refine gate_callee (f := 11) rfl ?_); refine goesL_ (some 8) rfl rfl Try.func11 (by kernel_rfl) rfl #[.int .u8 1, .int .u64 2147483648, .int .u64 0] rfl (by (try simp only [List.map_toArray, List.map_cons, List.map_nil]); first | done | rfl | (simp only [List.length_drop, List.length_take]; rfl)) ?_; (with_reducible refine (rank_Cmp.calls k 1 2147483648 0 t198 t199 _ A1.out).mono ?_); rintro e w9 ⟨rfl, hb⟩; refine ⟨_, rfl, ?_⟩; have n0_ := A0_ (below_step (qm_ HB.out) hb); clear HB; have HB := n0_; clear n0_; (try clear hb)) | ((with_reducible refine gate_callee (f := 12) rfl ?_); refine goesL_ (some 12) rfl rfl Try.func12 (by kernel_rfl) rfl #[.int .u8 1, .int .u64 2147483648, .int .u64 0] rfl (by (try simp only [List.map_toArray, List.map_cons, List.map_nil]); first | done | rfl | (simp only [List.length_drop, List.length_take]; rfl)) ?_; (with_reducible refine (rank_Total.calls k 1 2147483648 0 t200 t201 _ A2.out).mono ?_); rintro e w10 ⟨rfl, hb⟩; refine ⟨_, rfl, ?_⟩; have n0_ := A0_ (below_step (qm_ HB.out) hb); clear HB; have HB := n0_; clear n0_; (try clear hb)) | ((with_reducible refine gate_callee (f := 23) rfl ?_); refine goesL_ (some 16) rfl rfl Try.func23 (by kernel_rfl) rfl #[.int .u8 1, .int .u64 2147483649, .int .u64 1] rfl (by (try simp only [List.map_toArray, List.map_cons, List.map_nil]); first | done | rfl | (simp only [List.length_drop, List.length_take]; rfl)) ?_; (with_reducible refine (rank_Steps.calls k 1 2147483649 1 t202 t203 _ A3.out).mono ?_); rintro e w11 ⟨rfl, hb⟩; refine ⟨_, rfl, ?_⟩; have n0_ := A0_ (below_step (qm_ HB.out) hb); clear HB; have HB := n0_; clear n0_; (try clear hb)))
      go_ret
      exact ⟨by first | rfl | (simp [errW_none, errW_some] <;> rfl) | (simp [*, errW_none, errW_some] <;> rfl), qm_ HB.out⟩
     ·rw [if_neg c8] at H
      have c8b0 : (t202 == 2) = false := beq_eq_false_iff_ne.mpr c8
      have c8b1 : (t202 != 2) = true := bne_iff_ne.mpr c8
      obtain rfl := Option.some.inj H
      go_enter Try.func14, Try.ntmps14
      go_wp2_with (first | ((with_reducible refine gate_callee (f := 11) rfl ?_); refine goesL_ (some 8) rfl rfl Try.func11 (by kernel_rfl) rfl #[.int .u8 1, .int .u64 2147483648, .int .u64 0] rfl (by (try simp only [List.map_toArray, List.map_cons, List.map_nil]); first | done | rfl | (simp only [List.length_drop, List.length_take]; rfl)) ?_; (with_reducible refine (rank_Cmp.calls k 1 2147483648 0 t198 t199 _ A1.out).mono ?_); rintro e w12 ⟨rfl, hb⟩; refine ⟨_, rfl, ?_⟩; have n0_ := A0_ (below_step (qm_ HB.out) hb); clear HB; have HB := n0_; clear n0_; (try clear hb)) | ((with_reducible refine gate_callee (f := 12) rfl ?_); refine goesL_ (some 12) rfl rfl Try.func12 (by kernel_rfl) rfl #[.int .u8 1, .int .u64 2147483648, .int .u64 0] rfl (by (try simp only [List.map_toArray, List.map_cons, List.map_nil]); first | done | rfl | (simp only [List.length_drop, List.length_take]; rfl)) ?_; (with_reducible refine (rank_Total.calls k 1 2147483648 0 t200 t201 _ A2.out).mono ?_); rintro e w13 ⟨rfl, hb⟩; refine ⟨_, rfl, ?_⟩; have n0_ := A0_ (below_step (qm_ HB.out) hb); clear HB; have HB := n0_; clear n0_; (try clear hb)) | ((with_reducible refine gate_callee (f := 23) rfl ?_); refine goesL_ (some 16) rfl rfl Try.func23 (by kernel_rfl) rfl #[.int .u8 1, .int .u64 2147483649, .int .u64 1] rfl (by (try simp only [List.map_toArray, List.map_cons, List.map_nil]); first | done | rfl | (simp only [List.length_drop, List.length_take]; rfl)) ?_; (with_reducible refine (rank_Steps.calls k 1 2147483649 1 t202 t203 _ A3.out).mono ?_); rintro e w14 ⟨rfl, hb⟩; refine ⟨_, rfl, ?_⟩; have n0_ := A0_ (below_step (qm_ HB.out) hb); clear HB; have HB := n0_; clear n0_; (try clear hb)))
      go_ret
      exact ⟨by first | rfl | (simp [errW_none, errW_some] <;> rfl) | (simp [*, errW_none, errW_some] <;> rfl), qm_ HB.out⟩
    ·rw [if_neg c7] at H
     have c7b0 : (t201 == 0) = false := beq_eq_false_iff_ne.mpr c7
     have c7b1 : (t201 != 0) = true := bne_iff_ne.mpr c7
     obtain rfl := Option.some.inj H
     go_enter Try.func14, Try.ntmps14
     go_wp2_with (first | ((with_reducible refine gate_callee (f := 11) rfl ?_); refine goesL_ (some 8) rfl rfl Try.func11 (by kernel_rfl) rfl #[.int .u8 1, .int .u64 2147483648, .int .u64 0] rfl (by (try simp only [List.map_toArray, List.map_cons, List.map_nil]); first | done | rfl | (simp only [List.length_drop, List.length_take]; rfl)) ?_; (with_reducible refine (rank_Cmp.calls k 1 2147483648 0 t198 t199 _ A1.out).mono ?_); rintro e w15 ⟨rfl, hb⟩; refine ⟨_, rfl, ?_⟩; have n0_ := A0_ (below_step (qm_ HB.out) hb); clear HB; have HB := n0_; clear n0_; (try clear hb)) | ((with_reducible refine gate_callee (f := 12) rfl ?_); refine goesL_ (some 12) rfl rfl Try.func12 (by kernel_rfl) rfl #[.int .u8 1, .int .u64 2147483648, .int .u64 0] rfl (by (try simp only [List.map_toArray, List.map_cons, List.map_nil]); first | done | rfl | (simp only [List.length_drop, List.length_take]; rfl)) ?_; (with_reducible refine (rank_Total.calls k 1 2147483648 0 t200 t201 _ A2.out).mono ?_); rintro e w16 ⟨rfl, hb⟩; refine ⟨_, rfl, ?_⟩; have n0_ := A0_ (below_step (qm_ HB.out) hb); clear HB; have HB := n0_; clear n0_; (try clear hb)) | ((with_reducible refine gate_callee (f := 23) rfl ?_); refine goesL_ (some 16) rfl rfl Try.func23 (by kernel_rfl) rfl #[.int .u8 1, .int .u64 2147483649, .int .u64 1] rfl (by (try simp only [List.map_toArray, List.map_cons, List.map_nil]); first | done | rfl | (simp only [List.length_drop, List.length_take]; rfl)) ?_; (with_reducible refine (rank_Steps.calls k 1 2147483649 1 t202 t203 _ A3.out).mono ?_); rintro e w17 ⟨rfl, hb⟩; refine ⟨_, rfl, ?_⟩; have n0_ := A0_ (below_step (qm_ HB.out) hb); clear HB; have HB := n0_; clear n0_; (try clear hb)))
     go_ret
     exact ⟨by first | rfl | (simp [errW_none, errW_some] <;> rfl) | (simp [*, errW_none, errW_some] <;> rfl), qm_ HB.out⟩
   ·rw [if_neg c6] at H
    have c6b0 : (t200 == (-1)) = false := beq_eq_false_iff_ne.mpr c6
    have c6b1 : (t200 != (-1)) = true := bne_iff_ne.mpr c6
    obtain rfl := Option.some.inj H
    go_enter Try.func14, Try.ntmps14
    go_wp2_with (first | ((with_reducible refine gate_callee (f := 11) rfl ?_); refine goesL_ (some 8) rfl rfl Try.func11 (by kernel_rfl) rfl #[.int .u8 1, .int .u64 2147483648, .int .u64 0] rfl (by (try simp only [List.map_toArray, List.map_cons, List.map_nil]); first | done | rfl | (simp only [List.length_drop, List.length_take]; rfl)) ?_; (with_reducible refine (rank_Cmp.calls k 1 2147483648 0 t198 t199 _ A1.out).mono ?_); rintro e w18 ⟨rfl, hb⟩; refine ⟨_, rfl, ?_⟩; have n0_ := A0_ (below_step (qm_ HB.out) hb); clear HB; have HB := n0_; clear n0_; (try clear hb)) | ((with_reducible refine gate_callee (f := 12) rfl ?_); refine goesL_ (some 12) rfl rfl Try.func12 (by kernel_rfl) rfl #[.int .u8 1, .int .u64 2147483648, .int .u64 0] rfl (by (try simp only [List.map_toArray, List.map_cons, List.map_nil]); first | done | rfl | (simp only [List.length_drop, List.length_take]; rfl)) ?_; (with_reducible refine (rank_Total.calls k 1 2147483648 0 t200 t201 _ A2.out).mono ?_); rintro e w19 ⟨rfl, hb⟩; refine ⟨_, rfl, ?_⟩; have n0_ := A0_ (below_step (qm_ HB.out) hb); clear HB; have HB := n0_; clear n0_; (try clear hb)) | ((with_reducible refine gate_callee (f := 23) rfl ?_); refine goesL_ (some 16) rfl rfl Try.func23 (by kernel_rfl) rfl #[.int .u8 1, .int .u64 2147483649, .int .u64 1] rfl (by (try simp only [List.map_toArray, List.map_cons, List.map_nil]); first | done | rfl | (simp only [List.length_drop, List.length_take]; rfl)) ?_; (with_reducible refine (rank_Steps.calls k 1 2147483649 1 t202 t203 _ A3.out).mono ?_); rintro e w20 ⟨rfl, hb⟩; refine ⟨_, rfl, ?_⟩; have n0_ := A0_ (below_step (qm_ HB.out) hb); clear HB; have HB := n0_; clear n0_; (try clear hb)))
    go_ret
    exact ⟨by first | rfl | (simp [errW_none, errW_some] <;> rfl) | (simp [*, errW_none, errW_some] <;> rfl), qm_ HB.out⟩
  ·rw [if_neg c5] at H
   have c5b0 : (t199 == 0) = false := beq_eq_false_iff_ne.mpr c5
   have c5b1 : (t199 != 0) = true := bne_iff_ne.mpr c5
   obtain rfl := Option.some.inj H
   go_enter Try.func14, Try.ntmps14
   go_wp2_with (first | ((with_reducible refine gate_callee (f := 11) rfl ?_); refine goesL_ (some 8) rfl rfl Try.func11 (by kernel_rfl) rfl #[.int .u8 1, .int .u64 2147483648, .int .u64 0] rfl (by (try simp only [List.map_toArray, List.map_cons, List.map_nil]); first | done | rfl | (simp only [List.length_drop, List.length_take]; rfl)) ?_; (with_reducible refine (rank_Cmp.calls k 1 2147483648 0 t198 t199 _ A1.out).mono ?_); rintro e w21 ⟨rfl, hb⟩; refine ⟨_, rfl, ?_⟩; have n0_ := A0_ (below_step (qm_ HB.out) hb); clear HB; have HB := n0_; clear n0_; (try clear hb)) | ((with_reducible refine gate_callee (f := 12) rfl ?_); refine goesL_ (some 12) rfl rfl Try.func12 (by kernel_rfl) rfl #[.int .u8 1, .int .u64 2147483648, .int .u64 0] rfl (by (try simp only [List.map_toArray, List.map_cons, List.map_nil]); first | done | rfl | (simp only [List.length_drop, List.length_take]; rfl)) ?_; (with_reducible refine (rank_Total.calls k 1 2147483648 0 t200 t201 _ A2.out).mono ?_); rintro e w22 ⟨rfl, hb⟩; refine ⟨_, rfl, ?_⟩; have n0_ := A0_ (below_step (qm_ HB.out) hb); clear HB; have HB := n0_; clear n0_; (try clear hb)) | ((with_reducible refine gate_callee (f := 23) rfl ?_); refine goesL_ (some 16) rfl rfl Try.func23 (by kernel_rfl) rfl #[.int .u8 1, .int .u64 2147483649, .int .u64 1] rfl (by (try simp only [List.map_toArray, List.map_cons, List.map_nil]); first | done | rfl | (simp only [List.length_drop, List.length_take]; rfl)) ?_; (with_reducible refine (rank_Steps.calls k 1 2147483649 1 t202 t203 _ A3.out).mono ?_); rintro e w23 ⟨rfl, hb⟩; refine ⟨_, rfl, ?_⟩; have n0_ := A0_ (below_step (qm_ HB.out) hb); clear HB; have HB := n0_; clear n0_; (try clear hb)))
   go_ret
   exact ⟨by first | rfl | (simp [errW_none, errW_some] <;> rfl) | (simp [*, errW_none, errW_some] <;> rfl), qm_ HB.out⟩
 ·rw [if_neg c4] at H
  have c4b0 : (t198 == 2) = false := beq_eq_false_iff_ne.mpr c4
  have c4b1 : (t198 != 2) = true := bne_iff_ne.mpr c4
  obtain rfl := Option.some.inj H
  go_enter Try.func14, Try.ntmps14
  go_wp2_with (first | ((with_reducible refine gate_callee (f := 11) rfl ?_); refine goesL_ (some 8) rfl rfl Try.func11 (by kernel_rfl) rfl #[.int .u8 1, .int .u64 2147483648, .int .u64 0] rfl (by (try simp only [List.map_toArray, List.map_cons, List.map_nil]); first | done | rfl | (simp only [List.length_drop, List.length_take]; rfl)) ?_; (with_reducible refine (rank_Cmp.calls k 1 2147483648 0 t198 t199 _ A1.out).mono ?_); rintro e w24 ⟨rfl, hb⟩; refine ⟨_, rfl, ?_⟩; have n0_ := A0_ (below_step (qm_ HB.out) hb); clear HB; have HB := n0_; clear n0_; (try clear hb)) | ((with_reducible refine gate_callee (f := 12) rfl ?_); refine goesL_ (some 12) rfl rfl Try.func12 (by kernel_rfl) rfl #[.int .u8 1, .int .u64 2147483648, .int .u64 0] rfl (by (try simp only [List.map_toArray, List.map_cons, List.map_nil]); first | done | rfl | (simp only [List.length_drop, List.length_take]; rfl)) ?_; (with_reducible refine (rank_Total.calls k 1 2147483648 0 t200 t201 _ A2.out).mono ?_); rintro e w25 ⟨rfl, hb⟩; refine ⟨_, rfl, ?_⟩; have n0_ := A0_ (below_step (qm_ HB.out) hb); clear HB; have HB := n0_; clear n0_; (try clear hb)) | ((with_reducible refine gate_callee (f := 23) rfl ?_); refine goesL_ (some 16) rfl rfl Try.func23 (by kernel_rfl) rfl #[.int .u8 1, .int .u64 2147483649, .int .u64 1] rfl (by (try simp only [List.map_toArray, List.map_cons, List.map_nil]); first | done | rfl | (simp only [List.length_drop, List.length_take]; rfl)) ?_; (with_reducible refine (rank_Steps.calls k 1 2147483649 1 t202 t203 _ A3.out).mono ?_); rintro e w26 ⟨rfl, hb⟩; refine ⟨_, rfl, ?_⟩; have n0_ := A0_ (below_step (qm_ HB.out) hb); clear HB; have HB := n0_; clear n0_; (try clear hb)))
  go_ret
  exact ⟨by first | rfl | (simp [errW_none, errW_some] <;> rfl) | (simp [*, errW_none, errW_some] <;> rfl), qm_ HB.out⟩
end Go.Proofs.Ytnjdaoeebhbmfaa.PA
end

section
namespace Go.Proofs.Ytnjdaoeebhbmfaa.PA
open Go.RowKit Go.Proofs.YtnjdaoeebhbmfaaW.PrintWords Go.Proofs.YtnjdaoeebhbmfaaW.PrintLast Go.Proofs.YtnjdaoeebhbmfaaW.PrintMore
attribute [local go_sem] max2_int min2_int max_two min_two max_three min_three max_four min_four   -- for this text's walks alone
set_option linter.unusedVariables false
set_option linter.unusedSimpArgs false
def cutplaneref03_Sign.f (a0 : Int) : Option (Int) := if a0 = 1 then (some 2147483648) else (some 9223372036854775808)
set_option maxHeartbeats 2000000 in
set_option maxRecDepth 100000 in
theorem cutplaneref03_Sign.calls (a0 : Int) (r : Int) (w : World) (h : cutplaneref03_Sign.f a0 = some r) :
  Calls Try.prog 29 #[.int .u8 a0] w fun e w' => e = .returned (.int .u64 r) ∧ Drawn0 w w' := by
 have H : (if a0 = 1 then (some 2147483648) else (some 9223372036854775808)) = some r := h
 clear h
 by_cases c2 : a0 = 1
 ·rw [if_pos c2] at H
  have c2b0 : (a0 == 1) = true := beq_iff_eq.mpr c2
  have c2b1 : (a0 != 1) = false := bne_eq_false_iff_eq.mpr c2
  clear c2
  obtain rfl := Option.some.inj H
  go_enter Try.func29, Try.ntmps29
  go_wp2
  go_ret
  exact ⟨by first | rfl | (simp; done) | (simp [*]; done), by repeat (first | exact Drawn0.refl _ | apply Drawn0.step)⟩
 ·rw [if_neg c2] at H
  have c2b0 : (a0 == 1) = false := beq_eq_false_iff_ne.mpr c2
  have c2b1 : (a0 != 1) = true := bne_iff_ne.mpr c2
  obtain rfl := Option.some.inj H
  go_enter Try.func29, Try.ntmps29
  go_wp2
  go_ret
  exact ⟨by first | rfl | (simp; done) | (simp [*]; done), by repeat (first | exact Drawn0.refl _ | apply Drawn0.step)⟩
def cutplaneref03_Frac.f (a0 : Int) : Option (Int) := if a0 = 1 then (some 23) else (some 52)
set_option maxHeartbeats 2000000 in
set_option maxRecDepth 100000 in
theorem cutplaneref03_Frac.calls (a0 : Int) (r : Int) (w : World) (h : cutplaneref03_Frac.f a0 = some r) :
  Calls Try.prog 66 #[.int .u8 a0] w fun e w' => e = .returned (.int .i64 r) ∧ Drawn0 w w' := by
 have H : (if a0 = 1 then (some 23) else (some 52)) = some r := h
 clear h
 by_cases c2 : a0 = 1
 ·rw [if_pos c2] at H
  have c2b0 : (a0 == 1) = true := beq_iff_eq.mpr c2
  have c2b1 : (a0 != 1) = false := bne_eq_false_iff_eq.mpr c2
  clear c2
  obtain rfl := Option.some.inj H
  go_enter Try.func66, Try.ntmps66
  go_wp2
  go_ret
  exact ⟨by first | rfl | (simp; done) | (simp [*]; done), by repeat (first | exact Drawn0.refl _ | apply Drawn0.step)⟩
 ·rw [if_neg c2] at H
  have c2b0 : (a0 == 1) = false := beq_eq_false_iff_ne.mpr c2
  have c2b1 : (a0 != 1) = true := bne_iff_ne.mpr c2
  obtain rfl := Option.some.inj H
  go_enter Try.func66, Try.ntmps66
  go_wp2
  go_ret
  exact ⟨by first | rfl | (simp; done) | (simp [*]; done), by repeat (first | exact Drawn0.refl _ | apply Drawn0.step)⟩
def cutplaneref03_Split.f (a0 a1 : Int) : Option (Bool × Int × Int) :=
 if 0 ≤ a1 ∧ a1 < 18446744073709551616 then (if a0 = 1 then some (decide (a1 ≥ 2147483648), a1 % 2147483648 / 8388608, a1 % 8388608) else some (decide (a1 ≥ 9223372036854775808), a1 % 9223372036854775808 / 4503599627370496, a1 % 4503599627370496)) else none
set_option maxHeartbeats 1000000 in
set_option maxRecDepth 100000 in
theorem cutplaneref03_Split.calls (a0 a1 : Int) (r1 : Bool) (r2 r3 : Int) (w : World) (h : cutplaneref03_Split.f a0 a1 = some (r1, r2, r3)) :
  Calls Try.prog 42 #[.int .u8 a0, .int .u64 a1] w fun e w' => e = .returned (.agg #[.bool r1, .int .i64 r2, .int .u64 r3]) ∧ Below w.heap.size w w' := by
 unfold cutplaneref03_Split.f at h
 by_cases hb : 0 ≤ a1 ∧ a1 < 18446744073709551616
 ·rw [if_pos hb] at h
  obtain ⟨hb0, hb1⟩ := hb
  by_cases c : a0 = 1
  ·subst c
   rw [if_pos rfl] at h
   simp only [Option.some.injEq, Prod.mk.injEq] at h
   obtain ⟨rfl, rfl, rfl⟩ := h
   go_enter Try.func42, Try.ntmps42
   go_wp2
   refine bodyPost_ret (v := .agg #[.bool (decide (a1 ≥ 2147483648)), .int .i64 (a1 % 2147483648 / 8388608), .int .u64 (a1 % 8388608)]) ?_ rfl ⟨rfl, ?_⟩
   ·simp [results, Try.results42, go_sem]
   ·repeat (first | exact Below.refl _ _ | apply below_alloc | (refine below_set ?_ (by simp)))
  ·rw [if_neg c] at h
   have cb : (a0 == 1) = false := beq_eq_false_iff_ne.mpr c
   simp only [Option.some.injEq, Prod.mk.injEq] at h
   obtain ⟨rfl, rfl, rfl⟩ := h
   go_enter Try.func42, Try.ntmps42
   go_wp2
   refine bodyPost_ret (v := .agg #[.bool (decide (a1 ≥ 9223372036854775808)), .int .i64 (a1 % 9223372036854775808 / 4503599627370496), .int .u64 (a1 % 4503599627370496)]) ?_ rfl ⟨rfl, ?_⟩
   ·simp [results, Try.results42, go_sem]
   ·repeat (first | exact Below.refl _ _ | apply below_alloc | (refine below_set ?_ (by simp)))
 ·rw [if_neg hb] at h
  exact absurd h (by simp)
def cutplaneref03_Most.f (a0 : Int) : Option (Int) := if a0 = 1 then (some 255) else (some 2047)
set_option maxHeartbeats 2000000 in
set_option maxRecDepth 100000 in
theorem cutplaneref03_Most.calls (a0 : Int) (r : Int) (w : World) (h : cutplaneref03_Most.f a0 = some r) :
  Calls Try.prog 45 #[.int .u8 a0] w fun e w' => e = .returned (.int .i64 r) ∧ Drawn0 w w' := by
 have H : (if a0 = 1 then (some 255) else (some 2047)) = some r := h
 clear h
 by_cases c2 : a0 = 1
 ·rw [if_pos c2] at H
  have c2b0 : (a0 == 1) = true := beq_iff_eq.mpr c2
  have c2b1 : (a0 != 1) = false := bne_eq_false_iff_eq.mpr c2
  clear c2
  obtain rfl := Option.some.inj H
  go_enter Try.func45, Try.ntmps45
  go_wp2
  go_ret
  exact ⟨by first | rfl | (simp; done) | (simp [*]; done), by repeat (first | exact Drawn0.refl _ | apply Drawn0.step)⟩
 ·rw [if_neg c2] at H
  have c2b0 : (a0 == 1) = false := beq_eq_false_iff_ne.mpr c2
  have c2b1 : (a0 != 1) = true := bne_iff_ne.mpr c2
  obtain rfl := Option.some.inj H
  go_enter Try.func45, Try.ntmps45
  go_wp2
  go_ret
  exact ⟨by first | rfl | (simp; done) | (simp [*]; done), by repeat (first | exact Drawn0.refl _ | apply Drawn0.step)⟩
def cutplaneref03_Class.j0 : Nat → Int → Bool → Bool → Int → Int → Option (Int)
 | 0, _, _, _, _, _ => none
 | k + 1, x0, x16, x208000, x208001, x208002 => if x16 = true then (some 1) else (if x208001 = 0 then (some 2) else ((cutplaneref03_Most.f x0).bind fun t208 => (if x208001 < t208 then (some 3) else (if x208002 = 0 then (some 4) else (some 5)))))
def cutplaneref03_Class.f (k : Nat) (a0 : Int) (a1 : Int) : Option (Int) := (cutplaneref03_Split.f a0 a1).bind fun bt204 => (if bt204.2.1 = 0 then (cutplaneref03_Class.j0 k a0 (bt204.2.2 == 0) bt204.1 bt204.2.1 bt204.2.2) else (cutplaneref03_Class.j0 k a0 false bt204.1 bt204.2.1 bt204.2.2))
theorem cutplaneref03_Class.mono_l : ∀ k, (∀ y0 y1 y2 y3 y4, LeO (cutplaneref03_Class.j0 k y0 y1 y2 y3 y4) (cutplaneref03_Class.j0 (k + 1) y0 y1 y2 y3 y4))
 | 0 => fun _ _ _ _ _ r h => by simp [cutplaneref03_Class.j0] at h
 | k + 1 => by
  have ih0 := cutplaneref03_Class.mono_l k
  ·intro y0 y1 y2 y3 y4
   unfold cutplaneref03_Class.j0
   repeat' first
   | (with_reducible exact ih0 _ _ _ _ _)
   | (with_reducible exact LeO.refl _)
   | (with_reducible exact LeO.none _)
   | (with_reducible refine LeO.ite ?_ ?_)
   | (with_reducible refine LeO.bind ?_ (fun _ => ?_))
   | exact ih0 _ _ _ _ _
   | exact LeO.none _
   | refine LeO.ite ?_ ?_
   | refine LeO.bind ?_ (fun _ => ?_)
theorem cutplaneref03_Class.mono : ∀ a0 a1 k, LeO (cutplaneref03_Class.f k a0 a1) (cutplaneref03_Class.f (k + 1) a0 a1) := by
 intro a0 a1 k
 have ih0 := cutplaneref03_Class.mono_l k
 unfold cutplaneref03_Class.f
 repeat' first
   | (with_reducible exact ih0 _ _ _ _ _)
   | (with_reducible exact LeO.refl _)
   | (with_reducible exact LeO.none _)
   | (with_reducible refine LeO.ite ?_ ?_)
   | (with_reducible refine LeO.bind ?_ (fun _ => ?_))
   | exact ih0 _ _ _ _ _
   | exact LeO.none _
   | refine LeO.ite ?_ ?_
   | refine LeO.bind ?_ (fun _ => ?_)
set_option maxHeartbeats 2000000 in
set_option maxRecDepth 100000 in
theorem cutplaneref03_Class.calls (k : Nat) (a0 : Int) (a1 : Int) (r : Int) (w : World) (h : cutplaneref03_Class.f k a0 a1 = some r) :
  Calls Try.prog 22 #[.int .u8 a0, .int .u64 a1] w fun e w' => e = .returned (.int .u8 r) ∧ Below w.heap.size w w' := by
 have hu67 := Try.underlying67
 have HB := A0_ (Below.refl w.heap.size w)
 have H : ((cutplaneref03_Split.f a0 a1).bind fun bt204 => (if bt204.2.1 = 0 then (cutplaneref03_Class.j0 k a0 (bt204.2.2 == 0) bt204.1 bt204.2.1 bt204.2.2) else (cutplaneref03_Class.j0 k a0 false bt204.1 bt204.2.1 bt204.2.2))) = some r := h
 clear h
 replace H := Option.bind_eq_some_iff.mp H
 obtain ⟨⟨t204, t205, t206⟩, A30, H⟩ := H
 replace H : (if t205 = 0 then (cutplaneref03_Class.j0 k a0 (t206 == 0) t204 t205 t206) else (cutplaneref03_Class.j0 k a0 false t204 t205 t206)) = some r := H
 have A3 := A0_ A30
 clear A30
 have HC4 := A0_ H
 clear H
 go_enter Try.func22, Try.ntmps22
 go_upto_region 2 with (first | (go_at_call 42; (with_reducible refine (cutplaneref03_Split.calls a0 a1 t204 t205 t206 _ A3.out).mono ?_); rintro e w5 ⟨rfl, hb⟩; have n0_ := A0_ (below_step (qm_ HB.out) hb); clear HB; have HB := n0_; clear n0_; (try clear hb)) | ((with_reducible refine gate_dst (N := 5) rfl ?_); refine box_event ?hg (N := 5) ?hd (cs := #[.bool false, .int .i64 0, .int .u64 0]) (t := 67) ?hr ?_; (case hd => rfl); (case hg => rfl); (case hr => first | (go_simp; done) | (go_simp; rfl)); intro gb207 hg w6 hbox hb; have n0_ := A0_ (below_step (qm_ HB.out) hb); have n1_ := A0_ (hbox); have n2_ := A0_ ((by rw [hg]; exact (below_size (qm_ HB.out)) : w.heap.size ≤ gb207)); have n3_ := A0_ ((by rw [hg]; exact (below_size (qm_ HB.out)) : w.heap.size ≤ gb207)); clear HB; have HB := n0_; have BK207 := n1_; have GW207 := n2_; have GE207 := n3_; clear n0_ n1_ n2_ n3_ hb hbox hg; have hcz7 := bc3_ BK207.out; have hfz7 := bf3_ BK207.out))
 repeat (go_quiet (first | (go_at_call 42; (with_reducible refine (cutplaneref03_Split.calls a0 a1 t204 t205 t206 _ A3.out).mono ?_); rintro e w5 ⟨rfl, hb⟩; have n0_ := A0_ (below_step (qm_ HB.out) hb); clear HB; have HB := n0_; clear n0_; (try clear hb)) | ((with_reducible refine gate_dst (N := 5) rfl ?_); refine box_event ?hg (N := 5) ?hd (cs := #[.bool false, .int .i64 0, .int .u64 0]) (t := 67) ?hr ?_; (case hd => rfl); (case hg => rfl); (case hr => first | (go_simp; done) | (go_simp; rfl)); intro gb207 hg w6 hbox hb; have n0_ := A0_ (below_step (qm_ HB.out) hb); have n1_ := A0_ (hbox); have n2_ := A0_ ((by rw [hg]; exact (below_size (qm_ HB.out)) : w.heap.size ≤ gb207)); have n3_ := A0_ ((by rw [hg]; exact (below_size (qm_ HB.out)) : w.heap.size ≤ gb207)); clear HB; have HB := n0_; have BK207 := n1_; have GW207 := n2_; have GE207 := n3_; clear n0_ n1_ n2_ n3_ hb hbox hg; have hcz7 := bc3_ BK207.out; have hfz7 := bf3_ BK207.out)); go_upto_region 2 with (first | (go_at_call 42; (with_reducible refine (cutplaneref03_Split.calls a0 a1 t204 t205 t206 _ A3.out).mono ?_); rintro e w5 ⟨rfl, hb⟩; have n0_ := A0_ (below_step (qm_ HB.out) hb); clear HB; have HB := n0_; clear n0_; (try clear hb)) | ((with_reducible refine gate_dst (N := 5) rfl ?_); refine box_event ?hg (N := 5) ?hd (cs := #[.bool false, .int .i64 0, .int .u64 0]) (t := 67) ?hr ?_; (case hd => rfl); (case hg => rfl); (case hr => first | (go_simp; done) | (go_simp; rfl)); intro gb207 hg w6 hbox hb; have n0_ := A0_ (below_step (qm_ HB.out) hb); have n1_ := A0_ (hbox); have n2_ := A0_ ((by rw [hg]; exact (below_size (qm_ HB.out)) : w.heap.size ≤ gb207)); have n3_ := A0_ ((by rw [hg]; exact (below_size (qm_ HB.out)) : w.heap.size ≤ gb207)); clear HB; have HB := n0_; have BK207 := n1_; have GW207 := n2_; have GE207 := n3_; clear n0_ n1_ n2_ n3_ hb hbox hg; have hcz7 := bc3_ BK207.out; have hfz7 := bf3_ BK207.out)))
 (try simp only [Act.put, sp_])
 go_cut [16] (fun v16 wc => ∃ (kq : Nat) (x16_3 : Bool), v16 = .bool x16_3 ∧ Aside0 (cutplaneref03_Class.j0 kq a0 x16_3 t204 t205 t206 = some r) ∧ Aside0 (kq ≤ k) ∧ Aside0 (wc.heap[gb207]? = some (.cells #[.bool t204, .int .i64 t205, .int .u64 t206] 67 (0, 0))) ∧ Aside0 (Below w.heap.size w wc))
 case first =>
  have H := HC4.out
  clear HC4
  by_cases c8 : t205 = 0
  ·rw [if_pos c8] at H
   have c8b0 : (t205 == 0) = true := beq_iff_eq.mpr c8
   have c8b1 : (t205 != 0) = false := bne_eq_false_iff_eq.mpr c8
   clear c8
   (first | rw [c8b0] | (simp only [i64_w, i32_w]; rw [c8b0]) | skip)
   have H' := A0_ H
   clear H
   have hcz9 := bc3_ BK207.out
   have hfz9 := bf3_ BK207.out
   go_wp2
   repeat (go_quiet (fail); try go_wp2)
   go_meet
   case rel => exact ⟨_, ((t206 == 0)), (by first | rfl | (simp; done) | (simp [*]; done)), H', ⟨by first | omega | exact Nat.le_refl _⟩, ⟨by (with_reducible repeat first | apply bN_ | apply bD_ | apply bA_); refine blk_put (cs := #[.bool t204, .int .i64 t205, .int .u64 0]) ?_ 2 _ rfl; (with_reducible repeat first | apply bN_ | apply bD_ | apply bA_); refine blk_put (cs := #[.bool t204, .int .i64 0, .int .u64 0]) ?_ 1 _ rfl; (with_reducible repeat first | apply bN_ | apply bD_ | apply bA_); refine blk_put (cs := #[.bool false, .int .i64 0, .int .u64 0]) ?_ 0 _ rfl; (with_reducible repeat first | apply bN_ | apply bD_ | apply bA_); exact BK207.out⟩, ⟨by repeat (first | (with_reducible first | exact qm_ HB.out | apply qA_ | apply qN_ | apply qD_ | refine below_set ?_ GE207.out) | exact HB.out)⟩⟩
  ·rw [if_neg c8] at H
   have c8b0 : (t205 == 0) = false := beq_eq_false_iff_ne.mpr c8
   have c8b1 : (t205 != 0) = true := bne_iff_ne.mpr c8
   (first | rw [c8b0] | (simp only [i64_w, i32_w]; rw [c8b0]) | skip)
   have H' := A0_ H
   clear H
   have hcz10 := bc3_ BK207.out
   have hfz10 := bf3_ BK207.out
   go_wp2
   repeat (go_quiet (fail); try go_wp2)
   go_meet
   case rel => exact ⟨_, (false), (by first | rfl | (simp; done) | (simp [*]; done)), H', ⟨by first | omega | exact Nat.le_refl _⟩, ⟨by (with_reducible repeat first | apply bN_ | apply bD_ | apply bA_); refine blk_put (cs := #[.bool t204, .int .i64 t205, .int .u64 0]) ?_ 2 _ rfl; (with_reducible repeat first | apply bN_ | apply bD_ | apply bA_); refine blk_put (cs := #[.bool t204, .int .i64 0, .int .u64 0]) ?_ 1 _ rfl; (with_reducible repeat first | apply bN_ | apply bD_ | apply bA_); refine blk_put (cs := #[.bool false, .int .i64 0, .int .u64 0]) ?_ 0 _ rfl; (with_reducible repeat first | apply bN_ | apply bD_ | apply bA_); exact BK207.out⟩, ⟨by repeat (first | (with_reducible first | exact qm_ HB.out | apply qA_ | apply qN_ | apply qD_ | refine below_set ?_ GE207.out) | exact HB.out)⟩⟩
 case rest =>
  clear HC4
  try clear c2
  try clear p2
  try clear c8
  try clear c8b0
  try clear c8b1
  try clear hcz10
  try clear hcz7
  try clear hcz9
  try clear hfz10
  try clear hfz7
  try clear hfz9
  obtain ⟨kq, x16_3, rfl, HA, HJ3, BK207, HB⟩ := hcut
  cases kq with
  | zero => exact absurd HA.out (by simp [cutplaneref03_Class.j0])
  | succ kj3 =>
   have H := HA.out
   clear HA
   simp only [cutplaneref03_Class.j0] at H
   by_cases c11 : x16_3 = true
   ·subst c11
    have H1 : (some 1) = some r := by rw [if_pos rfl] at H; exact H
    clear H
    have H := H1
    clear H1
    obtain rfl := Option.some.inj H
    go_wp2
    repeat (go_quiet (fail); try go_wp2)
    go_ret
    exact ⟨by first | rfl | (simp [errW_none, errW_some] <;> rfl) | (simp [*, errW_none, errW_some] <;> rfl), by repeat (first | (with_reducible first | exact qm_ HB.out | apply qA_ | apply qN_ | apply qD_ | refine below_set ?_ GE207.out) | exact HB.out)⟩
   ·replace c11 := Bool.eq_false_iff.mpr c11
    subst c11
    have H1 : (if t205 = 0 then (some 2) else ((cutplaneref03_Most.f a0).bind fun t208 => (if t205 < t208 then (some 3) else (if t206 = 0 then (some 4) else (some 5))))) = some r := by rw [if_neg (show ¬ (false = true) by decide)] at H; exact H
    clear H
    have H := H1
    clear H1
    by_cases c12 : t205 = 0
    ·rw [if_pos c12] at H
     have c12b0 : (t205 == 0) = true := beq_iff_eq.mpr c12
     have c12b1 : (t205 != 0) = false := bne_eq_false_iff_eq.mpr c12
     clear c12
     obtain rfl := Option.some.inj H
     have hcz13 := bc3_ BK207.out
     have hfz13 := bf3_ BK207.out
     go_wp2
     repeat (go_quiet (fail); try go_wp2)
     go_ret
     exact ⟨by first | rfl | (simp [errW_none, errW_some] <;> rfl) | (simp [*, errW_none, errW_some] <;> rfl), by repeat (first | (with_reducible first | exact qm_ HB.out | apply qA_ | apply qN_ | apply qD_ | refine below_set ?_ GE207.out) | exact HB.out)⟩
    ·rw [if_neg c12] at H
     have c12b0 : (t205 == 0) = false := beq_eq_false_iff_ne.mpr c12
     have c12b1 : (t205 != 0) = true := bne_iff_ne.mpr c12
     replace H := Option.bind_eq_some_iff.mp H
     obtain ⟨t208, A140, H⟩ := H
     replace H : (if t205 < t208 then (some 3) else (if t206 = 0 then (some 4) else (some 5))) = some r := H
     have A14 := A0_ A140
     clear A140
     by_cases c15 : t205 < t208
     ·rw [if_pos c15] at H
      have c15b0 : decide (t205 < t208) = true := decide_eq_true c15
      clear c15
      obtain rfl := Option.some.inj H
      have hcz16 := bc3_ BK207.out
      have hfz16 := bf3_ BK207.out
      go_wp2_with (first | (go_at_call 45; (with_reducible refine (cutplaneref03_Most.calls a0 t208 _ A14.out).mono ?_); rintro e w' ⟨rfl, ⟨nd, rfl⟩⟩; (try first | exact ⟨rfl, _, World.drewN_drewN _ _ _⟩ | exact ⟨rfl, _, Eq.trans (World.drewN_drewN _ _ _) (congrArg (World.drewN _) (Nat.add_assoc _ _ _))⟩)))
      repeat (go_quiet (first | (go_at_call 45; (with_reducible refine (cutplaneref03_Most.calls a0 t208 _ A14.out).mono ?_); rintro e w' ⟨rfl, ⟨nd, rfl⟩⟩; (try first | exact ⟨rfl, _, World.drewN_drewN _ _ _⟩ | exact ⟨rfl, _, Eq.trans (World.drewN_drewN _ _ _) (congrArg (World.drewN _) (Nat.add_assoc _ _ _))⟩))); try go_wp2_with (first | (go_at_call 45; (with_reducible refine (cutplaneref03_Most.calls a0 t208 _ A14.out).mono ?_); rintro e w' ⟨rfl, ⟨nd, rfl⟩⟩; (try first | exact ⟨rfl, _, World.drewN_drewN _ _ _⟩ | exact ⟨rfl, _, Eq.trans (World.drewN_drewN _ _ _) (congrArg (World.drewN _) (Nat.add_assoc _ _ _))⟩))))
      go_ret
      exact ⟨by first | rfl | (simp [errW_none, errW_some] <;> rfl) | (simp [*, errW_none, errW_some] <;> rfl), by repeat (first | (with_reducible first | exact qm_ HB.out | apply qA_ | apply qN_ | apply qD_ | refine below_set ?_ GE207.out) | exact HB.out)⟩
     ·rw [if_neg c15] at H
      have c15b0 : decide (t205 < t208) = false := decide_eq_false c15
      clear c15
      by_cases c17 : t206 = 0
      ·rw [if_pos c17] at H
       have c17b0 : (t206 == 0) = true := beq_iff_eq.mpr c17
       have c17b1 : (t206 != 0) = false := bne_eq_false_iff_eq.mpr c17
       clear c17
       obtain rfl := Option.some.inj H
       have hcz18 := bc3_ BK207.out
       have hfz18 := bf3_ BK207.out
       go_wp2_with (first | (go_at_call 45; (with_reducible refine (cutplaneref03_Most.calls a0 t208 _ A14.out).mono ?_); rintro e w' ⟨rfl, ⟨nd, rfl⟩⟩; (try first | exact ⟨rfl, _, World.drewN_drewN _ _ _⟩ | exact ⟨rfl, _, Eq.trans (World.drewN_drewN _ _ _) (congrArg (World.drewN _) (Nat.add_assoc _ _ _))⟩)))
       repeat (go_quiet (first | (go_at_call 45; (with_reducible refine (cutplaneref03_Most.calls a0 t208 _ A14.out).mono ?_); rintro e w' ⟨rfl, ⟨nd, rfl⟩⟩; (try first | exact ⟨rfl, _, World.drewN_drewN _ _ _⟩ | exact ⟨rfl, _, Eq.trans (World.drewN_drewN _ _ _) (congrArg (World.drewN _) (Nat.add_assoc _ _ _))⟩))); try go_wp2_with (first | (go_at_call 45; (with_reducible refine (cutplaneref03_Most.calls a0 t208 _ A14.out).mono ?_); rintro e w' ⟨rfl, ⟨nd, rfl⟩⟩; (try first | exact ⟨rfl, _, World.drewN_drewN _ _ _⟩ | exact ⟨rfl, _, Eq.trans (World.drewN_drewN _ _ _) (congrArg (World.drewN _) (Nat.add_assoc _ _ _))⟩))))
       go_ret
       exact ⟨by first | rfl | (simp [errW_none, errW_some] <;> rfl) | (simp [*, errW_none, errW_some] <;> rfl), by repeat (first | (with_reducible first | exact qm_ HB.out | apply qA_ | apply qN_ | apply qD_ | refine below_set ?_ GE207.out) | exact HB.out)⟩
      ·rw [if_neg c17] at H
       have c17b0 : (t206 == 0) = false := beq_eq_false_iff_ne.mpr c17
       have c17b1 : (t206 != 0) = true := bne_iff_ne.mpr c17
       obtain rfl := Option.some.inj H
       have hcz19 := bc3_ BK207.out
       have hfz19 := bf3_ BK207.out
       go_wp2_with (first | (go_at_call 45; (with_reducible refine (cutplaneref03_Most.calls a0 t208 _ A14.out).mono ?_); rintro e w' ⟨rfl, ⟨nd, rfl⟩⟩; (try first | exact ⟨rfl, _, World.drewN_drewN _ _ _⟩ | exact ⟨rfl, _, Eq.trans (World.drewN_drewN _ _ _) (congrArg (World.drewN _) (Nat.add_assoc _ _ _))⟩)))
       repeat (go_quiet (first | (go_at_call 45; (with_reducible refine (cutplaneref03_Most.calls a0 t208 _ A14.out).mono ?_); rintro e w' ⟨rfl, ⟨nd, rfl⟩⟩; (try first | exact ⟨rfl, _, World.drewN_drewN _ _ _⟩ | exact ⟨rfl, _, Eq.trans (World.drewN_drewN _ _ _) (congrArg (World.drewN _) (Nat.add_assoc _ _ _))⟩))); try go_wp2_with (first | (go_at_call 45; (with_reducible refine (cutplaneref03_Most.calls a0 t208 _ A14.out).mono ?_); rintro e w' ⟨rfl, ⟨nd, rfl⟩⟩; (try first | exact ⟨rfl, _, World.drewN_drewN _ _ _⟩ | exact ⟨rfl, _, Eq.trans (World.drewN_drewN _ _ _) (congrArg (World.drewN _) (Nat.add_assoc _ _ _))⟩))))
       go_ret
       exact ⟨by first | rfl | (simp [errW_none, errW_some] <;> rfl) | (simp [*, errW_none, errW_some] <;> rfl), by repeat (first | (with_reducible first | exact qm_ HB.out | apply qA_ | apply qN_ | apply qD_ | refine below_set ?_ GE207.out) | exact HB.out)⟩
end Go.Proofs.Ytnjdaoeebhbmfaa.PA
end
