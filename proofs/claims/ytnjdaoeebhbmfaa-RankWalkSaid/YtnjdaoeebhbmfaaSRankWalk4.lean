/- Steps of Go functions that the law RankWalk uses, told as plain Lean functions, each with the proof that its call comes to what it tells; words on memory; plain facts. No condition beyond those that each text names. -/
import Derived.Test.YtnjdaoeebhbmfaaProg
import Derived.Below
import Derived.Deep.Draws
import Derived.Deep.AppendLies
import Derived.Maps.AppendAt
import Derived.OwnWalk
import Derived.Laws.BytesArg
import Derived.Laws.MakeOwn
import Derived.Laws.OwnMore
import Derived.Deep.OwnRows
import Derived.Tactics
import Derived.Lib.ConvBytes
import Derived.Laws.Slices
import Derived.WalkKit
import Derived.KernelRfl
import Derived.RowKit3
import Derived.Deep.LoopGhost
import Derived.Deep.QuietTactic
import Derived.BigQuiet
import Derived.WideLaws
import Derived.Deep.DeepCutAuto
import Derived.Deep.CutBlock
import Derived.Deep.RegionHeld3
import Derived.Laws.Rows
import Derived.Lib.AppendStr
import Derived.ArgAppend
import Derived.Laws.IdiomCopy
import Derived.OrdersHeld
import Derived.Laws.BitsLemmas
import Derived.RowKit
import Derived.Laws.StructEq
import Derived.Laws.BitsAllLaws
import Derived.OpenShut
import Derived.Test.YtnjdaoeebhbmfaaSRankWalk0
import Derived.Test.YtnjdaoeebhbmfaaSRankWalk1
import Derived.Test.YtnjdaoeebhbmfaaSRankWalk2
import Derived.Test.YtnjdaoeebhbmfaaSRankWalk3
section
namespace Go.Proofs.Ytnjdaoeebhbmfaa.PA
open Go.RowKit Go.Proofs.YtnjdaoeebhbmfaaW.PrintWords Go.Proofs.YtnjdaoeebhbmfaaW.PrintLast Go.Proofs.YtnjdaoeebhbmfaaW.PrintMore
attribute [local go_sem] max2_int min2_int max_two min_two max_three min_three max_four min_four   -- for this text's walks alone
set_option linter.unusedVariables false
set_option linter.unusedSimpArgs false
def cutplanelaw07_RankWalk.l0 : Nat → Int → Int → Int → Int → Int → Option (Bool)
  | 0, _, _, _, _, _ => none
  | k + 1, x0, x1, x2, x7, x8 => if x8 < x2 then ((cutplaneref03_Inf.f x0 false).bind fun t632 => (if x7 = t632 then ((rank_Steps.f k x0 x1 x7).bind fun bt633 => ((rank_Steps.f k x0 x7 x1).bind fun bt635 => ((rank_Move.f k x0 x1 x8).bind fun bt637 => ((rank_Move.f k x0 bt637.1 (wrap64 (-x8))).bind fun bt639 => ((cutplaneref03_Sign.f x0).bind fun t641 => (if x1 = t641 then (if x8 > 0 then (if bt633.2 = 0 then (if bt635.2 = 0 then (if bt637.2 = 0 then (if bt639.2 = 0 then (if bt633.1 = (IntKind.u64.wrap (x8)) then (if bt635.1 = bt633.1 then (if bt637.1 = x7 then (if bt639.1 = 0 then ((cutplanelaw07_known.f k).bind fun t642 => (some t642)) else (none)) else (none)) else (none)) else (none)) else (none)) else (none)) else (none)) else (none)) else (if bt633.2 = 0 then (if bt635.2 = 0 then (if bt637.2 = 0 then (if bt639.2 = 0 then (if bt633.1 = (IntKind.u64.wrap (x8)) then (if bt635.1 = bt633.1 then (if bt637.1 = x7 then (if bt639.1 = x1 then ((cutplanelaw07_known.f k).bind fun t643 => (some t643)) else (none)) else (none)) else (none)) else (none)) else (none)) else (none)) else (none)) else (none))) else (if bt633.2 = 0 then (if bt635.2 = 0 then (if bt637.2 = 0 then (if bt639.2 = 0 then (if bt633.1 = (IntKind.u64.wrap (x8)) then (if bt635.1 = bt633.1 then (if bt637.1 = x7 then (if bt639.1 = x1 then ((cutplanelaw07_known.f k).bind fun t644 => (some t644)) else (none)) else (none)) else (none)) else (none)) else (none)) else (none)) else (none)) else (none)))))))) else ((cutplaneref03_Up.f k x0 x7).bind fun bt645 => ((cutplaneref03_Sign.f x0).bind fun t647 => (if bt645.1 = t647 then (cutplanelaw07_RankWalk.l0 k x0 x1 x2 0 (wrap64 (x8 + 1))) else (cutplanelaw07_RankWalk.l0 k x0 x1 x2 bt645.1 (wrap64 (x8 + 1)))))))) else ((rank_Steps.f k x0 x1 x7).bind fun bt648 => ((rank_Steps.f k x0 x7 x1).bind fun bt650 => ((rank_Move.f k x0 x1 x8).bind fun bt652 => ((rank_Move.f k x0 bt652.1 (wrap64 (-x8))).bind fun bt654 => ((cutplaneref03_Sign.f x0).bind fun t656 => (if x1 = t656 then (if x8 > 0 then (if bt648.2 = 0 then (if bt650.2 = 0 then (if bt652.2 = 0 then (if bt654.2 = 0 then (if bt648.1 = (IntKind.u64.wrap (x8)) then (if bt650.1 = bt648.1 then (if bt652.1 = x7 then (if bt654.1 = 0 then ((cutplanelaw07_known.f k).bind fun t657 => (some t657)) else (none)) else (none)) else (none)) else (none)) else (none)) else (none)) else (none)) else (none)) else (if bt648.2 = 0 then (if bt650.2 = 0 then (if bt652.2 = 0 then (if bt654.2 = 0 then (if bt648.1 = (IntKind.u64.wrap (x8)) then (if bt650.1 = bt648.1 then (if bt652.1 = x7 then (if bt654.1 = x1 then ((cutplanelaw07_known.f k).bind fun t658 => (some t658)) else (none)) else (none)) else (none)) else (none)) else (none)) else (none)) else (none)) else (none))) else (if bt648.2 = 0 then (if bt650.2 = 0 then (if bt652.2 = 0 then (if bt654.2 = 0 then (if bt648.1 = (IntKind.u64.wrap (x8)) then (if bt650.1 = bt648.1 then (if bt652.1 = x7 then (if bt654.1 = x1 then ((cutplanelaw07_known.f k).bind fun t659 => (some t659)) else (none)) else (none)) else (none)) else (none)) else (none)) else (none)) else (none)) else (none))))))))
def cutplanelaw07_RankWalk.f (k : Nat) (a0 : Int) (a1 : Int) (a2 : Int) : Option (Bool) := (cutplaneref07_Opens.f k a0 (([a1] : List Int))).bind fun t627 => (if t627 = 0 then (if a2 < 0 then ((cutplanelaw07_known.f k).bind fun t628 => (some t628)) else (if a2 > 300 then ((cutplanelaw07_known.f k).bind fun t629 => (some t629)) else ((cutplaneref03_Class.f k a0 a1).bind fun t630 => (if t630 = 5 then ((cutplanelaw07_known.f k).bind fun t631 => (some t631)) else (cutplanelaw07_RankWalk.l0 k a0 a1 a2 a1 0))))) else ((cutplanelaw07_known.f k).bind fun t660 => (some t660)))
set_option maxHeartbeats 2000000 in
set_option maxRecDepth 100000 in
theorem cutplanelaw07_RankWalk.calls (k : Nat) (a0 : Int) (a1 : Int) (a2 : Int) (r : Bool) (w : World) (h : cutplanelaw07_RankWalk.f k a0 a1 a2 = some r) :
    Calls Try.prog 8 #[.int .u8 a0, .int .u64 a1, .int .i64 a2] w fun e w' => e = .returned (.bool r) ∧ Below w.heap.size w w' := by
  have HB := Aside0.mk (Below.refl w.heap.size w)
  have H : ((cutplaneref07_Opens.f k a0 (([a1] : List Int))).bind fun t627 => (if t627 = 0 then (if a2 < 0 then ((cutplanelaw07_known.f k).bind fun t628 => (some t628)) else (if a2 > 300 then ((cutplanelaw07_known.f k).bind fun t629 => (some t629)) else ((cutplaneref03_Class.f k a0 a1).bind fun t630 => (if t630 = 5 then ((cutplanelaw07_known.f k).bind fun t631 => (some t631)) else (cutplanelaw07_RankWalk.l0 k a0 a1 a2 a1 0))))) else ((cutplanelaw07_known.f k).bind fun t660 => (some t660)))) = some r := h
  clear h
  obtain ⟨y624, hy624⟩ : ∃ y_ : List Int, y_ = (([a1] : List Int)) := ⟨_, rfl⟩
  replace H : ((cutplaneref07_Opens.f k a0 y624).bind fun t627 => (if t627 = 0 then (if a2 < 0 then ((cutplanelaw07_known.f k).bind fun t628 => (some t628)) else (if a2 > 300 then ((cutplanelaw07_known.f k).bind fun t629 => (some t629)) else ((cutplaneref03_Class.f k a0 a1).bind fun t630 => (if t630 = 5 then ((cutplanelaw07_known.f k).bind fun t631 => (some t631)) else (cutplanelaw07_RankWalk.l0 k a0 a1 a2 a1 0))))) else ((cutplanelaw07_known.f k).bind fun t660 => (some t660)))) = some r := by first | (rw [hy624]; with_reducible exact H) | (have H2_ := (Option.bind_some _ _).symm.trans H; rw [hy624]; with_reducible exact H2_) | (have H2_ := (Option.bind_some _ _).symm.trans H; with_reducible exact H2_) | with_reducible exact H | (rw [hy624]; exact H) | exact H
  have Ny624 := Aside0.mk hy624
  clear hy624
  replace H := Option.bind_eq_some_iff.mp H
  obtain ⟨t627, A40, H⟩ := H
  replace H : (if t627 = 0 then (if a2 < 0 then ((cutplanelaw07_known.f k).bind fun t628 => (some t628)) else (if a2 > 300 then ((cutplanelaw07_known.f k).bind fun t629 => (some t629)) else ((cutplaneref03_Class.f k a0 a1).bind fun t630 => (if t630 = 5 then ((cutplanelaw07_known.f k).bind fun t631 => (some t631)) else (cutplanelaw07_RankWalk.l0 k a0 a1 a2 a1 0))))) else ((cutplanelaw07_known.f k).bind fun t660 => (some t660))) = some r := H
  have A4 := Aside0.mk A40
  clear A40
  by_cases c5 : t627 = 0
  · rw [if_pos c5] at H
    have c5b0 : (t627 == 0) = true := beq_iff_eq.mpr c5
    have c5b1 : (t627 != 0) = false := bne_eq_false_iff_eq.mpr c5
    clear c5
    by_cases c6 : a2 < 0
    · rw [if_pos c6] at H
      have c6b0 : decide (a2 < 0) = true := decide_eq_true c6
      clear c6
      replace H := Option.bind_eq_some_iff.mp H
      obtain ⟨t628, A70, H⟩ := H
      replace H : (some t628) = some r := H
      have A7 := Aside0.mk A70
      clear A70
      obtain rfl := Option.some.inj H
      go_enter Try.func8, Try.ntmps8
      go_wp2_with (first | ((with_reducible refine gate_dst (N := 19) rfl ?_); refine Kd.R_lit (Kd.int .u64) _ 23 ?hg (N := 19) ?hd (xs := ([a1] : List Int)) (inner := [.int .u64 a1]) (ok := fun _ => True) (okp := fun _ => True) ?hr ?hp (fun _ hk => hk) trivial (Below.refl _ _) (Nat.le_refl _) (by simp) ?_; (case hd => rfl); (case hg => rfl); (case hr => first | (go_simp; done) | (go_simp; rfl)); (case hp => exact (Reps.one (show Kd.M (Kd.int .u64) _ _ _ a1 [.int .u64 a1] from rfl) (Reps.none _ _))); intro v625 w8 ho9 hb hg_ hnew_; clear hg_ hnew_; (first | rw [← Ny624.out] at ho9 | (simp only [Int.reduceToNat] at ho9; rw [← Ny624.out] at ho9)); have n0_ := Aside0.mk (Kd.R_lower ho9 (below_size (by repeat (first | (with_reducible first | exact HB.out | apply below_alloc | apply pw_below_drewN | apply below_drew1) | exact HB.out)))); have n1_ := Aside0.mk (below_step (by repeat (first | (with_reducible first | exact HB.out | apply below_alloc | apply pw_below_drewN | apply below_drew1) | exact HB.out)) hb); clear HB; have HO626 := n0_; have HB := n1_; clear n0_ n1_; clear hb ho9; obtain ⟨Ao10, co10, eo10⟩ := Kd.R_slice HO626.out; subst eo10) | ((with_reducible refine gate_callee (f := 13) rfl ?_); refine goesL_ (some 20) rfl rfl Try.func13 (by kernel_rfl) rfl #[.int .u8 a0, .slice Ao10 y624.length co10] rfl (by (try simp only [List.map_toArray, List.map_cons, List.map_nil]); first | done | rfl | (simp only [List.length_drop, List.length_take]; rfl)) ?_; (with_reducible refine (cutplaneref07_Opens.calls k a0 _ _ y624 t627 _ ?side1 ?side2 A4.out).mono ?_); (case side1 => repeat (first | exact (Kd.R_reads' HO626.out).2.2 | (with_reducible refine Kd.C_alloc ?_ _) | (with_reducible refine Kd.C_drewN ?_ _) | (with_reducible refine Kd.C_drew ?_))); (case side2 => exact (Kd.R_reads' HO626.out).2.1); rintro e w' ⟨rfl, ⟨nd, rfl⟩⟩; refine ⟨_, rfl, ?_⟩) | ((with_reducible refine gate_callee (f := 14) rfl ?_); refine goesL_ (some 36) rfl rfl Try.func14 (by kernel_rfl) rfl #[] rfl (by (try simp only [List.map_toArray, List.map_cons, List.map_nil]); first | done | rfl | (simp only [List.length_drop, List.length_take]; rfl)) ?_; (with_reducible refine (cutplanelaw07_known.calls k  t628 _ A7.out).mono ?_); rintro e w11 ⟨rfl, hb⟩; refine ⟨_, rfl, ?_⟩; have n0_ := Aside0.mk (Kd.R_below (by (with_reducible repeat (first | apply Kd.R_alloc | apply Kd.R_drewN | apply Kd.R_drew)); exact HO626.out) hb); have n1_ := Aside0.mk (below_step (by repeat (first | (with_reducible first | exact HB.out | apply below_alloc | apply pw_below_drewN | apply below_drew1) | exact HB.out)) hb); clear HO626; clear HB; have HO626 := n0_; have HB := n1_; clear n0_ n1_; (try clear hb); (try clear hb2); (try clear hk); (try clear hi)))
      go_ret
      exact ⟨by first | rfl | (simp [errW_none, errW_some] <;> rfl) | (simp [*, errW_none, errW_some] <;> rfl), by repeat (first | (with_reducible first | exact HB.out | apply below_alloc | apply pw_below_drewN | apply below_drew1) | exact HB.out)⟩
    · rw [if_neg c6] at H
      have c6b0 : decide (a2 < 0) = false := decide_eq_false c6
      clear c6
      by_cases c12 : a2 > 300
      · rw [if_pos c12] at H
        have c12b0 : decide (300 < a2) = true := decide_eq_true c12
        clear c12
        replace H := Option.bind_eq_some_iff.mp H
        obtain ⟨t629, A130, H⟩ := H
        replace H : (some t629) = some r := H
        have A13 := Aside0.mk A130
        clear A130
        obtain rfl := Option.some.inj H
        go_enter Try.func8, Try.ntmps8
        go_wp2_with (first | ((with_reducible refine gate_dst (N := 19) rfl ?_); refine Kd.R_lit (Kd.int .u64) _ 23 ?hg (N := 19) ?hd (xs := ([a1] : List Int)) (inner := [.int .u64 a1]) (ok := fun _ => True) (okp := fun _ => True) ?hr ?hp (fun _ hk => hk) trivial (Below.refl _ _) (Nat.le_refl _) (by simp) ?_; (case hd => rfl); (case hg => rfl); (case hr => first | (go_simp; done) | (go_simp; rfl)); (case hp => exact (Reps.one (show Kd.M (Kd.int .u64) _ _ _ a1 [.int .u64 a1] from rfl) (Reps.none _ _))); intro v625 w14 ho15 hb hg_ hnew_; clear hg_ hnew_; (first | rw [← Ny624.out] at ho15 | (simp only [Int.reduceToNat] at ho15; rw [← Ny624.out] at ho15)); have n0_ := Aside0.mk (Kd.R_lower ho15 (below_size (by repeat (first | (with_reducible first | exact HB.out | apply below_alloc | apply pw_below_drewN | apply below_drew1) | exact HB.out)))); have n1_ := Aside0.mk (below_step (by repeat (first | (with_reducible first | exact HB.out | apply below_alloc | apply pw_below_drewN | apply below_drew1) | exact HB.out)) hb); clear HB; have HO626 := n0_; have HB := n1_; clear n0_ n1_; clear hb ho15; obtain ⟨Ao16, co16, eo16⟩ := Kd.R_slice HO626.out; subst eo16) | ((with_reducible refine gate_callee (f := 13) rfl ?_); refine goesL_ (some 20) rfl rfl Try.func13 (by kernel_rfl) rfl #[.int .u8 a0, .slice Ao16 y624.length co16] rfl (by (try simp only [List.map_toArray, List.map_cons, List.map_nil]); first | done | rfl | (simp only [List.length_drop, List.length_take]; rfl)) ?_; (with_reducible refine (cutplaneref07_Opens.calls k a0 _ _ y624 t627 _ ?side1 ?side2 A4.out).mono ?_); (case side1 => repeat (first | exact (Kd.R_reads' HO626.out).2.2 | (with_reducible refine Kd.C_alloc ?_ _) | (with_reducible refine Kd.C_drewN ?_ _) | (with_reducible refine Kd.C_drew ?_))); (case side2 => exact (Kd.R_reads' HO626.out).2.1); rintro e w' ⟨rfl, ⟨nd, rfl⟩⟩; refine ⟨_, rfl, ?_⟩) | ((with_reducible refine gate_callee (f := 14) rfl ?_); refine goesL_ (some 36) rfl rfl Try.func14 (by kernel_rfl) rfl #[] rfl (by (try simp only [List.map_toArray, List.map_cons, List.map_nil]); first | done | rfl | (simp only [List.length_drop, List.length_take]; rfl)) ?_; (with_reducible refine (cutplanelaw07_known.calls k  t629 _ A13.out).mono ?_); rintro e w17 ⟨rfl, hb⟩; refine ⟨_, rfl, ?_⟩; have n0_ := Aside0.mk (Kd.R_below (by (with_reducible repeat (first | apply Kd.R_alloc | apply Kd.R_drewN | apply Kd.R_drew)); exact HO626.out) hb); have n1_ := Aside0.mk (below_step (by repeat (first | (with_reducible first | exact HB.out | apply below_alloc | apply pw_below_drewN | apply below_drew1) | exact HB.out)) hb); clear HO626; clear HB; have HO626 := n0_; have HB := n1_; clear n0_ n1_; (try clear hb); (try clear hb2); (try clear hk); (try clear hi)))
        go_ret
        exact ⟨by first | rfl | (simp [errW_none, errW_some] <;> rfl) | (simp [*, errW_none, errW_some] <;> rfl), by repeat (first | (with_reducible first | exact HB.out | apply below_alloc | apply pw_below_drewN | apply below_drew1) | exact HB.out)⟩
      · rw [if_neg c12] at H
        have c12b0 : decide (300 < a2) = false := decide_eq_false c12
        clear c12
        replace H := Option.bind_eq_some_iff.mp H
        obtain ⟨t630, A180, H⟩ := H
        replace H : (if t630 = 5 then ((cutplanelaw07_known.f k).bind fun t631 => (some t631)) else (cutplanelaw07_RankWalk.l0 k a0 a1 a2 a1 0)) = some r := H
        have A18 := Aside0.mk A180
        clear A180
        by_cases c19 : t630 = 5
        · rw [if_pos c19] at H
          have c19b0 : (t630 == 5) = true := beq_iff_eq.mpr c19
          have c19b1 : (t630 != 5) = false := bne_eq_false_iff_eq.mpr c19
          clear c19
          replace H := Option.bind_eq_some_iff.mp H
          obtain ⟨t631, A200, H⟩ := H
          replace H : (some t631) = some r := H
          have A20 := Aside0.mk A200
          clear A200
          obtain rfl := Option.some.inj H
          go_enter Try.func8, Try.ntmps8
          go_wp2_with (first | ((with_reducible refine gate_dst (N := 19) rfl ?_); refine Kd.R_lit (Kd.int .u64) _ 23 ?hg (N := 19) ?hd (xs := ([a1] : List Int)) (inner := [.int .u64 a1]) (ok := fun _ => True) (okp := fun _ => True) ?hr ?hp (fun _ hk => hk) trivial (Below.refl _ _) (Nat.le_refl _) (by simp) ?_; (case hd => rfl); (case hg => rfl); (case hr => first | (go_simp; done) | (go_simp; rfl)); (case hp => exact (Reps.one (show Kd.M (Kd.int .u64) _ _ _ a1 [.int .u64 a1] from rfl) (Reps.none _ _))); intro v625 w21 ho22 hb hg_ hnew_; clear hg_ hnew_; (first | rw [← Ny624.out] at ho22 | (simp only [Int.reduceToNat] at ho22; rw [← Ny624.out] at ho22)); have n0_ := Aside0.mk (Kd.R_lower ho22 (below_size (by repeat (first | (with_reducible first | exact HB.out | apply below_alloc | apply pw_below_drewN | apply below_drew1) | exact HB.out)))); have n1_ := Aside0.mk (below_step (by repeat (first | (with_reducible first | exact HB.out | apply below_alloc | apply pw_below_drewN | apply below_drew1) | exact HB.out)) hb); clear HB; have HO626 := n0_; have HB := n1_; clear n0_ n1_; clear hb ho22; obtain ⟨Ao23, co23, eo23⟩ := Kd.R_slice HO626.out; subst eo23) | ((with_reducible refine gate_callee (f := 13) rfl ?_); refine goesL_ (some 20) rfl rfl Try.func13 (by kernel_rfl) rfl #[.int .u8 a0, .slice Ao23 y624.length co23] rfl (by (try simp only [List.map_toArray, List.map_cons, List.map_nil]); first | done | rfl | (simp only [List.length_drop, List.length_take]; rfl)) ?_; (with_reducible refine (cutplaneref07_Opens.calls k a0 _ _ y624 t627 _ ?side1 ?side2 A4.out).mono ?_); (case side1 => repeat (first | exact (Kd.R_reads' HO626.out).2.2 | (with_reducible refine Kd.C_alloc ?_ _) | (with_reducible refine Kd.C_drewN ?_ _) | (with_reducible refine Kd.C_drew ?_))); (case side2 => exact (Kd.R_reads' HO626.out).2.1); rintro e w' ⟨rfl, ⟨nd, rfl⟩⟩; refine ⟨_, rfl, ?_⟩) | (go_at_call 22; (with_reducible refine (cutplaneref03_Class.calls k a0 a1 t630 _ A18.out).mono ?_); rintro e w24 ⟨rfl, hb⟩; have n0_ := Aside0.mk (Kd.R_below (by (with_reducible repeat (first | apply Kd.R_alloc | apply Kd.R_drewN | apply Kd.R_drew)); exact HO626.out) hb); have n1_ := Aside0.mk (below_step (by repeat (first | (with_reducible first | exact HB.out | apply below_alloc | apply pw_below_drewN | apply below_drew1) | exact HB.out)) hb); clear HO626; clear HB; have HO626 := n0_; have HB := n1_; clear n0_ n1_; (try clear hb); (try clear hb2); (try clear hk); (try clear hi)) | ((with_reducible refine gate_callee (f := 14) rfl ?_); refine goesL_ (some 36) rfl rfl Try.func14 (by kernel_rfl) rfl #[] rfl (by (try simp only [List.map_toArray, List.map_cons, List.map_nil]); first | done | rfl | (simp only [List.length_drop, List.length_take]; rfl)) ?_; (with_reducible refine (cutplanelaw07_known.calls k  t631 _ A20.out).mono ?_); rintro e w25 ⟨rfl, hb⟩; refine ⟨_, rfl, ?_⟩; have n0_ := Aside0.mk (Kd.R_below (by (with_reducible repeat (first | apply Kd.R_alloc | apply Kd.R_drewN | apply Kd.R_drew)); exact HO626.out) hb); have n1_ := Aside0.mk (below_step (by repeat (first | (with_reducible first | exact HB.out | apply below_alloc | apply pw_below_drewN | apply below_drew1) | exact HB.out)) hb); clear HO626; clear HB; have HO626 := n0_; have HB := n1_; clear n0_ n1_; (try clear hb); (try clear hb2); (try clear hk); (try clear hi)))
          go_ret
          exact ⟨by first | rfl | (simp [errW_none, errW_some] <;> rfl) | (simp [*, errW_none, errW_some] <;> rfl), by repeat (first | (with_reducible first | exact HB.out | apply below_alloc | apply pw_below_drewN | apply below_drew1) | exact HB.out)⟩
        · rw [if_neg c19] at H
          have c19b0 : (t630 == 5) = false := beq_eq_false_iff_ne.mpr c19
          have c19b1 : (t630 != 5) = true := bne_iff_ne.mpr c19
          have H' := Aside0.mk H
          clear H
          go_enter Try.func8, Try.ntmps8
          go_wp2_with (first | ((with_reducible refine gate_dst (N := 19) rfl ?_); refine Kd.R_lit (Kd.int .u64) _ 23 ?hg (N := 19) ?hd (xs := ([a1] : List Int)) (inner := [.int .u64 a1]) (ok := fun _ => True) (okp := fun _ => True) ?hr ?hp (fun _ hk => hk) trivial (Below.refl _ _) (Nat.le_refl _) (by simp) ?_; (case hd => rfl); (case hg => rfl); (case hr => first | (go_simp; done) | (go_simp; rfl)); (case hp => exact (Reps.one (show Kd.M (Kd.int .u64) _ _ _ a1 [.int .u64 a1] from rfl) (Reps.none _ _))); intro v625 w26 ho27 hb hg_ hnew_; clear hg_ hnew_; (first | rw [← Ny624.out] at ho27 | (simp only [Int.reduceToNat] at ho27; rw [← Ny624.out] at ho27)); have n0_ := Aside0.mk (Kd.R_lower ho27 (below_size (by repeat (first | (with_reducible first | exact HB.out | apply below_alloc | apply pw_below_drewN | apply below_drew1) | exact HB.out)))); have n1_ := Aside0.mk (below_step (by repeat (first | (with_reducible first | exact HB.out | apply below_alloc | apply pw_below_drewN | apply below_drew1) | exact HB.out)) hb); clear HB; have HO626 := n0_; have HB := n1_; clear n0_ n1_; clear hb ho27; obtain ⟨Ao28, co28, eo28⟩ := Kd.R_slice HO626.out; subst eo28) | ((with_reducible refine gate_callee (f := 13) rfl ?_); refine goesL_ (some 20) rfl rfl Try.func13 (by kernel_rfl) rfl #[.int .u8 a0, .slice Ao28 y624.length co28] rfl (by (try simp only [List.map_toArray, List.map_cons, List.map_nil]); first | done | rfl | (simp only [List.length_drop, List.length_take]; rfl)) ?_; (with_reducible refine (cutplaneref07_Opens.calls k a0 _ _ y624 t627 _ ?side1 ?side2 A4.out).mono ?_); (case side1 => repeat (first | exact (Kd.R_reads' HO626.out).2.2 | (with_reducible refine Kd.C_alloc ?_ _) | (with_reducible refine Kd.C_drewN ?_ _) | (with_reducible refine Kd.C_drew ?_))); (case side2 => exact (Kd.R_reads' HO626.out).2.1); rintro e w' ⟨rfl, ⟨nd, rfl⟩⟩; refine ⟨_, rfl, ?_⟩) | (go_at_call 22; (with_reducible refine (cutplaneref03_Class.calls k a0 a1 t630 _ A18.out).mono ?_); rintro e w29 ⟨rfl, hb⟩; have n0_ := Aside0.mk (Kd.R_below (by (with_reducible repeat (first | apply Kd.R_alloc | apply Kd.R_drewN | apply Kd.R_drew)); exact HO626.out) hb); have n1_ := Aside0.mk (below_step (by repeat (first | (with_reducible first | exact HB.out | apply below_alloc | apply pw_below_drewN | apply below_drew1) | exact HB.out)) hb); clear HO626; clear HB; have HO626 := n0_; have HB := n1_; clear n0_ n1_; (try clear hb); (try clear hb2); (try clear hk); (try clear hi)))
          go_loopg [7, 8] k (fun kq v7 v8 w' => ∃ (x7_1 : Int) (x8_1 : Int), v7 = .int .u64 x7_1 ∧ v8 = .int .i64 x8_1 ∧ Aside0 (cutplanelaw07_RankWalk.l0 kq a0 a1 a2 x7_1 x8_1 = some r) ∧ Aside0 (kq ≤ k) ∧ Aside0 (Below w.heap.size w w'))
          case atStart => exact ⟨(a1), (0), (by first | rfl | (simp; done) | (simp [*]; done)), (by first | rfl | (simp; done) | (simp [*]; done)), H', ⟨Nat.le_refl _⟩, ⟨by repeat (first | (with_reducible first | exact HB.out | apply below_alloc | apply pw_below_drewN | apply below_drew1) | exact HB.out)⟩⟩
          case round =>
            clear H'
            try clear c1
            try clear p2
            try clear c5
            try clear c5b0
            try clear c5b1
            try clear c6
            try clear c6b0
            try clear c8
            try clear c12
            try clear c12b0
            try clear c13
            try clear c14
            try clear c19
            try clear c19b0
            try clear c19b1
            obtain ⟨x7_1, x8_1, rfl, rfl, HA, HK1, HB⟩ := hrel
            cases gk with
            | zero => exact absurd HA.out (by simp [cutplanelaw07_RankWalk.l0])
            | succ k1 =>
              have H := HA.out
              clear HA
              simp only [cutplanelaw07_RankWalk.l0] at H
              by_cases c30 : x8_1 < a2
              · rw [if_pos c30] at H
                have c30b0 : decide (x8_1 < a2) = true := decide_eq_true c30
                clear c30
                replace H := Option.bind_eq_some_iff.mp H
                obtain ⟨t632, A310, H⟩ := H
                replace H : (if x7_1 = t632 then ((rank_Steps.f k1 a0 a1 x7_1).bind fun bt633 => ((rank_Steps.f k1 a0 x7_1 a1).bind fun bt635 => ((rank_Move.f k1 a0 a1 x8_1).bind fun bt637 => ((rank_Move.f k1 a0 bt637.1 (wrap64 (-x8_1))).bind fun bt639 => ((cutplaneref03_Sign.f a0).bind fun t641 => (if a1 = t641 then (if x8_1 > 0 then (if bt633.2 = 0 then (if bt635.2 = 0 then (if bt637.2 = 0 then (if bt639.2 = 0 then (if bt633.1 = (IntKind.u64.wrap (x8_1)) then (if bt635.1 = bt633.1 then (if bt637.1 = x7_1 then (if bt639.1 = 0 then ((cutplanelaw07_known.f k1).bind fun t642 => (some t642)) else (none)) else (none)) else (none)) else (none)) else (none)) else (none)) else (none)) else (none)) else (if bt633.2 = 0 then (if bt635.2 = 0 then (if bt637.2 = 0 then (if bt639.2 = 0 then (if bt633.1 = (IntKind.u64.wrap (x8_1)) then (if bt635.1 = bt633.1 then (if bt637.1 = x7_1 then (if bt639.1 = a1 then ((cutplanelaw07_known.f k1).bind fun t643 => (some t643)) else (none)) else (none)) else (none)) else (none)) else (none)) else (none)) else (none)) else (none))) else (if bt633.2 = 0 then (if bt635.2 = 0 then (if bt637.2 = 0 then (if bt639.2 = 0 then (if bt633.1 = (IntKind.u64.wrap (x8_1)) then (if bt635.1 = bt633.1 then (if bt637.1 = x7_1 then (if bt639.1 = a1 then ((cutplanelaw07_known.f k1).bind fun t644 => (some t644)) else (none)) else (none)) else (none)) else (none)) else (none)) else (none)) else (none)) else (none)))))))) else ((cutplaneref03_Up.f k1 a0 x7_1).bind fun bt645 => ((cutplaneref03_Sign.f a0).bind fun t647 => (if bt645.1 = t647 then (cutplanelaw07_RankWalk.l0 k1 a0 a1 a2 0 (wrap64 (x8_1 + 1))) else (cutplanelaw07_RankWalk.l0 k1 a0 a1 a2 bt645.1 (wrap64 (x8_1 + 1))))))) = some r := H
                have A31 := Aside0.mk A310
                clear A310
                by_cases c32 : x7_1 = t632
                · rw [if_pos c32] at H
                  have c32b0 : (x7_1 == t632) = true := beq_iff_eq.mpr c32
                  have c32b1 : (x7_1 != t632) = false := bne_eq_false_iff_eq.mpr c32
                  clear c32
                  replace H := Option.bind_eq_some_iff.mp H
                  obtain ⟨⟨t633, t634⟩, A330, H⟩ := H
                  replace H : ((rank_Steps.f k1 a0 x7_1 a1).bind fun bt635 => ((rank_Move.f k1 a0 a1 x8_1).bind fun bt637 => ((rank_Move.f k1 a0 bt637.1 (wrap64 (-x8_1))).bind fun bt639 => ((cutplaneref03_Sign.f a0).bind fun t641 => (if a1 = t641 then (if x8_1 > 0 then (if t634 = 0 then (if bt635.2 = 0 then (if bt637.2 = 0 then (if bt639.2 = 0 then (if t633 = (IntKind.u64.wrap (x8_1)) then (if bt635.1 = t633 then (if bt637.1 = x7_1 then (if bt639.1 = 0 then ((cutplanelaw07_known.f k1).bind fun t642 => (some t642)) else (none)) else (none)) else (none)) else (none)) else (none)) else (none)) else (none)) else (none)) else (if t634 = 0 then (if bt635.2 = 0 then (if bt637.2 = 0 then (if bt639.2 = 0 then (if t633 = (IntKind.u64.wrap (x8_1)) then (if bt635.1 = t633 then (if bt637.1 = x7_1 then (if bt639.1 = a1 then ((cutplanelaw07_known.f k1).bind fun t643 => (some t643)) else (none)) else (none)) else (none)) else (none)) else (none)) else (none)) else (none)) else (none))) else (if t634 = 0 then (if bt635.2 = 0 then (if bt637.2 = 0 then (if bt639.2 = 0 then (if t633 = (IntKind.u64.wrap (x8_1)) then (if bt635.1 = t633 then (if bt637.1 = x7_1 then (if bt639.1 = a1 then ((cutplanelaw07_known.f k1).bind fun t644 => (some t644)) else (none)) else (none)) else (none)) else (none)) else (none)) else (none)) else (none)) else (none))))))) = some r := H
                  have A33 := Aside0.mk A330
                  clear A330
                  replace H := Option.bind_eq_some_iff.mp H
                  obtain ⟨⟨t635, t636⟩, A340, H⟩ := H
                  replace H : ((rank_Move.f k1 a0 a1 x8_1).bind fun bt637 => ((rank_Move.f k1 a0 bt637.1 (wrap64 (-x8_1))).bind fun bt639 => ((cutplaneref03_Sign.f a0).bind fun t641 => (if a1 = t641 then (if x8_1 > 0 then (if t634 = 0 then (if t636 = 0 then (if bt637.2 = 0 then (if bt639.2 = 0 then (if t633 = (IntKind.u64.wrap (x8_1)) then (if t635 = t633 then (if bt637.1 = x7_1 then (if bt639.1 = 0 then ((cutplanelaw07_known.f k1).bind fun t642 => (some t642)) else (none)) else (none)) else (none)) else (none)) else (none)) else (none)) else (none)) else (none)) else (if t634 = 0 then (if t636 = 0 then (if bt637.2 = 0 then (if bt639.2 = 0 then (if t633 = (IntKind.u64.wrap (x8_1)) then (if t635 = t633 then (if bt637.1 = x7_1 then (if bt639.1 = a1 then ((cutplanelaw07_known.f k1).bind fun t643 => (some t643)) else (none)) else (none)) else (none)) else (none)) else (none)) else (none)) else (none)) else (none))) else (if t634 = 0 then (if t636 = 0 then (if bt637.2 = 0 then (if bt639.2 = 0 then (if t633 = (IntKind.u64.wrap (x8_1)) then (if t635 = t633 then (if bt637.1 = x7_1 then (if bt639.1 = a1 then ((cutplanelaw07_known.f k1).bind fun t644 => (some t644)) else (none)) else (none)) else (none)) else (none)) else (none)) else (none)) else (none)) else (none)))))) = some r := H
                  have A34 := Aside0.mk A340
                  clear A340
                  replace H := Option.bind_eq_some_iff.mp H
                  obtain ⟨⟨t637, t638⟩, A350, H⟩ := H
                  replace H : ((rank_Move.f k1 a0 t637 (wrap64 (-x8_1))).bind fun bt639 => ((cutplaneref03_Sign.f a0).bind fun t641 => (if a1 = t641 then (if x8_1 > 0 then (if t634 = 0 then (if t636 = 0 then (if t638 = 0 then (if bt639.2 = 0 then (if t633 = (IntKind.u64.wrap (x8_1)) then (if t635 = t633 then (if t637 = x7_1 then (if bt639.1 = 0 then ((cutplanelaw07_known.f k1).bind fun t642 => (some t642)) else (none)) else (none)) else (none)) else (none)) else (none)) else (none)) else (none)) else (none)) else (if t634 = 0 then (if t636 = 0 then (if t638 = 0 then (if bt639.2 = 0 then (if t633 = (IntKind.u64.wrap (x8_1)) then (if t635 = t633 then (if t637 = x7_1 then (if bt639.1 = a1 then ((cutplanelaw07_known.f k1).bind fun t643 => (some t643)) else (none)) else (none)) else (none)) else (none)) else (none)) else (none)) else (none)) else (none))) else (if t634 = 0 then (if t636 = 0 then (if t638 = 0 then (if bt639.2 = 0 then (if t633 = (IntKind.u64.wrap (x8_1)) then (if t635 = t633 then (if t637 = x7_1 then (if bt639.1 = a1 then ((cutplanelaw07_known.f k1).bind fun t644 => (some t644)) else (none)) else (none)) else (none)) else (none)) else (none)) else (none)) else (none)) else (none))))) = some r := H
                  have A35 := Aside0.mk A350
                  clear A350
                  replace H := Option.bind_eq_some_iff.mp H
                  obtain ⟨⟨t639, t640⟩, A360, H⟩ := H
                  replace H : ((cutplaneref03_Sign.f a0).bind fun t641 => (if a1 = t641 then (if x8_1 > 0 then (if t634 = 0 then (if t636 = 0 then (if t638 = 0 then (if t640 = 0 then (if t633 = (IntKind.u64.wrap (x8_1)) then (if t635 = t633 then (if t637 = x7_1 then (if t639 = 0 then ((cutplanelaw07_known.f k1).bind fun t642 => (some t642)) else (none)) else (none)) else (none)) else (none)) else (none)) else (none)) else (none)) else (none)) else (if t634 = 0 then (if t636 = 0 then (if t638 = 0 then (if t640 = 0 then (if t633 = (IntKind.u64.wrap (x8_1)) then (if t635 = t633 then (if t637 = x7_1 then (if t639 = a1 then ((cutplanelaw07_known.f k1).bind fun t643 => (some t643)) else (none)) else (none)) else (none)) else (none)) else (none)) else (none)) else (none)) else (none))) else (if t634 = 0 then (if t636 = 0 then (if t638 = 0 then (if t640 = 0 then (if t633 = (IntKind.u64.wrap (x8_1)) then (if t635 = t633 then (if t637 = x7_1 then (if t639 = a1 then ((cutplanelaw07_known.f k1).bind fun t644 => (some t644)) else (none)) else (none)) else (none)) else (none)) else (none)) else (none)) else (none)) else (none)))) = some r := H
                  have A36 := Aside0.mk A360
                  clear A360
                  replace H := Option.bind_eq_some_iff.mp H
                  obtain ⟨t641, A370, H⟩ := H
                  replace H : (if a1 = t641 then (if x8_1 > 0 then (if t634 = 0 then (if t636 = 0 then (if t638 = 0 then (if t640 = 0 then (if t633 = (IntKind.u64.wrap (x8_1)) then (if t635 = t633 then (if t637 = x7_1 then (if t639 = 0 then ((cutplanelaw07_known.f k1).bind fun t642 => (some t642)) else (none)) else (none)) else (none)) else (none)) else (none)) else (none)) else (none)) else (none)) else (if t634 = 0 then (if t636 = 0 then (if t638 = 0 then (if t640 = 0 then (if t633 = (IntKind.u64.wrap (x8_1)) then (if t635 = t633 then (if t637 = x7_1 then (if t639 = a1 then ((cutplanelaw07_known.f k1).bind fun t643 => (some t643)) else (none)) else (none)) else (none)) else (none)) else (none)) else (none)) else (none)) else (none))) else (if t634 = 0 then (if t636 = 0 then (if t638 = 0 then (if t640 = 0 then (if t633 = (IntKind.u64.wrap (x8_1)) then (if t635 = t633 then (if t637 = x7_1 then (if t639 = a1 then ((cutplanelaw07_known.f k1).bind fun t644 => (some t644)) else (none)) else (none)) else (none)) else (none)) else (none)) else (none)) else (none)) else (none))) = some r := H
                  have A37 := Aside0.mk A370
                  clear A370
                  by_cases c38 : a1 = t641
                  · rw [if_pos c38] at H
                    have c38b0 : (a1 == t641) = true := beq_iff_eq.mpr c38
                    have c38b1 : (a1 != t641) = false := bne_eq_false_iff_eq.mpr c38
                    clear c38
                    by_cases c39 : x8_1 > 0
                    · rw [if_pos c39] at H
                      have c39b0 : decide (0 < x8_1) = true := decide_eq_true c39
                      clear c39
                      by_cases c40 : t634 = 0
                      · rw [if_pos c40] at H
                        have c40b0 : (t634 == 0) = true := beq_iff_eq.mpr c40
                        have c40b1 : (t634 != 0) = false := bne_eq_false_iff_eq.mpr c40
                        clear c40
                        by_cases c41 : t636 = 0
                        · rw [if_pos c41] at H
                          have c41b0 : (t636 == 0) = true := beq_iff_eq.mpr c41
                          have c41b1 : (t636 != 0) = false := bne_eq_false_iff_eq.mpr c41
                          clear c41
                          by_cases c42 : t638 = 0
                          · rw [if_pos c42] at H
                            have c42b0 : (t638 == 0) = true := beq_iff_eq.mpr c42
                            have c42b1 : (t638 != 0) = false := bne_eq_false_iff_eq.mpr c42
                            clear c42
                            by_cases c43 : t640 = 0
                            · rw [if_pos c43] at H
                              have c43b0 : (t640 == 0) = true := beq_iff_eq.mpr c43
                              have c43b1 : (t640 != 0) = false := bne_eq_false_iff_eq.mpr c43
                              clear c43
                              by_cases c44 : t633 = (IntKind.u64.wrap (x8_1))
                              · rw [if_pos c44] at H
                                have c44b0 : (t633 == (IntKind.u64.wrap (x8_1))) = true := beq_iff_eq.mpr c44
                                have c44b1 : (t633 != (IntKind.u64.wrap (x8_1))) = false := bne_eq_false_iff_eq.mpr c44
                                clear c44
                                by_cases c45 : t635 = t633
                                · rw [if_pos c45] at H
                                  have c45b0 : (t635 == t633) = true := beq_iff_eq.mpr c45
                                  have c45b1 : (t635 != t633) = false := bne_eq_false_iff_eq.mpr c45
                                  clear c45
                                  by_cases c46 : t637 = x7_1
                                  · rw [if_pos c46] at H
                                    have c46b0 : (t637 == x7_1) = true := beq_iff_eq.mpr c46
                                    have c46b1 : (t637 != x7_1) = false := bne_eq_false_iff_eq.mpr c46
                                    clear c46
                                    by_cases c47 : t639 = 0
                                    · rw [if_pos c47] at H
                                      have c47b0 : (t639 == 0) = true := beq_iff_eq.mpr c47
                                      have c47b1 : (t639 != 0) = false := bne_eq_false_iff_eq.mpr c47
                                      clear c47
                                      replace H := Option.bind_eq_some_iff.mp H
                                      obtain ⟨t642, A480, H⟩ := H
                                      replace H : (some t642) = some r := H
                                      have A48 := Aside0.mk A480
                                      clear A480
                                      obtain rfl := Option.some.inj H
                                      go_wp2_with (first | (go_at_call 27; (with_reducible refine (cutplaneref03_Inf.calls a0 false t632 _ A31.out).mono ?_); rintro e w49 ⟨rfl, hb⟩; have n0_ := Aside0.mk (below_step (by repeat (first | (with_reducible first | exact HB.out | apply below_alloc | apply pw_below_drewN | apply below_drew1) | exact HB.out)) hb); clear HB; have HB := n0_; clear n0_; (try clear hb); (try clear hb2); (try clear hk); (try clear hi)) | ((with_reducible refine gate_callee (f := 23) rfl ?_); refine goesL_ (some 63) rfl rfl Try.func23 (by kernel_rfl) rfl #[.int .u8 a0, .int .u64 a1, .int .u64 x7_1] rfl (by (try simp only [List.map_toArray, List.map_cons, List.map_nil]); first | done | rfl | (simp only [List.length_drop, List.length_take]; rfl)) ?_; (with_reducible refine (rank_Steps.calls k1 a0 a1 x7_1 t633 t634 _ A33.out).mono ?_); rintro e w50 ⟨rfl, hb⟩; refine ⟨_, rfl, ?_⟩; have n0_ := Aside0.mk (below_step (by repeat (first | (with_reducible first | exact HB.out | apply below_alloc | apply pw_below_drewN | apply below_drew1) | exact HB.out)) hb); clear HB; have HB := n0_; clear n0_; (try clear hb); (try clear hb2); (try clear hk); (try clear hi)) | ((with_reducible refine gate_callee (f := 23) rfl ?_); refine goesL_ (some 70) rfl rfl Try.func23 (by kernel_rfl) rfl #[.int .u8 a0, .int .u64 x7_1, .int .u64 a1] rfl (by (try simp only [List.map_toArray, List.map_cons, List.map_nil]); first | done | rfl | (simp only [List.length_drop, List.length_take]; rfl)) ?_; (with_reducible refine (rank_Steps.calls k1 a0 x7_1 a1 t635 t636 _ A34.out).mono ?_); rintro e w51 ⟨rfl, hb⟩; refine ⟨_, rfl, ?_⟩; have n0_ := Aside0.mk (below_step (by repeat (first | (with_reducible first | exact HB.out | apply below_alloc | apply pw_below_drewN | apply below_drew1) | exact HB.out)) hb); clear HB; have HB := n0_; clear n0_; (try clear hb); (try clear hb2); (try clear hk); (try clear hi)) | ((with_reducible refine gate_callee (f := 24) rfl ?_); refine goesL_ (some 77) rfl rfl Try.func24 (by kernel_rfl) rfl #[.int .u8 a0, .int .u64 a1, .int .i64 x8_1] rfl (by (try simp only [List.map_toArray, List.map_cons, List.map_nil]); first | done | rfl | (simp only [List.length_drop, List.length_take]; rfl)) ?_; (with_reducible refine (rank_Move.calls k1 a0 a1 x8_1 t637 t638 _ A35.out).mono ?_); rintro e w52 ⟨rfl, hb⟩; refine ⟨_, rfl, ?_⟩; have n0_ := Aside0.mk (below_step (by repeat (first | (with_reducible first | exact HB.out | apply below_alloc | apply pw_below_drewN | apply below_drew1) | exact HB.out)) hb); clear HB; have HB := n0_; clear n0_; (try clear hb); (try clear hb2); (try clear hk); (try clear hi)) | ((with_reducible refine gate_callee (f := 24) rfl ?_); refine goesL_ (some 85) rfl rfl Try.func24 (by kernel_rfl) rfl #[.int .u8 a0, .int .u64 t637, .int .i64 (wrap64 (-x8_1))] rfl (by (try simp only [List.map_toArray, List.map_cons, List.map_nil]); first | done | rfl | (simp only [List.length_drop, List.length_take]; rfl)) ?_; (with_reducible refine (rank_Move.calls k1 a0 t637 (wrap64 (-x8_1)) t639 t640 _ A36.out).mono ?_); rintro e w53 ⟨rfl, hb⟩; refine ⟨_, rfl, ?_⟩; have n0_ := Aside0.mk (below_step (by repeat (first | (with_reducible first | exact HB.out | apply below_alloc | apply pw_below_drewN | apply below_drew1) | exact HB.out)) hb); clear HB; have HB := n0_; clear n0_; (try clear hb); (try clear hb2); (try clear hk); (try clear hi)) | ((with_reducible refine gate_callee (f := 29) rfl ?_); refine goesL_ (some 90) rfl rfl Try.func29 (by kernel_rfl) rfl #[.int .u8 a0] rfl (by (try simp only [List.map_toArray, List.map_cons, List.map_nil]); first | done | rfl | (simp only [List.length_drop, List.length_take]; rfl)) ?_; (with_reducible refine (cutplaneref03_Sign.calls a0 t641 _ A37.out).mono ?_); rintro e w' ⟨rfl, ⟨nd, rfl⟩⟩; refine ⟨_, rfl, ?_⟩) | (go_at_call 14; (with_reducible refine (cutplanelaw07_known.calls k1  t642 _ A48.out).mono ?_); rintro e w54 ⟨rfl, hb⟩; have n0_ := Aside0.mk (below_step (by repeat (first | (with_reducible first | exact HB.out | apply below_alloc | apply pw_below_drewN | apply below_drew1) | exact HB.out)) hb); clear HB; have HB := n0_; clear n0_; (try clear hb); (try clear hb2); (try clear hk); (try clear hi)))
                                      go_ret
                                      exact ⟨by first | rfl | (simp [errW_none, errW_some] <;> rfl) | (simp [*, errW_none, errW_some] <;> rfl), by repeat (first | (with_reducible first | exact HB.out | apply below_alloc | apply pw_below_drewN | apply below_drew1) | exact HB.out)⟩
                                    · rw [if_neg c47] at H
                                      exact absurd H (by simp)
                                  · rw [if_neg c46] at H
                                    exact absurd H (by simp)
                                · rw [if_neg c45] at H
                                  exact absurd H (by simp)
                              · rw [if_neg c44] at H
                                exact absurd H (by simp)
                            · rw [if_neg c43] at H
                              exact absurd H (by simp)
                          · rw [if_neg c42] at H
                            exact absurd H (by simp)
                        · rw [if_neg c41] at H
                          exact absurd H (by simp)
                      · rw [if_neg c40] at H
                        exact absurd H (by simp)
                    · rw [if_neg c39] at H
                      have c39b0 : decide (0 < x8_1) = false := decide_eq_false c39
                      clear c39
                      by_cases c55 : t634 = 0
                      · rw [if_pos c55] at H
                        have c55b0 : (t634 == 0) = true := beq_iff_eq.mpr c55
                        have c55b1 : (t634 != 0) = false := bne_eq_false_iff_eq.mpr c55
                        clear c55
                        by_cases c56 : t636 = 0
                        · rw [if_pos c56] at H
                          have c56b0 : (t636 == 0) = true := beq_iff_eq.mpr c56
                          have c56b1 : (t636 != 0) = false := bne_eq_false_iff_eq.mpr c56
                          clear c56
                          by_cases c57 : t638 = 0
                          · rw [if_pos c57] at H
                            have c57b0 : (t638 == 0) = true := beq_iff_eq.mpr c57
                            have c57b1 : (t638 != 0) = false := bne_eq_false_iff_eq.mpr c57
                            clear c57
                            by_cases c58 : t640 = 0
                            · rw [if_pos c58] at H
                              have c58b0 : (t640 == 0) = true := beq_iff_eq.mpr c58
                              have c58b1 : (t640 != 0) = false := bne_eq_false_iff_eq.mpr c58
                              clear c58
                              by_cases c59 : t633 = (IntKind.u64.wrap (x8_1))
                              · rw [if_pos c59] at H
                                have c59b0 : (t633 == (IntKind.u64.wrap (x8_1))) = true := beq_iff_eq.mpr c59
                                have c59b1 : (t633 != (IntKind.u64.wrap (x8_1))) = false := bne_eq_false_iff_eq.mpr c59
                                clear c59
                                by_cases c60 : t635 = t633
                                · rw [if_pos c60] at H
                                  have c60b0 : (t635 == t633) = true := beq_iff_eq.mpr c60
                                  have c60b1 : (t635 != t633) = false := bne_eq_false_iff_eq.mpr c60
                                  clear c60
                                  by_cases c61 : t637 = x7_1
                                  · rw [if_pos c61] at H
                                    have c61b0 : (t637 == x7_1) = true := beq_iff_eq.mpr c61
                                    have c61b1 : (t637 != x7_1) = false := bne_eq_false_iff_eq.mpr c61
                                    clear c61
                                    by_cases c62 : t639 = a1
                                    · rw [if_pos c62] at H
                                      have c62b0 : (t639 == a1) = true := beq_iff_eq.mpr c62
                                      have c62b1 : (t639 != a1) = false := bne_eq_false_iff_eq.mpr c62
                                      clear c62
                                      replace H := Option.bind_eq_some_iff.mp H
                                      obtain ⟨t643, A630, H⟩ := H
                                      replace H : (some t643) = some r := H
                                      have A63 := Aside0.mk A630
                                      clear A630
                                      obtain rfl := Option.some.inj H
                                      go_wp2_with (first | (go_at_call 27; (with_reducible refine (cutplaneref03_Inf.calls a0 false t632 _ A31.out).mono ?_); rintro e w64 ⟨rfl, hb⟩; have n0_ := Aside0.mk (below_step (by repeat (first | (with_reducible first | exact HB.out | apply below_alloc | apply pw_below_drewN | apply below_drew1) | exact HB.out)) hb); clear HB; have HB := n0_; clear n0_; (try clear hb); (try clear hb2); (try clear hk); (try clear hi)) | ((with_reducible refine gate_callee (f := 23) rfl ?_); refine goesL_ (some 63) rfl rfl Try.func23 (by kernel_rfl) rfl #[.int .u8 a0, .int .u64 a1, .int .u64 x7_1] rfl (by (try simp only [List.map_toArray, List.map_cons, List.map_nil]); first | done | rfl | (simp only [List.length_drop, List.length_take]; rfl)) ?_; (with_reducible refine (rank_Steps.calls k1 a0 a1 x7_1 t633 t634 _ A33.out).mono ?_); rintro e w65 ⟨rfl, hb⟩; refine ⟨_, rfl, ?_⟩; have n0_ := Aside0.mk (below_step (by repeat (first | (with_reducible first | exact HB.out | apply below_alloc | apply pw_below_drewN | apply below_drew1) | exact HB.out)) hb); clear HB; have HB := n0_; clear n0_; (try clear hb); (try clear hb2); (try clear hk); (try clear hi)) | ((with_reducible refine gate_callee (f := 23) rfl ?_); refine goesL_ (some 70) rfl rfl Try.func23 (by kernel_rfl) rfl #[.int .u8 a0, .int .u64 x7_1, .int .u64 a1] rfl (by (try simp only [List.map_toArray, List.map_cons, List.map_nil]); first | done | rfl | (simp only [List.length_drop, List.length_take]; rfl)) ?_; (with_reducible refine (rank_Steps.calls k1 a0 x7_1 a1 t635 t636 _ A34.out).mono ?_); rintro e w66 ⟨rfl, hb⟩; refine ⟨_, rfl, ?_⟩; have n0_ := Aside0.mk (below_step (by repeat (first | (with_reducible first | exact HB.out | apply below_alloc | apply pw_below_drewN | apply below_drew1) | exact HB.out)) hb); clear HB; have HB := n0_; clear n0_; (try clear hb); (try clear hb2); (try clear hk); (try clear hi)) | ((with_reducible refine gate_callee (f := 24) rfl ?_); refine goesL_ (some 77) rfl rfl Try.func24 (by kernel_rfl) rfl #[.int .u8 a0, .int .u64 a1, .int .i64 x8_1] rfl (by (try simp only [List.map_toArray, List.map_cons, List.map_nil]); first | done | rfl | (simp only [List.length_drop, List.length_take]; rfl)) ?_; (with_reducible refine (rank_Move.calls k1 a0 a1 x8_1 t637 t638 _ A35.out).mono ?_); rintro e w67 ⟨rfl, hb⟩; refine ⟨_, rfl, ?_⟩; have n0_ := Aside0.mk (below_step (by repeat (first | (with_reducible first | exact HB.out | apply below_alloc | apply pw_below_drewN | apply below_drew1) | exact HB.out)) hb); clear HB; have HB := n0_; clear n0_; (try clear hb); (try clear hb2); (try clear hk); (try clear hi)) | ((with_reducible refine gate_callee (f := 24) rfl ?_); refine goesL_ (some 85) rfl rfl Try.func24 (by kernel_rfl) rfl #[.int .u8 a0, .int .u64 t637, .int .i64 (wrap64 (-x8_1))] rfl (by (try simp only [List.map_toArray, List.map_cons, List.map_nil]); first | done | rfl | (simp only [List.length_drop, List.length_take]; rfl)) ?_; (with_reducible refine (rank_Move.calls k1 a0 t637 (wrap64 (-x8_1)) t639 t640 _ A36.out).mono ?_); rintro e w68 ⟨rfl, hb⟩; refine ⟨_, rfl, ?_⟩; have n0_ := Aside0.mk (below_step (by repeat (first | (with_reducible first | exact HB.out | apply below_alloc | apply pw_below_drewN | apply below_drew1) | exact HB.out)) hb); clear HB; have HB := n0_; clear n0_; (try clear hb); (try clear hb2); (try clear hk); (try clear hi)) | ((with_reducible refine gate_callee (f := 29) rfl ?_); refine goesL_ (some 90) rfl rfl Try.func29 (by kernel_rfl) rfl #[.int .u8 a0] rfl (by (try simp only [List.map_toArray, List.map_cons, List.map_nil]); first | done | rfl | (simp only [List.length_drop, List.length_take]; rfl)) ?_; (with_reducible refine (cutplaneref03_Sign.calls a0 t641 _ A37.out).mono ?_); rintro e w' ⟨rfl, ⟨nd, rfl⟩⟩; refine ⟨_, rfl, ?_⟩) | (go_at_call 14; (with_reducible refine (cutplanelaw07_known.calls k1  t643 _ A63.out).mono ?_); rintro e w69 ⟨rfl, hb⟩; have n0_ := Aside0.mk (below_step (by repeat (first | (with_reducible first | exact HB.out | apply below_alloc | apply pw_below_drewN | apply below_drew1) | exact HB.out)) hb); clear HB; have HB := n0_; clear n0_; (try clear hb); (try clear hb2); (try clear hk); (try clear hi)))
                                      go_ret
                                      exact ⟨by first | rfl | (simp [errW_none, errW_some] <;> rfl) | (simp [*, errW_none, errW_some] <;> rfl), by repeat (first | (with_reducible first | exact HB.out | apply below_alloc | apply pw_below_drewN | apply below_drew1) | exact HB.out)⟩
                                    · rw [if_neg c62] at H
                                      exact absurd H (by simp)
                                  · rw [if_neg c61] at H
                                    exact absurd H (by simp)
                                · rw [if_neg c60] at H
                                  exact absurd H (by simp)
                              · rw [if_neg c59] at H
                                exact absurd H (by simp)
                            · rw [if_neg c58] at H
                              exact absurd H (by simp)
                          · rw [if_neg c57] at H
                            exact absurd H (by simp)
                        · rw [if_neg c56] at H
                          exact absurd H (by simp)
                      · rw [if_neg c55] at H
                        exact absurd H (by simp)
                  · rw [if_neg c38] at H
                    have c38b0 : (a1 == t641) = false := beq_eq_false_iff_ne.mpr c38
                    have c38b1 : (a1 != t641) = true := bne_iff_ne.mpr c38
                    by_cases c70 : t634 = 0
                    · rw [if_pos c70] at H
                      have c70b0 : (t634 == 0) = true := beq_iff_eq.mpr c70
                      have c70b1 : (t634 != 0) = false := bne_eq_false_iff_eq.mpr c70
                      clear c70
                      by_cases c71 : t636 = 0
                      · rw [if_pos c71] at H
                        have c71b0 : (t636 == 0) = true := beq_iff_eq.mpr c71
                        have c71b1 : (t636 != 0) = false := bne_eq_false_iff_eq.mpr c71
                        clear c71
                        by_cases c72 : t638 = 0
                        · rw [if_pos c72] at H
                          have c72b0 : (t638 == 0) = true := beq_iff_eq.mpr c72
                          have c72b1 : (t638 != 0) = false := bne_eq_false_iff_eq.mpr c72
                          clear c72
                          by_cases c73 : t640 = 0
                          · rw [if_pos c73] at H
                            have c73b0 : (t640 == 0) = true := beq_iff_eq.mpr c73
                            have c73b1 : (t640 != 0) = false := bne_eq_false_iff_eq.mpr c73
                            clear c73
                            by_cases c74 : t633 = (IntKind.u64.wrap (x8_1))
                            · rw [if_pos c74] at H
                              have c74b0 : (t633 == (IntKind.u64.wrap (x8_1))) = true := beq_iff_eq.mpr c74
                              have c74b1 : (t633 != (IntKind.u64.wrap (x8_1))) = false := bne_eq_false_iff_eq.mpr c74
                              clear c74
                              by_cases c75 : t635 = t633
                              · rw [if_pos c75] at H
                                have c75b0 : (t635 == t633) = true := beq_iff_eq.mpr c75
                                have c75b1 : (t635 != t633) = false := bne_eq_false_iff_eq.mpr c75
                                clear c75
                                by_cases c76 : t637 = x7_1
                                · rw [if_pos c76] at H
                                  have c76b0 : (t637 == x7_1) = true := beq_iff_eq.mpr c76
                                  have c76b1 : (t637 != x7_1) = false := bne_eq_false_iff_eq.mpr c76
                                  clear c76
                                  by_cases c77 : t639 = a1
                                  · rw [if_pos c77] at H
                                    have c77b0 : (t639 == a1) = true := beq_iff_eq.mpr c77
                                    have c77b1 : (t639 != a1) = false := bne_eq_false_iff_eq.mpr c77
                                    clear c77
                                    replace H := Option.bind_eq_some_iff.mp H
                                    obtain ⟨t644, A780, H⟩ := H
                                    replace H : (some t644) = some r := H
                                    have A78 := Aside0.mk A780
                                    clear A780
                                    obtain rfl := Option.some.inj H
                                    go_wp2_with (first | (go_at_call 27; (with_reducible refine (cutplaneref03_Inf.calls a0 false t632 _ A31.out).mono ?_); rintro e w79 ⟨rfl, hb⟩; have n0_ := Aside0.mk (below_step (by repeat (first | (with_reducible first | exact HB.out | apply below_alloc | apply pw_below_drewN | apply below_drew1) | exact HB.out)) hb); clear HB; have HB := n0_; clear n0_; (try clear hb); (try clear hb2); (try clear hk); (try clear hi)) | ((with_reducible refine gate_callee (f := 23) rfl ?_); refine goesL_ (some 63) rfl rfl Try.func23 (by kernel_rfl) rfl #[.int .u8 a0, .int .u64 a1, .int .u64 x7_1] rfl (by (try simp only [List.map_toArray, List.map_cons, List.map_nil]); first | done | rfl | (simp only [List.length_drop, List.length_take]; rfl)) ?_; (with_reducible refine (rank_Steps.calls k1 a0 a1 x7_1 t633 t634 _ A33.out).mono ?_); rintro e w80 ⟨rfl, hb⟩; refine ⟨_, rfl, ?_⟩; have n0_ := Aside0.mk (below_step (by repeat (first | (with_reducible first | exact HB.out | apply below_alloc | apply pw_below_drewN | apply below_drew1) | exact HB.out)) hb); clear HB; have HB := n0_; clear n0_; (try clear hb); (try clear hb2); (try clear hk); (try clear hi)) | ((with_reducible refine gate_callee (f := 23) rfl ?_); refine goesL_ (some 70) rfl rfl Try.func23 (by kernel_rfl) rfl #[.int .u8 a0, .int .u64 x7_1, .int .u64 a1] rfl (by (try simp only [List.map_toArray, List.map_cons, List.map_nil]); first | done | rfl | (simp only [List.length_drop, List.length_take]; rfl)) ?_; (with_reducible refine (rank_Steps.calls k1 a0 x7_1 a1 t635 t636 _ A34.out).mono ?_); rintro e w81 ⟨rfl, hb⟩; refine ⟨_, rfl, ?_⟩; have n0_ := Aside0.mk (below_step (by repeat (first | (with_reducible first | exact HB.out | apply below_alloc | apply pw_below_drewN | apply below_drew1) | exact HB.out)) hb); clear HB; have HB := n0_; clear n0_; (try clear hb); (try clear hb2); (try clear hk); (try clear hi)) | ((with_reducible refine gate_callee (f := 24) rfl ?_); refine goesL_ (some 77) rfl rfl Try.func24 (by kernel_rfl) rfl #[.int .u8 a0, .int .u64 a1, .int .i64 x8_1] rfl (by (try simp only [List.map_toArray, List.map_cons, List.map_nil]); first | done | rfl | (simp only [List.length_drop, List.length_take]; rfl)) ?_; (with_reducible refine (rank_Move.calls k1 a0 a1 x8_1 t637 t638 _ A35.out).mono ?_); rintro e w82 ⟨rfl, hb⟩; refine ⟨_, rfl, ?_⟩; have n0_ := Aside0.mk (below_step (by repeat (first | (with_reducible first | exact HB.out | apply below_alloc | apply pw_below_drewN | apply below_drew1) | exact HB.out)) hb); clear HB; have HB := n0_; clear n0_; (try clear hb); (try clear hb2); (try clear hk); (try clear hi)) | ((with_reducible refine gate_callee (f := 24) rfl ?_); refine goesL_ (some 85) rfl rfl Try.func24 (by kernel_rfl) rfl #[.int .u8 a0, .int .u64 t637, .int .i64 (wrap64 (-x8_1))] rfl (by (try simp only [List.map_toArray, List.map_cons, List.map_nil]); first | done | rfl | (simp only [List.length_drop, List.length_take]; rfl)) ?_; (with_reducible refine (rank_Move.calls k1 a0 t637 (wrap64 (-x8_1)) t639 t640 _ A36.out).mono ?_); rintro e w83 ⟨rfl, hb⟩; refine ⟨_, rfl, ?_⟩; have n0_ := Aside0.mk (below_step (by repeat (first | (with_reducible first | exact HB.out | apply below_alloc | apply pw_below_drewN | apply below_drew1) | exact HB.out)) hb); clear HB; have HB := n0_; clear n0_; (try clear hb); (try clear hb2); (try clear hk); (try clear hi)) | ((with_reducible refine gate_callee (f := 29) rfl ?_); refine goesL_ (some 90) rfl rfl Try.func29 (by kernel_rfl) rfl #[.int .u8 a0] rfl (by (try simp only [List.map_toArray, List.map_cons, List.map_nil]); first | done | rfl | (simp only [List.length_drop, List.length_take]; rfl)) ?_; (with_reducible refine (cutplaneref03_Sign.calls a0 t641 _ A37.out).mono ?_); rintro e w' ⟨rfl, ⟨nd, rfl⟩⟩; refine ⟨_, rfl, ?_⟩) | (go_at_call 14; (with_reducible refine (cutplanelaw07_known.calls k1  t644 _ A78.out).mono ?_); rintro e w84 ⟨rfl, hb⟩; have n0_ := Aside0.mk (below_step (by repeat (first | (with_reducible first | exact HB.out | apply below_alloc | apply pw_below_drewN | apply below_drew1) | exact HB.out)) hb); clear HB; have HB := n0_; clear n0_; (try clear hb); (try clear hb2); (try clear hk); (try clear hi)))
                                    go_ret
                                    exact ⟨by first | rfl | (simp [errW_none, errW_some] <;> rfl) | (simp [*, errW_none, errW_some] <;> rfl), by repeat (first | (with_reducible first | exact HB.out | apply below_alloc | apply pw_below_drewN | apply below_drew1) | exact HB.out)⟩
                                  · rw [if_neg c77] at H
                                    exact absurd H (by simp)
                                · rw [if_neg c76] at H
                                  exact absurd H (by simp)
                              · rw [if_neg c75] at H
                                exact absurd H (by simp)
                            · rw [if_neg c74] at H
                              exact absurd H (by simp)
                          · rw [if_neg c73] at H
                            exact absurd H (by simp)
                        · rw [if_neg c72] at H
                          exact absurd H (by simp)
                      · rw [if_neg c71] at H
                        exact absurd H (by simp)
                    · rw [if_neg c70] at H
                      exact absurd H (by simp)
                · rw [if_neg c32] at H
                  have c32b0 : (x7_1 == t632) = false := beq_eq_false_iff_ne.mpr c32
                  have c32b1 : (x7_1 != t632) = true := bne_iff_ne.mpr c32
                  replace H := Option.bind_eq_some_iff.mp H
                  obtain ⟨⟨t645, t646⟩, A850, H⟩ := H
                  replace H : ((cutplaneref03_Sign.f a0).bind fun t647 => (if t645 = t647 then (cutplanelaw07_RankWalk.l0 k1 a0 a1 a2 0 (wrap64 (x8_1 + 1))) else (cutplanelaw07_RankWalk.l0 k1 a0 a1 a2 t645 (wrap64 (x8_1 + 1))))) = some r := H
                  have A85 := Aside0.mk A850
                  clear A850
                  replace H := Option.bind_eq_some_iff.mp H
                  obtain ⟨t647, A860, H⟩ := H
                  replace H : (if t645 = t647 then (cutplanelaw07_RankWalk.l0 k1 a0 a1 a2 0 (wrap64 (x8_1 + 1))) else (cutplanelaw07_RankWalk.l0 k1 a0 a1 a2 t645 (wrap64 (x8_1 + 1)))) = some r := H
                  have A86 := Aside0.mk A860
                  clear A860
                  by_cases c87 : t645 = t647
                  · rw [if_pos c87] at H
                    have c87b0 : (t645 == t647) = true := beq_iff_eq.mpr c87
                    have c87b1 : (t645 != t647) = false := bne_eq_false_iff_eq.mpr c87
                    clear c87
                    have H' := Aside0.mk H
                    clear H
                    go_wp2_with (first | (go_at_call 27; (with_reducible refine (cutplaneref03_Inf.calls a0 false t632 _ A31.out).mono ?_); rintro e w88 ⟨rfl, hb⟩; have n0_ := Aside0.mk (below_step (by repeat (first | (with_reducible first | exact HB.out | apply below_alloc | apply pw_below_drewN | apply below_drew1) | exact HB.out)) hb); clear HB; have HB := n0_; clear n0_; (try clear hb); (try clear hb2); (try clear hk); (try clear hi)) | ((with_reducible refine gate_callee (f := 28) rfl ?_); refine goesL_ (some 50) rfl rfl Try.func28 (by kernel_rfl) rfl #[.int .u8 a0, .int .u64 x7_1] rfl (by (try simp only [List.map_toArray, List.map_cons, List.map_nil]); first | done | rfl | (simp only [List.length_drop, List.length_take]; rfl)) ?_; (with_reducible refine (cutplaneref03_Up.calls k1 a0 x7_1 t645 t646 _ A85.out).mono ?_); rintro e w89 ⟨rfl, hb⟩; refine ⟨_, rfl, ?_⟩; have n0_ := Aside0.mk (below_step (by repeat (first | (with_reducible first | exact HB.out | apply below_alloc | apply pw_below_drewN | apply below_drew1) | exact HB.out)) hb); clear HB; have HB := n0_; clear n0_; (try clear hb); (try clear hb2); (try clear hk); (try clear hi)) | ((with_reducible refine gate_callee (f := 29) rfl ?_); refine goesL_ (some 55) rfl rfl Try.func29 (by kernel_rfl) rfl #[.int .u8 a0] rfl (by (try simp only [List.map_toArray, List.map_cons, List.map_nil]); first | done | rfl | (simp only [List.length_drop, List.length_take]; rfl)) ?_; (with_reducible refine (cutplaneref03_Sign.calls a0 t647 _ A86.out).mono ?_); rintro e w' ⟨rfl, ⟨nd, rfl⟩⟩; refine ⟨_, rfl, ?_⟩))
                    go_roundg k1
                    case measure => have := HK1.out; omega
                    case rel => exact ⟨(0), (wrap64 (x8_1 + 1)), (by first | rfl | (simp; done) | (simp [*]; done)), (by first | rfl | (simp; done) | (simp [*]; done)), H', ⟨by have := HK1.out; omega⟩, ⟨by repeat (first | (with_reducible first | exact HB.out | apply below_alloc | apply pw_below_drewN | apply below_drew1) | exact HB.out)⟩⟩
                  · rw [if_neg c87] at H
                    have c87b0 : (t645 == t647) = false := beq_eq_false_iff_ne.mpr c87
                    have c87b1 : (t645 != t647) = true := bne_iff_ne.mpr c87
                    have H' := Aside0.mk H
                    clear H
                    go_wp2_with (first | (go_at_call 27; (with_reducible refine (cutplaneref03_Inf.calls a0 false t632 _ A31.out).mono ?_); rintro e w90 ⟨rfl, hb⟩; have n0_ := Aside0.mk (below_step (by repeat (first | (with_reducible first | exact HB.out | apply below_alloc | apply pw_below_drewN | apply below_drew1) | exact HB.out)) hb); clear HB; have HB := n0_; clear n0_; (try clear hb); (try clear hb2); (try clear hk); (try clear hi)) | ((with_reducible refine gate_callee (f := 28) rfl ?_); refine goesL_ (some 50) rfl rfl Try.func28 (by kernel_rfl) rfl #[.int .u8 a0, .int .u64 x7_1] rfl (by (try simp only [List.map_toArray, List.map_cons, List.map_nil]); first | done | rfl | (simp only [List.length_drop, List.length_take]; rfl)) ?_; (with_reducible refine (cutplaneref03_Up.calls k1 a0 x7_1 t645 t646 _ A85.out).mono ?_); rintro e w91 ⟨rfl, hb⟩; refine ⟨_, rfl, ?_⟩; have n0_ := Aside0.mk (below_step (by repeat (first | (with_reducible first | exact HB.out | apply below_alloc | apply pw_below_drewN | apply below_drew1) | exact HB.out)) hb); clear HB; have HB := n0_; clear n0_; (try clear hb); (try clear hb2); (try clear hk); (try clear hi)) | ((with_reducible refine gate_callee (f := 29) rfl ?_); refine goesL_ (some 55) rfl rfl Try.func29 (by kernel_rfl) rfl #[.int .u8 a0] rfl (by (try simp only [List.map_toArray, List.map_cons, List.map_nil]); first | done | rfl | (simp only [List.length_drop, List.length_take]; rfl)) ?_; (with_reducible refine (cutplaneref03_Sign.calls a0 t647 _ A86.out).mono ?_); rintro e w' ⟨rfl, ⟨nd, rfl⟩⟩; refine ⟨_, rfl, ?_⟩))
                    go_roundg k1
                    case measure => have := HK1.out; omega
                    case rel => exact ⟨(t645), (wrap64 (x8_1 + 1)), (by first | rfl | (simp; done) | (simp [*]; done)), (by first | rfl | (simp; done) | (simp [*]; done)), H', ⟨by have := HK1.out; omega⟩, ⟨by repeat (first | (with_reducible first | exact HB.out | apply below_alloc | apply pw_below_drewN | apply below_drew1) | exact HB.out)⟩⟩
              · rw [if_neg c30] at H
                have c30b0 : decide (x8_1 < a2) = false := decide_eq_false c30
                clear c30
                replace H := Option.bind_eq_some_iff.mp H
                obtain ⟨⟨t648, t649⟩, A920, H⟩ := H
                replace H : ((rank_Steps.f k1 a0 x7_1 a1).bind fun bt650 => ((rank_Move.f k1 a0 a1 x8_1).bind fun bt652 => ((rank_Move.f k1 a0 bt652.1 (wrap64 (-x8_1))).bind fun bt654 => ((cutplaneref03_Sign.f a0).bind fun t656 => (if a1 = t656 then (if x8_1 > 0 then (if t649 = 0 then (if bt650.2 = 0 then (if bt652.2 = 0 then (if bt654.2 = 0 then (if t648 = (IntKind.u64.wrap (x8_1)) then (if bt650.1 = t648 then (if bt652.1 = x7_1 then (if bt654.1 = 0 then ((cutplanelaw07_known.f k1).bind fun t657 => (some t657)) else (none)) else (none)) else (none)) else (none)) else (none)) else (none)) else (none)) else (none)) else (if t649 = 0 then (if bt650.2 = 0 then (if bt652.2 = 0 then (if bt654.2 = 0 then (if t648 = (IntKind.u64.wrap (x8_1)) then (if bt650.1 = t648 then (if bt652.1 = x7_1 then (if bt654.1 = a1 then ((cutplanelaw07_known.f k1).bind fun t658 => (some t658)) else (none)) else (none)) else (none)) else (none)) else (none)) else (none)) else (none)) else (none))) else (if t649 = 0 then (if bt650.2 = 0 then (if bt652.2 = 0 then (if bt654.2 = 0 then (if t648 = (IntKind.u64.wrap (x8_1)) then (if bt650.1 = t648 then (if bt652.1 = x7_1 then (if bt654.1 = a1 then ((cutplanelaw07_known.f k1).bind fun t659 => (some t659)) else (none)) else (none)) else (none)) else (none)) else (none)) else (none)) else (none)) else (none))))))) = some r := H
                have A92 := Aside0.mk A920
                clear A920
                replace H := Option.bind_eq_some_iff.mp H
                obtain ⟨⟨t650, t651⟩, A930, H⟩ := H
                replace H : ((rank_Move.f k1 a0 a1 x8_1).bind fun bt652 => ((rank_Move.f k1 a0 bt652.1 (wrap64 (-x8_1))).bind fun bt654 => ((cutplaneref03_Sign.f a0).bind fun t656 => (if a1 = t656 then (if x8_1 > 0 then (if t649 = 0 then (if t651 = 0 then (if bt652.2 = 0 then (if bt654.2 = 0 then (if t648 = (IntKind.u64.wrap (x8_1)) then (if t650 = t648 then (if bt652.1 = x7_1 then (if bt654.1 = 0 then ((cutplanelaw07_known.f k1).bind fun t657 => (some t657)) else (none)) else (none)) else (none)) else (none)) else (none)) else (none)) else (none)) else (none)) else (if t649 = 0 then (if t651 = 0 then (if bt652.2 = 0 then (if bt654.2 = 0 then (if t648 = (IntKind.u64.wrap (x8_1)) then (if t650 = t648 then (if bt652.1 = x7_1 then (if bt654.1 = a1 then ((cutplanelaw07_known.f k1).bind fun t658 => (some t658)) else (none)) else (none)) else (none)) else (none)) else (none)) else (none)) else (none)) else (none))) else (if t649 = 0 then (if t651 = 0 then (if bt652.2 = 0 then (if bt654.2 = 0 then (if t648 = (IntKind.u64.wrap (x8_1)) then (if t650 = t648 then (if bt652.1 = x7_1 then (if bt654.1 = a1 then ((cutplanelaw07_known.f k1).bind fun t659 => (some t659)) else (none)) else (none)) else (none)) else (none)) else (none)) else (none)) else (none)) else (none)))))) = some r := H
                have A93 := Aside0.mk A930
                clear A930
                replace H := Option.bind_eq_some_iff.mp H
                obtain ⟨⟨t652, t653⟩, A940, H⟩ := H
                replace H : ((rank_Move.f k1 a0 t652 (wrap64 (-x8_1))).bind fun bt654 => ((cutplaneref03_Sign.f a0).bind fun t656 => (if a1 = t656 then (if x8_1 > 0 then (if t649 = 0 then (if t651 = 0 then (if t653 = 0 then (if bt654.2 = 0 then (if t648 = (IntKind.u64.wrap (x8_1)) then (if t650 = t648 then (if t652 = x7_1 then (if bt654.1 = 0 then ((cutplanelaw07_known.f k1).bind fun t657 => (some t657)) else (none)) else (none)) else (none)) else (none)) else (none)) else (none)) else (none)) else (none)) else (if t649 = 0 then (if t651 = 0 then (if t653 = 0 then (if bt654.2 = 0 then (if t648 = (IntKind.u64.wrap (x8_1)) then (if t650 = t648 then (if t652 = x7_1 then (if bt654.1 = a1 then ((cutplanelaw07_known.f k1).bind fun t658 => (some t658)) else (none)) else (none)) else (none)) else (none)) else (none)) else (none)) else (none)) else (none))) else (if t649 = 0 then (if t651 = 0 then (if t653 = 0 then (if bt654.2 = 0 then (if t648 = (IntKind.u64.wrap (x8_1)) then (if t650 = t648 then (if t652 = x7_1 then (if bt654.1 = a1 then ((cutplanelaw07_known.f k1).bind fun t659 => (some t659)) else (none)) else (none)) else (none)) else (none)) else (none)) else (none)) else (none)) else (none))))) = some r := H
                have A94 := Aside0.mk A940
                clear A940
                replace H := Option.bind_eq_some_iff.mp H
                obtain ⟨⟨t654, t655⟩, A950, H⟩ := H
                replace H : ((cutplaneref03_Sign.f a0).bind fun t656 => (if a1 = t656 then (if x8_1 > 0 then (if t649 = 0 then (if t651 = 0 then (if t653 = 0 then (if t655 = 0 then (if t648 = (IntKind.u64.wrap (x8_1)) then (if t650 = t648 then (if t652 = x7_1 then (if t654 = 0 then ((cutplanelaw07_known.f k1).bind fun t657 => (some t657)) else (none)) else (none)) else (none)) else (none)) else (none)) else (none)) else (none)) else (none)) else (if t649 = 0 then (if t651 = 0 then (if t653 = 0 then (if t655 = 0 then (if t648 = (IntKind.u64.wrap (x8_1)) then (if t650 = t648 then (if t652 = x7_1 then (if t654 = a1 then ((cutplanelaw07_known.f k1).bind fun t658 => (some t658)) else (none)) else (none)) else (none)) else (none)) else (none)) else (none)) else (none)) else (none))) else (if t649 = 0 then (if t651 = 0 then (if t653 = 0 then (if t655 = 0 then (if t648 = (IntKind.u64.wrap (x8_1)) then (if t650 = t648 then (if t652 = x7_1 then (if t654 = a1 then ((cutplanelaw07_known.f k1).bind fun t659 => (some t659)) else (none)) else (none)) else (none)) else (none)) else (none)) else (none)) else (none)) else (none)))) = some r := H
                have A95 := Aside0.mk A950
                clear A950
                replace H := Option.bind_eq_some_iff.mp H
                obtain ⟨t656, A960, H⟩ := H
                replace H : (if a1 = t656 then (if x8_1 > 0 then (if t649 = 0 then (if t651 = 0 then (if t653 = 0 then (if t655 = 0 then (if t648 = (IntKind.u64.wrap (x8_1)) then (if t650 = t648 then (if t652 = x7_1 then (if t654 = 0 then ((cutplanelaw07_known.f k1).bind fun t657 => (some t657)) else (none)) else (none)) else (none)) else (none)) else (none)) else (none)) else (none)) else (none)) else (if t649 = 0 then (if t651 = 0 then (if t653 = 0 then (if t655 = 0 then (if t648 = (IntKind.u64.wrap (x8_1)) then (if t650 = t648 then (if t652 = x7_1 then (if t654 = a1 then ((cutplanelaw07_known.f k1).bind fun t658 => (some t658)) else (none)) else (none)) else (none)) else (none)) else (none)) else (none)) else (none)) else (none))) else (if t649 = 0 then (if t651 = 0 then (if t653 = 0 then (if t655 = 0 then (if t648 = (IntKind.u64.wrap (x8_1)) then (if t650 = t648 then (if t652 = x7_1 then (if t654 = a1 then ((cutplanelaw07_known.f k1).bind fun t659 => (some t659)) else (none)) else (none)) else (none)) else (none)) else (none)) else (none)) else (none)) else (none))) = some r := H
                have A96 := Aside0.mk A960
                clear A960
                by_cases c97 : a1 = t656
                · rw [if_pos c97] at H
                  have c97b0 : (a1 == t656) = true := beq_iff_eq.mpr c97
                  have c97b1 : (a1 != t656) = false := bne_eq_false_iff_eq.mpr c97
                  clear c97
                  by_cases c98 : x8_1 > 0
                  · rw [if_pos c98] at H
                    have c98b0 : decide (0 < x8_1) = true := decide_eq_true c98
                    clear c98
                    by_cases c99 : t649 = 0
                    · rw [if_pos c99] at H
                      have c99b0 : (t649 == 0) = true := beq_iff_eq.mpr c99
                      have c99b1 : (t649 != 0) = false := bne_eq_false_iff_eq.mpr c99
                      clear c99
                      by_cases c100 : t651 = 0
                      · rw [if_pos c100] at H
                        have c100b0 : (t651 == 0) = true := beq_iff_eq.mpr c100
                        have c100b1 : (t651 != 0) = false := bne_eq_false_iff_eq.mpr c100
                        clear c100
                        by_cases c101 : t653 = 0
                        · rw [if_pos c101] at H
                          have c101b0 : (t653 == 0) = true := beq_iff_eq.mpr c101
                          have c101b1 : (t653 != 0) = false := bne_eq_false_iff_eq.mpr c101
                          clear c101
                          by_cases c102 : t655 = 0
                          · rw [if_pos c102] at H
                            have c102b0 : (t655 == 0) = true := beq_iff_eq.mpr c102
                            have c102b1 : (t655 != 0) = false := bne_eq_false_iff_eq.mpr c102
                            clear c102
                            by_cases c103 : t648 = (IntKind.u64.wrap (x8_1))
                            · rw [if_pos c103] at H
                              have c103b0 : (t648 == (IntKind.u64.wrap (x8_1))) = true := beq_iff_eq.mpr c103
                              have c103b1 : (t648 != (IntKind.u64.wrap (x8_1))) = false := bne_eq_false_iff_eq.mpr c103
                              clear c103
                              by_cases c104 : t650 = t648
                              · rw [if_pos c104] at H
                                have c104b0 : (t650 == t648) = true := beq_iff_eq.mpr c104
                                have c104b1 : (t650 != t648) = false := bne_eq_false_iff_eq.mpr c104
                                clear c104
                                by_cases c105 : t652 = x7_1
                                · rw [if_pos c105] at H
                                  have c105b0 : (t652 == x7_1) = true := beq_iff_eq.mpr c105
                                  have c105b1 : (t652 != x7_1) = false := bne_eq_false_iff_eq.mpr c105
                                  clear c105
                                  by_cases c106 : t654 = 0
                                  · rw [if_pos c106] at H
                                    have c106b0 : (t654 == 0) = true := beq_iff_eq.mpr c106
                                    have c106b1 : (t654 != 0) = false := bne_eq_false_iff_eq.mpr c106
                                    clear c106
                                    replace H := Option.bind_eq_some_iff.mp H
                                    obtain ⟨t657, A1070, H⟩ := H
                                    replace H : (some t657) = some r := H
                                    have A107 := Aside0.mk A1070
                                    clear A1070
                                    obtain rfl := Option.some.inj H
                                    go_wp2_with (first | ((with_reducible refine gate_callee (f := 23) rfl ?_); refine goesL_ (some 63) rfl rfl Try.func23 (by kernel_rfl) rfl #[.int .u8 a0, .int .u64 a1, .int .u64 x7_1] rfl (by (try simp only [List.map_toArray, List.map_cons, List.map_nil]); first | done | rfl | (simp only [List.length_drop, List.length_take]; rfl)) ?_; (with_reducible refine (rank_Steps.calls k1 a0 a1 x7_1 t648 t649 _ A92.out).mono ?_); rintro e w108 ⟨rfl, hb⟩; refine ⟨_, rfl, ?_⟩; have n0_ := Aside0.mk (below_step (by repeat (first | (with_reducible first | exact HB.out | apply below_alloc | apply pw_below_drewN | apply below_drew1) | exact HB.out)) hb); clear HB; have HB := n0_; clear n0_; (try clear hb); (try clear hb2); (try clear hk); (try clear hi)) | ((with_reducible refine gate_callee (f := 23) rfl ?_); refine goesL_ (some 70) rfl rfl Try.func23 (by kernel_rfl) rfl #[.int .u8 a0, .int .u64 x7_1, .int .u64 a1] rfl (by (try simp only [List.map_toArray, List.map_cons, List.map_nil]); first | done | rfl | (simp only [List.length_drop, List.length_take]; rfl)) ?_; (with_reducible refine (rank_Steps.calls k1 a0 x7_1 a1 t650 t651 _ A93.out).mono ?_); rintro e w109 ⟨rfl, hb⟩; refine ⟨_, rfl, ?_⟩; have n0_ := Aside0.mk (below_step (by repeat (first | (with_reducible first | exact HB.out | apply below_alloc | apply pw_below_drewN | apply below_drew1) | exact HB.out)) hb); clear HB; have HB := n0_; clear n0_; (try clear hb); (try clear hb2); (try clear hk); (try clear hi)) | ((with_reducible refine gate_callee (f := 24) rfl ?_); refine goesL_ (some 77) rfl rfl Try.func24 (by kernel_rfl) rfl #[.int .u8 a0, .int .u64 a1, .int .i64 x8_1] rfl (by (try simp only [List.map_toArray, List.map_cons, List.map_nil]); first | done | rfl | (simp only [List.length_drop, List.length_take]; rfl)) ?_; (with_reducible refine (rank_Move.calls k1 a0 a1 x8_1 t652 t653 _ A94.out).mono ?_); rintro e w110 ⟨rfl, hb⟩; refine ⟨_, rfl, ?_⟩; have n0_ := Aside0.mk (below_step (by repeat (first | (with_reducible first | exact HB.out | apply below_alloc | apply pw_below_drewN | apply below_drew1) | exact HB.out)) hb); clear HB; have HB := n0_; clear n0_; (try clear hb); (try clear hb2); (try clear hk); (try clear hi)) | ((with_reducible refine gate_callee (f := 24) rfl ?_); refine goesL_ (some 85) rfl rfl Try.func24 (by kernel_rfl) rfl #[.int .u8 a0, .int .u64 t652, .int .i64 (wrap64 (-x8_1))] rfl (by (try simp only [List.map_toArray, List.map_cons, List.map_nil]); first | done | rfl | (simp only [List.length_drop, List.length_take]; rfl)) ?_; (with_reducible refine (rank_Move.calls k1 a0 t652 (wrap64 (-x8_1)) t654 t655 _ A95.out).mono ?_); rintro e w111 ⟨rfl, hb⟩; refine ⟨_, rfl, ?_⟩; have n0_ := Aside0.mk (below_step (by repeat (first | (with_reducible first | exact HB.out | apply below_alloc | apply pw_below_drewN | apply below_drew1) | exact HB.out)) hb); clear HB; have HB := n0_; clear n0_; (try clear hb); (try clear hb2); (try clear hk); (try clear hi)) | ((with_reducible refine gate_callee (f := 29) rfl ?_); refine goesL_ (some 90) rfl rfl Try.func29 (by kernel_rfl) rfl #[.int .u8 a0] rfl (by (try simp only [List.map_toArray, List.map_cons, List.map_nil]); first | done | rfl | (simp only [List.length_drop, List.length_take]; rfl)) ?_; (with_reducible refine (cutplaneref03_Sign.calls a0 t656 _ A96.out).mono ?_); rintro e w' ⟨rfl, ⟨nd, rfl⟩⟩; refine ⟨_, rfl, ?_⟩) | (go_at_call 14; (with_reducible refine (cutplanelaw07_known.calls k1  t657 _ A107.out).mono ?_); rintro e w112 ⟨rfl, hb⟩; have n0_ := Aside0.mk (below_step (by repeat (first | (with_reducible first | exact HB.out | apply below_alloc | apply pw_below_drewN | apply below_drew1) | exact HB.out)) hb); clear HB; have HB := n0_; clear n0_; (try clear hb); (try clear hb2); (try clear hk); (try clear hi)))
                                    go_ret
                                    exact ⟨by first | rfl | (simp [errW_none, errW_some] <;> rfl) | (simp [*, errW_none, errW_some] <;> rfl), by repeat (first | (with_reducible first | exact HB.out | apply below_alloc | apply pw_below_drewN | apply below_drew1) | exact HB.out)⟩
                                  · rw [if_neg c106] at H
                                    exact absurd H (by simp)
                                · rw [if_neg c105] at H
                                  exact absurd H (by simp)
                              · rw [if_neg c104] at H
                                exact absurd H (by simp)
                            · rw [if_neg c103] at H
                              exact absurd H (by simp)
                          · rw [if_neg c102] at H
                            exact absurd H (by simp)
                        · rw [if_neg c101] at H
                          exact absurd H (by simp)
                      · rw [if_neg c100] at H
                        exact absurd H (by simp)
                    · rw [if_neg c99] at H
                      exact absurd H (by simp)
                  · rw [if_neg c98] at H
                    have c98b0 : decide (0 < x8_1) = false := decide_eq_false c98
                    clear c98
                    by_cases c113 : t649 = 0
                    · rw [if_pos c113] at H
                      have c113b0 : (t649 == 0) = true := beq_iff_eq.mpr c113
                      have c113b1 : (t649 != 0) = false := bne_eq_false_iff_eq.mpr c113
                      clear c113
                      by_cases c114 : t651 = 0
                      · rw [if_pos c114] at H
                        have c114b0 : (t651 == 0) = true := beq_iff_eq.mpr c114
                        have c114b1 : (t651 != 0) = false := bne_eq_false_iff_eq.mpr c114
                        clear c114
                        by_cases c115 : t653 = 0
                        · rw [if_pos c115] at H
                          have c115b0 : (t653 == 0) = true := beq_iff_eq.mpr c115
                          have c115b1 : (t653 != 0) = false := bne_eq_false_iff_eq.mpr c115
                          clear c115
                          by_cases c116 : t655 = 0
                          · rw [if_pos c116] at H
                            have c116b0 : (t655 == 0) = true := beq_iff_eq.mpr c116
                            have c116b1 : (t655 != 0) = false := bne_eq_false_iff_eq.mpr c116
                            clear c116
                            by_cases c117 : t648 = (IntKind.u64.wrap (x8_1))
                            · rw [if_pos c117] at H
                              have c117b0 : (t648 == (IntKind.u64.wrap (x8_1))) = true := beq_iff_eq.mpr c117
                              have c117b1 : (t648 != (IntKind.u64.wrap (x8_1))) = false := bne_eq_false_iff_eq.mpr c117
                              clear c117
                              by_cases c118 : t650 = t648
                              · rw [if_pos c118] at H
                                have c118b0 : (t650 == t648) = true := beq_iff_eq.mpr c118
                                have c118b1 : (t650 != t648) = false := bne_eq_false_iff_eq.mpr c118
                                clear c118
                                by_cases c119 : t652 = x7_1
                                · rw [if_pos c119] at H
                                  have c119b0 : (t652 == x7_1) = true := beq_iff_eq.mpr c119
                                  have c119b1 : (t652 != x7_1) = false := bne_eq_false_iff_eq.mpr c119
                                  clear c119
                                  by_cases c120 : t654 = a1
                                  · rw [if_pos c120] at H
                                    have c120b0 : (t654 == a1) = true := beq_iff_eq.mpr c120
                                    have c120b1 : (t654 != a1) = false := bne_eq_false_iff_eq.mpr c120
                                    clear c120
                                    replace H := Option.bind_eq_some_iff.mp H
                                    obtain ⟨t658, A1210, H⟩ := H
                                    replace H : (some t658) = some r := H
                                    have A121 := Aside0.mk A1210
                                    clear A1210
                                    obtain rfl := Option.some.inj H
                                    go_wp2_with (first | ((with_reducible refine gate_callee (f := 23) rfl ?_); refine goesL_ (some 63) rfl rfl Try.func23 (by kernel_rfl) rfl #[.int .u8 a0, .int .u64 a1, .int .u64 x7_1] rfl (by (try simp only [List.map_toArray, List.map_cons, List.map_nil]); first | done | rfl | (simp only [List.length_drop, List.length_take]; rfl)) ?_; (with_reducible refine (rank_Steps.calls k1 a0 a1 x7_1 t648 t649 _ A92.out).mono ?_); rintro e w122 ⟨rfl, hb⟩; refine ⟨_, rfl, ?_⟩; have n0_ := Aside0.mk (below_step (by repeat (first | (with_reducible first | exact HB.out | apply below_alloc | apply pw_below_drewN | apply below_drew1) | exact HB.out)) hb); clear HB; have HB := n0_; clear n0_; (try clear hb); (try clear hb2); (try clear hk); (try clear hi)) | ((with_reducible refine gate_callee (f := 23) rfl ?_); refine goesL_ (some 70) rfl rfl Try.func23 (by kernel_rfl) rfl #[.int .u8 a0, .int .u64 x7_1, .int .u64 a1] rfl (by (try simp only [List.map_toArray, List.map_cons, List.map_nil]); first | done | rfl | (simp only [List.length_drop, List.length_take]; rfl)) ?_; (with_reducible refine (rank_Steps.calls k1 a0 x7_1 a1 t650 t651 _ A93.out).mono ?_); rintro e w123 ⟨rfl, hb⟩; refine ⟨_, rfl, ?_⟩; have n0_ := Aside0.mk (below_step (by repeat (first | (with_reducible first | exact HB.out | apply below_alloc | apply pw_below_drewN | apply below_drew1) | exact HB.out)) hb); clear HB; have HB := n0_; clear n0_; (try clear hb); (try clear hb2); (try clear hk); (try clear hi)) | ((with_reducible refine gate_callee (f := 24) rfl ?_); refine goesL_ (some 77) rfl rfl Try.func24 (by kernel_rfl) rfl #[.int .u8 a0, .int .u64 a1, .int .i64 x8_1] rfl (by (try simp only [List.map_toArray, List.map_cons, List.map_nil]); first | done | rfl | (simp only [List.length_drop, List.length_take]; rfl)) ?_; (with_reducible refine (rank_Move.calls k1 a0 a1 x8_1 t652 t653 _ A94.out).mono ?_); rintro e w124 ⟨rfl, hb⟩; refine ⟨_, rfl, ?_⟩; have n0_ := Aside0.mk (below_step (by repeat (first | (with_reducible first | exact HB.out | apply below_alloc | apply pw_below_drewN | apply below_drew1) | exact HB.out)) hb); clear HB; have HB := n0_; clear n0_; (try clear hb); (try clear hb2); (try clear hk); (try clear hi)) | ((with_reducible refine gate_callee (f := 24) rfl ?_); refine goesL_ (some 85) rfl rfl Try.func24 (by kernel_rfl) rfl #[.int .u8 a0, .int .u64 t652, .int .i64 (wrap64 (-x8_1))] rfl (by (try simp only [List.map_toArray, List.map_cons, List.map_nil]); first | done | rfl | (simp only [List.length_drop, List.length_take]; rfl)) ?_; (with_reducible refine (rank_Move.calls k1 a0 t652 (wrap64 (-x8_1)) t654 t655 _ A95.out).mono ?_); rintro e w125 ⟨rfl, hb⟩; refine ⟨_, rfl, ?_⟩; have n0_ := Aside0.mk (below_step (by repeat (first | (with_reducible first | exact HB.out | apply below_alloc | apply pw_below_drewN | apply below_drew1) | exact HB.out)) hb); clear HB; have HB := n0_; clear n0_; (try clear hb); (try clear hb2); (try clear hk); (try clear hi)) | ((with_reducible refine gate_callee (f := 29) rfl ?_); refine goesL_ (some 90) rfl rfl Try.func29 (by kernel_rfl) rfl #[.int .u8 a0] rfl (by (try simp only [List.map_toArray, List.map_cons, List.map_nil]); first | done | rfl | (simp only [List.length_drop, List.length_take]; rfl)) ?_; (with_reducible refine (cutplaneref03_Sign.calls a0 t656 _ A96.out).mono ?_); rintro e w' ⟨rfl, ⟨nd, rfl⟩⟩; refine ⟨_, rfl, ?_⟩) | (go_at_call 14; (with_reducible refine (cutplanelaw07_known.calls k1  t658 _ A121.out).mono ?_); rintro e w126 ⟨rfl, hb⟩; have n0_ := Aside0.mk (below_step (by repeat (first | (with_reducible first | exact HB.out | apply below_alloc | apply pw_below_drewN | apply below_drew1) | exact HB.out)) hb); clear HB; have HB := n0_; clear n0_; (try clear hb); (try clear hb2); (try clear hk); (try clear hi)))
                                    go_ret
                                    exact ⟨by first | rfl | (simp [errW_none, errW_some] <;> rfl) | (simp [*, errW_none, errW_some] <;> rfl), by repeat (first | (with_reducible first | exact HB.out | apply below_alloc | apply pw_below_drewN | apply below_drew1) | exact HB.out)⟩
                                  · rw [if_neg c120] at H
                                    exact absurd H (by simp)
                                · rw [if_neg c119] at H
                                  exact absurd H (by simp)
                              · rw [if_neg c118] at H
                                exact absurd H (by simp)
                            · rw [if_neg c117] at H
                              exact absurd H (by simp)
                          · rw [if_neg c116] at H
                            exact absurd H (by simp)
                        · rw [if_neg c115] at H
                          exact absurd H (by simp)
                      · rw [if_neg c114] at H
                        exact absurd H (by simp)
                    · rw [if_neg c113] at H
                      exact absurd H (by simp)
                · rw [if_neg c97] at H
                  have c97b0 : (a1 == t656) = false := beq_eq_false_iff_ne.mpr c97
                  have c97b1 : (a1 != t656) = true := bne_iff_ne.mpr c97
                  by_cases c127 : t649 = 0
                  · rw [if_pos c127] at H
                    have c127b0 : (t649 == 0) = true := beq_iff_eq.mpr c127
                    have c127b1 : (t649 != 0) = false := bne_eq_false_iff_eq.mpr c127
                    clear c127
                    by_cases c128 : t651 = 0
                    · rw [if_pos c128] at H
                      have c128b0 : (t651 == 0) = true := beq_iff_eq.mpr c128
                      have c128b1 : (t651 != 0) = false := bne_eq_false_iff_eq.mpr c128
                      clear c128
                      by_cases c129 : t653 = 0
                      · rw [if_pos c129] at H
                        have c129b0 : (t653 == 0) = true := beq_iff_eq.mpr c129
                        have c129b1 : (t653 != 0) = false := bne_eq_false_iff_eq.mpr c129
                        clear c129
                        by_cases c130 : t655 = 0
                        · rw [if_pos c130] at H
                          have c130b0 : (t655 == 0) = true := beq_iff_eq.mpr c130
                          have c130b1 : (t655 != 0) = false := bne_eq_false_iff_eq.mpr c130
                          clear c130
                          by_cases c131 : t648 = (IntKind.u64.wrap (x8_1))
                          · rw [if_pos c131] at H
                            have c131b0 : (t648 == (IntKind.u64.wrap (x8_1))) = true := beq_iff_eq.mpr c131
                            have c131b1 : (t648 != (IntKind.u64.wrap (x8_1))) = false := bne_eq_false_iff_eq.mpr c131
                            clear c131
                            by_cases c132 : t650 = t648
                            · rw [if_pos c132] at H
                              have c132b0 : (t650 == t648) = true := beq_iff_eq.mpr c132
                              have c132b1 : (t650 != t648) = false := bne_eq_false_iff_eq.mpr c132
                              clear c132
                              by_cases c133 : t652 = x7_1
                              · rw [if_pos c133] at H
                                have c133b0 : (t652 == x7_1) = true := beq_iff_eq.mpr c133
                                have c133b1 : (t652 != x7_1) = false := bne_eq_false_iff_eq.mpr c133
                                clear c133
                                by_cases c134 : t654 = a1
                                · rw [if_pos c134] at H
                                  have c134b0 : (t654 == a1) = true := beq_iff_eq.mpr c134
                                  have c134b1 : (t654 != a1) = false := bne_eq_false_iff_eq.mpr c134
                                  clear c134
                                  replace H := Option.bind_eq_some_iff.mp H
                                  obtain ⟨t659, A1350, H⟩ := H
                                  replace H : (some t659) = some r := H
                                  have A135 := Aside0.mk A1350
                                  clear A1350
                                  obtain rfl := Option.some.inj H
                                  go_wp2_with (first | ((with_reducible refine gate_callee (f := 23) rfl ?_); refine goesL_ (some 63) rfl rfl Try.func23 (by kernel_rfl) rfl #[.int .u8 a0, .int .u64 a1, .int .u64 x7_1] rfl (by (try simp only [List.map_toArray, List.map_cons, List.map_nil]); first | done | rfl | (simp only [List.length_drop, List.length_take]; rfl)) ?_; (with_reducible refine (rank_Steps.calls k1 a0 a1 x7_1 t648 t649 _ A92.out).mono ?_); rintro e w136 ⟨rfl, hb⟩; refine ⟨_, rfl, ?_⟩; have n0_ := Aside0.mk (below_step (by repeat (first | (with_reducible first | exact HB.out | apply below_alloc | apply pw_below_drewN | apply below_drew1) | exact HB.out)) hb); clear HB; have HB := n0_; clear n0_; (try clear hb); (try clear hb2); (try clear hk); (try clear hi)) | ((with_reducible refine gate_callee (f := 23) rfl ?_); refine goesL_ (some 70) rfl rfl Try.func23 (by kernel_rfl) rfl #[.int .u8 a0, .int .u64 x7_1, .int .u64 a1] rfl (by (try simp only [List.map_toArray, List.map_cons, List.map_nil]); first | done | rfl | (simp only [List.length_drop, List.length_take]; rfl)) ?_; (with_reducible refine (rank_Steps.calls k1 a0 x7_1 a1 t650 t651 _ A93.out).mono ?_); rintro e w137 ⟨rfl, hb⟩; refine ⟨_, rfl, ?_⟩; have n0_ := Aside0.mk (below_step (by repeat (first | (with_reducible first | exact HB.out | apply below_alloc | apply pw_below_drewN | apply below_drew1) | exact HB.out)) hb); clear HB; have HB := n0_; clear n0_; (try clear hb); (try clear hb2); (try clear hk); (try clear hi)) | ((with_reducible refine gate_callee (f := 24) rfl ?_); refine goesL_ (some 77) rfl rfl Try.func24 (by kernel_rfl) rfl #[.int .u8 a0, .int .u64 a1, .int .i64 x8_1] rfl (by (try simp only [List.map_toArray, List.map_cons, List.map_nil]); first | done | rfl | (simp only [List.length_drop, List.length_take]; rfl)) ?_; (with_reducible refine (rank_Move.calls k1 a0 a1 x8_1 t652 t653 _ A94.out).mono ?_); rintro e w138 ⟨rfl, hb⟩; refine ⟨_, rfl, ?_⟩; have n0_ := Aside0.mk (below_step (by repeat (first | (with_reducible first | exact HB.out | apply below_alloc | apply pw_below_drewN | apply below_drew1) | exact HB.out)) hb); clear HB; have HB := n0_; clear n0_; (try clear hb); (try clear hb2); (try clear hk); (try clear hi)) | ((with_reducible refine gate_callee (f := 24) rfl ?_); refine goesL_ (some 85) rfl rfl Try.func24 (by kernel_rfl) rfl #[.int .u8 a0, .int .u64 t652, .int .i64 (wrap64 (-x8_1))] rfl (by (try simp only [List.map_toArray, List.map_cons, List.map_nil]); first | done | rfl | (simp only [List.length_drop, List.length_take]; rfl)) ?_; (with_reducible refine (rank_Move.calls k1 a0 t652 (wrap64 (-x8_1)) t654 t655 _ A95.out).mono ?_); rintro e w139 ⟨rfl, hb⟩; refine ⟨_, rfl, ?_⟩; have n0_ := Aside0.mk (below_step (by repeat (first | (with_reducible first | exact HB.out | apply below_alloc | apply pw_below_drewN | apply below_drew1) | exact HB.out)) hb); clear HB; have HB := n0_; clear n0_; (try clear hb); (try clear hb2); (try clear hk); (try clear hi)) | ((with_reducible refine gate_callee (f := 29) rfl ?_); refine goesL_ (some 90) rfl rfl Try.func29 (by kernel_rfl) rfl #[.int .u8 a0] rfl (by (try simp only [List.map_toArray, List.map_cons, List.map_nil]); first | done | rfl | (simp only [List.length_drop, List.length_take]; rfl)) ?_; (with_reducible refine (cutplaneref03_Sign.calls a0 t656 _ A96.out).mono ?_); rintro e w' ⟨rfl, ⟨nd, rfl⟩⟩; refine ⟨_, rfl, ?_⟩) | (go_at_call 14; (with_reducible refine (cutplanelaw07_known.calls k1  t659 _ A135.out).mono ?_); rintro e w140 ⟨rfl, hb⟩; have n0_ := Aside0.mk (below_step (by repeat (first | (with_reducible first | exact HB.out | apply below_alloc | apply pw_below_drewN | apply below_drew1) | exact HB.out)) hb); clear HB; have HB := n0_; clear n0_; (try clear hb); (try clear hb2); (try clear hk); (try clear hi)))
                                  go_ret
                                  exact ⟨by first | rfl | (simp [errW_none, errW_some] <;> rfl) | (simp [*, errW_none, errW_some] <;> rfl), by repeat (first | (with_reducible first | exact HB.out | apply below_alloc | apply pw_below_drewN | apply below_drew1) | exact HB.out)⟩
                                · rw [if_neg c134] at H
                                  exact absurd H (by simp)
                              · rw [if_neg c133] at H
                                exact absurd H (by simp)
                            · rw [if_neg c132] at H
                              exact absurd H (by simp)
                          · rw [if_neg c131] at H
                            exact absurd H (by simp)
                        · rw [if_neg c130] at H
                          exact absurd H (by simp)
                      · rw [if_neg c129] at H
                        exact absurd H (by simp)
                    · rw [if_neg c128] at H
                      exact absurd H (by simp)
                  · rw [if_neg c127] at H
                    exact absurd H (by simp)
  · rw [if_neg c5] at H
    have c5b0 : (t627 == 0) = false := beq_eq_false_iff_ne.mpr c5
    have c5b1 : (t627 != 0) = true := bne_iff_ne.mpr c5
    replace H := Option.bind_eq_some_iff.mp H
    obtain ⟨t660, A1410, H⟩ := H
    replace H : (some t660) = some r := H
    have A141 := Aside0.mk A1410
    clear A1410
    obtain rfl := Option.some.inj H
    go_enter Try.func8, Try.ntmps8
    go_wp2_with (first | ((with_reducible refine gate_dst (N := 19) rfl ?_); refine Kd.R_lit (Kd.int .u64) _ 23 ?hg (N := 19) ?hd (xs := ([a1] : List Int)) (inner := [.int .u64 a1]) (ok := fun _ => True) (okp := fun _ => True) ?hr ?hp (fun _ hk => hk) trivial (Below.refl _ _) (Nat.le_refl _) (by simp) ?_; (case hd => rfl); (case hg => rfl); (case hr => first | (go_simp; done) | (go_simp; rfl)); (case hp => exact (Reps.one (show Kd.M (Kd.int .u64) _ _ _ a1 [.int .u64 a1] from rfl) (Reps.none _ _))); intro v625 w142 ho143 hb hg_ hnew_; clear hg_ hnew_; (first | rw [← Ny624.out] at ho143 | (simp only [Int.reduceToNat] at ho143; rw [← Ny624.out] at ho143)); have n0_ := Aside0.mk (Kd.R_lower ho143 (below_size (by repeat (first | (with_reducible first | exact HB.out | apply below_alloc | apply pw_below_drewN | apply below_drew1) | exact HB.out)))); have n1_ := Aside0.mk (below_step (by repeat (first | (with_reducible first | exact HB.out | apply below_alloc | apply pw_below_drewN | apply below_drew1) | exact HB.out)) hb); clear HB; have HO626 := n0_; have HB := n1_; clear n0_ n1_; clear hb ho143; obtain ⟨Ao144, co144, eo144⟩ := Kd.R_slice HO626.out; subst eo144) | ((with_reducible refine gate_callee (f := 13) rfl ?_); refine goesL_ (some 20) rfl rfl Try.func13 (by kernel_rfl) rfl #[.int .u8 a0, .slice Ao144 y624.length co144] rfl (by (try simp only [List.map_toArray, List.map_cons, List.map_nil]); first | done | rfl | (simp only [List.length_drop, List.length_take]; rfl)) ?_; (with_reducible refine (cutplaneref07_Opens.calls k a0 _ _ y624 t627 _ ?side1 ?side2 A4.out).mono ?_); (case side1 => repeat (first | exact (Kd.R_reads' HO626.out).2.2 | (with_reducible refine Kd.C_alloc ?_ _) | (with_reducible refine Kd.C_drewN ?_ _) | (with_reducible refine Kd.C_drew ?_))); (case side2 => exact (Kd.R_reads' HO626.out).2.1); rintro e w' ⟨rfl, ⟨nd, rfl⟩⟩; refine ⟨_, rfl, ?_⟩) | ((with_reducible refine gate_callee (f := 14) rfl ?_); refine goesL_ (some 36) rfl rfl Try.func14 (by kernel_rfl) rfl #[] rfl (by (try simp only [List.map_toArray, List.map_cons, List.map_nil]); first | done | rfl | (simp only [List.length_drop, List.length_take]; rfl)) ?_; (with_reducible refine (cutplanelaw07_known.calls k  t660 _ A141.out).mono ?_); rintro e w145 ⟨rfl, hb⟩; refine ⟨_, rfl, ?_⟩; have n0_ := Aside0.mk (Kd.R_below (by (with_reducible repeat (first | apply Kd.R_alloc | apply Kd.R_drewN | apply Kd.R_drew)); exact HO626.out) hb); have n1_ := Aside0.mk (below_step (by repeat (first | (with_reducible first | exact HB.out | apply below_alloc | apply pw_below_drewN | apply below_drew1) | exact HB.out)) hb); clear HO626; clear HB; have HO626 := n0_; have HB := n1_; clear n0_ n1_; (try clear hb); (try clear hb2); (try clear hk); (try clear hi)))
    go_ret
    exact ⟨by first | rfl | (simp [errW_none, errW_some] <;> rfl) | (simp [*, errW_none, errW_some] <;> rfl), by repeat (first | (with_reducible first | exact HB.out | apply below_alloc | apply pw_below_drewN | apply below_drew1) | exact HB.out)⟩
/-- THE ONE PURE STATEMENT of cutplanelaw07_RankWalk: yours. -/
def cutplanelaw07_RankWalk.Pure : Prop := ∀ (a0 : Int) (a1 : Int) (a2 : Int), (Lit.int .u8 a0).wf = true → (Lit.int .u64 a1).wf = true → (Lit.int .i64 a2).wf = true → ∃ k, cutplanelaw07_RankWalk.f k a0 a1 a2 = some true
theorem cutplanelaw07_RankWalk.walk (P : cutplanelaw07_RankWalk.Pure) (a0 : Int) (a1 : Int) (a2 : Int) (w : World) (w0 : (Lit.int .u8 a0).wf = true) (w1 : (Lit.int .u64 a1).wf = true) (w2 : (Lit.int .i64 a2).wf = true) :
    Calls Try.prog 8 #[.int .u8 a0, .int .u64 a1, .int .i64 a2] w fun e w' => e = .returned (.bool true) ∧ Below w.heap.size w w' := by
  obtain ⟨k, h⟩ := P a0 a1 a2 w0 w1 w2
  refine (cutplanelaw07_RankWalk.calls k a0 a1 a2 true w h).mono ?_
  rintro e w' ⟨rfl, hd⟩
  exact ⟨rfl, hd⟩
end Go.Proofs.Ytnjdaoeebhbmfaa.PA
end

section
namespace Go.Proofs.Ytnjdaoeebhbmfaa.Wd
open Go
theorem nat_or_lt {n a : Nat} (h : a < 2 ^ n) : a ||| 2 ^ n = 2 ^ n + a := by
  have := Nat.two_pow_add_eq_or_of_lt h 1
  rw [Nat.mul_one] at this
  rw [this, Nat.or_comm]
theorem nat_xor_lt {n a : Nat} (h : a < 2 ^ n) : a ^^^ 2 ^ n = 2 ^ n + a := by
  rw [← nat_or_lt h]
  apply Nat.eq_of_testBit_eq
  intro i
  rw [Nat.testBit_xor, Nat.testBit_or, Nat.testBit_two_pow]
  by_cases e : n = i
  · subst e; simp [Nat.testBit_lt_two_pow h]
  · simp [e]
theorem nat_xor_ge {n l : Nat} (h : l < 2 ^ n) : (2 ^ n + l) ^^^ 2 ^ n = l := by
  rw [← nat_xor_lt h, Nat.xor_assoc, Nat.xor_self, Nat.xor_zero]
theorem nat_mask {n a : Nat} (hn : n ≤ 63) (h : a < 2 ^ (n + 1)) : a &&& (2 ^ 64 - (2 ^ n + 1)) = a % 2 ^ n := by
  apply Nat.eq_of_testBit_eq
  intro i
  rw [Nat.testBit_and, Nat.testBit_mod_two_pow, Nat.testBit_two_pow_sub_succ (by exact Nat.pow_lt_pow_right (by decide) (by omega)), Nat.testBit_two_pow]
  by_cases e : i < n
  · simp [e, show n ≠ i by omega, show i < 64 by omega]
  · by_cases e2 : n = i
    · subst e2; simp
    · have : a.testBit i = false := Nat.testBit_lt_two_pow (Nat.lt_of_lt_of_le h (Nat.pow_le_pow_right (by decide) (by omega)))
      simp [this]
section
variable {w : Int}
theorem andNot31 (h0 : 0 ≤ w) (h1 : w < 4294967296) : Go.bits .andNot .u64 w 2147483648 = w % 2147483648 := by
  obtain ⟨a, rfl⟩ := Int.eq_ofNat_of_zero_le h0
  have ha : a < 2 ^ (31 + 1) := by omega
  have e := u64_andNot_nat a 2147483648 (by omega) (by decide)
  have m : a &&& 18446744071562067967 = a % 2147483648 := nat_mask (n := 31) (by decide) ha
  rw [show ((2147483648 : Int)) = ((2147483648 : Nat) : Int) from rfl, e, show (18446744073709551615 - 2147483648 : Nat) = 18446744071562067967 from rfl, m]
  omega
theorem andNot63 (h0 : 0 ≤ w) (h1 : w < 18446744073709551616) : Go.bits .andNot .u64 w 9223372036854775808 = w % 9223372036854775808 := by
  obtain ⟨a, rfl⟩ := Int.eq_ofNat_of_zero_le h0
  have ha : a < 2 ^ (63 + 1) := by omega
  have e := u64_andNot_nat a 9223372036854775808 (by omega) (by decide)
  have m : a &&& 9223372036854775807 = a % 9223372036854775808 := nat_mask (n := 63) (by decide) ha
  rw [show ((9223372036854775808 : Int)) = ((9223372036854775808 : Nat) : Int) from rfl, e, show (18446744073709551615 - 9223372036854775808 : Nat) = 9223372036854775807 from rfl, m]
  omega
theorem xor31 (h0 : 0 ≤ w) (h1 : w < 4294967296) : Go.bits .xor .u64 w 2147483648 = if w ≥ 2147483648 then w - 2147483648 else w + 2147483648 := by
  obtain ⟨a, rfl⟩ := Int.eq_ofNat_of_zero_le h0
  have e := u64_xor_nat a 2147483648 (by omega) (by decide)
  rw [show ((2147483648 : Int)) = ((2147483648 : Nat) : Int) from rfl, e]
  by_cases c : a < 2 ^ 31
  · have m : a ^^^ 2147483648 = 2 ^ 31 + a := nat_xor_lt (n := 31) c
    rw [m, if_neg (by omega)]; omega
  · obtain ⟨l, rfl⟩ : ∃ l, a = 2 ^ 31 + l := ⟨a - 2 ^ 31, by omega⟩
    have m : (2 ^ 31 + l) ^^^ 2147483648 = l := nat_xor_ge (n := 31) (l := l) (by omega)
    rw [m, if_pos (by omega)]; omega
theorem xor63 (h0 : 0 ≤ w) (h1 : w < 18446744073709551616) : Go.bits .xor .u64 w 9223372036854775808 = if w ≥ 9223372036854775808 then w - 9223372036854775808 else w + 9223372036854775808 := by
  obtain ⟨a, rfl⟩ := Int.eq_ofNat_of_zero_le h0
  have e := u64_xor_nat a 9223372036854775808 (by omega) (by decide)
  rw [show ((9223372036854775808 : Int)) = ((9223372036854775808 : Nat) : Int) from rfl, e]
  by_cases c : a < 2 ^ 63
  · have m : a ^^^ 9223372036854775808 = 2 ^ 63 + a := nat_xor_lt (n := 63) c
    rw [m, if_neg (by omega)]; omega
  · obtain ⟨l, rfl⟩ : ∃ l, a = 2 ^ 63 + l := ⟨a - 2 ^ 63, by omega⟩
    have m : (2 ^ 63 + l) ^^^ 9223372036854775808 = l := nat_xor_ge (n := 63) (l := l) (by omega)
    rw [m, if_pos (by omega)]; omega
theorem or31 (h0 : 0 ≤ w) (h1 : w < 2147483648) : Go.bits .or .u64 w 2147483648 = w + 2147483648 := by
  obtain ⟨a, rfl⟩ := Int.eq_ofNat_of_zero_le h0
  have e := u64_or_nat a 2147483648 (by omega) (by decide)
  have m : a ||| 2147483648 = 2 ^ 31 + a := nat_or_lt (n := 31) (by omega)
  rw [show ((2147483648 : Int)) = ((2147483648 : Nat) : Int) from rfl, e, m]
  omega
theorem or63 (h0 : 0 ≤ w) (h1 : w < 9223372036854775808) : Go.bits .or .u64 w 9223372036854775808 = w + 9223372036854775808 := by
  obtain ⟨a, rfl⟩ := Int.eq_ofNat_of_zero_le h0
  have e := u64_or_nat a 9223372036854775808 (by omega) (by decide)
  have m : a ||| 9223372036854775808 = 2 ^ 63 + a := nat_or_lt (n := 63) (by omega)
  rw [show ((9223372036854775808 : Int)) = ((9223372036854775808 : Nat) : Int) from rfl, e, m]
  omega
theorem wrapu64 (n : Int) : IntKind.u64.wrap n = n % 18446744073709551616 := by simp [IntKind.wrap, IntKind.bits, IntKind.signed]
end
end Go.Proofs.Ytnjdaoeebhbmfaa.Wd
end

section
namespace Go.Proofs.Ytnjdaoeebhbmfaa.PA
open Go.RowKit Go.Proofs.YtnjdaoeebhbmfaaW.PrintWords Go.Proofs.YtnjdaoeebhbmfaaW.PrintLast Go.Proofs.YtnjdaoeebhbmfaaW.PrintMore Go.Proofs.Ytnjdaoeebhbmfaa.Wd
set_option linter.unusedSimpArgs false
set_option linter.unusedVariables false
/-- the class of a size: P one above the fractions, I the infinite size -/
def cls (P I s : Int) : Int := if s = 0 then 1 else if s < P then 2 else if s < I then 3 else if s = I then 4 else 5
def sgn (f : Int) : Int := if f = 1 then 2147483648 else 9223372036854775808
def one (f : Int) : Int := if f = 1 then 8388608 else 4503599627370496
def infw (f : Int) : Int := if f = 1 then 2139095040 else 9218868437227405312
def nanw (f : Int) : Int := if f = 1 then 2143289344 else 9221120237041090560
def cl (f w : Int) : Int := cls (one f) (infw f) (w % sgn f)
/-- the error of a word, as Good tells it -/
def err (f w : Int) : Int := if f = 1 then (if w ≥ 4294967296 then 6 else 0) else if f = 2 then 0 else 4
/-- a good word -/
def Gd (f w : Int) : Prop := (f = 1 ∧ 0 ≤ w ∧ w < 4294967296) ∨ (f = 2 ∧ 0 ≤ w ∧ w < 18446744073709551616)
def U (w : Int) : Prop := 0 ≤ w ∧ w < 18446744073709551616
theorem Gd.u {f w : Int} (h : Gd f w) : U w := by rcases h with ⟨_, a, b⟩ | ⟨_, a, b⟩ <;> exact ⟨a, by omega⟩
theorem Gd.err {f w : Int} (h : Gd f w) : err f w = 0 := by
  rcases h with ⟨rfl, a, b⟩ | ⟨rfl, a, b⟩
  · simp [PA.err]; omega
  · simp [PA.err]
theorem gd_of {f w : Int} (h : err f w = 0) (hu : U w) : Gd f w := by
  unfold err at h
  unfold U at hu
  unfold Gd
  split at h
  · split at h
    · omega
    · omega
  · split at h <;> omega
theorem u_of {w : Int} (h : (Lit.int .u64 w).wf = true) : U w := by have := bounds_u64 h; exact ⟨by omega, by omega⟩
theorem rd_zero (w : Int) : rd [w] 0 = w := by rfl
theorem top31 : Go.bits .or .u64 2147483648 (IntKind.u64.wrap (2147483648 - 1)) = 4294967295 := by decide +kernel
theorem top63 : Go.bits .or .u64 9223372036854775808 (IntKind.u64.wrap (9223372036854775808 - 1)) = 18446744073709551615 := by decide +kernel
/-- the shape of a format -/
def shp (f : Int) : Int × Int × Int := if f = 1 then (23, 255, 2147483648) else if f = 2 then (52, 2047, 9223372036854775808) else (0, 0, 0)
theorem open_nil (k : Nat) (f : Int) : word_open.f (k + 1) f [] = some ((shp f).1, (shp f).2.1, (shp f).2.2, if f = 1 ∨ f = 2 then 0 else 4) := by
  unfold word_open.f word_shapeOf.f shp
  by_cases h1 : f = 1
  · subst h1; simp [word_open.l0]
  · by_cases h2 : f = 2
    · subst h2; simp [word_open.l0]
    · simp [h1, h2]
theorem open_one (k : Nat) (f w : Int) (hu : U w) : word_open.f (k + 2) f [w] = some ((shp f).1, (shp f).2.1, (shp f).2.2, err f w) := by
  obtain ⟨h0, h3⟩ := hu
  unfold word_open.f word_shapeOf.f shp err
  by_cases h1 : f = 1
  · subst h1
    have l1 : (([w] : List Int).length : Int) = 1 := rfl
    have w1 : wrap64 (0 + 1) = 1 := by decide +kernel
    simp only [if_true, Option.bind_some, word_open.l0, l1, rd_zero, top31, Int.zero_lt_one, Int.le_refl, w1]
    by_cases c : w ≥ 4294967296
    · rw [if_pos (by omega)]; simp [c]
    · rw [if_neg (by omega)]; simp [c]
  · by_cases h2 : f = 2
    · subst h2
      have l1 : (([w] : List Int).length : Int) = 1 := rfl
      have w1 : wrap64 (0 + 1) = 1 := by decide +kernel
      simp only [show (¬ ((2 : Int) = 1)) by decide, if_false, if_true, Option.bind_some, word_open.l0, l1, rd_zero, top63, Int.zero_lt_one, Int.le_refl, w1]
      rw [if_neg (by omega)]
      simp
    · simp [h1, h2]
theorem shape_inf1 : word_shape_inf.f 23 255 2147483648 = some 2139095040 := by decide +kernel
theorem shape_inf2 : word_shape_inf.f 52 2047 9223372036854775808 = some 9218868437227405312 := by decide +kernel
theorem shape_none1 : word_shape_none.f 23 255 2147483648 = some 2143289344 := by decide +kernel
theorem shape_none2 : word_shape_none.f 52 2047 9223372036854775808 = some 9221120237041090560 := by decide +kernel
theorem shl23 : shl .u64 1 23 = 8388608 := by decide +kernel
theorem shl52 : shl .u64 1 52 = 4503599627370496 := by decide +kernel
theorem shape_class {f w : Int} (h : Gd f w) : word_shape_class.f (shp f).1 (shp f).2.1 (shp f).2.2 w = some (cl f w) := by
  rcases h with ⟨rfl, h0, h1⟩ | ⟨rfl, h0, h1⟩
  · have e1 : shp 1 = (23, 255, 2147483648) := rfl
    rw [e1]
    simp only [word_shape_class.f, andNot31 h0 h1, shape_inf1, Option.bind_some, shl23, cl, cls, one, infw, sgn, if_true]
    repeat' split
    all_goals first | rfl | (exfalso; omega)
  · have e1 : shp 2 = (52, 2047, 9223372036854775808) := rfl
    rw [e1]
    simp only [word_shape_class.f, andNot63 h0 h1, shape_inf2, Option.bind_some, shl52, cl, cls, one, infw, sgn]
    simp only [show (¬ ((2 : Int) = 1)) by decide, if_false]
    repeat' split
    all_goals first | rfl | (exfalso; omega)
theorem class_good (k : Nat) {f w : Int} (h : Gd f w) : word_Class.f (k + 2) f w = some (cl f w, 0) := by
  unfold word_Class.f
  rw [open_one k f w h.u, h.err]
  simp only [Option.bind_some, if_true, shape_class h]
theorem good_word (k : Nat) {f w : Int} (hu : U w) : word_Good.f (k + 2) f w = some (err f w) := by
  unfold word_Good.f
  rw [open_one k f w hu]
  simp only [Option.bind_some]
theorem ref_Is (f : Int) : cutplaneref03_Is.f f = some (decide (f = 1 ∨ f = 2)) := by
  unfold cutplaneref03_Is.f
  by_cases h1 : f = 1
  · simp [h1]
  · rw [if_neg h1]; by_cases h2 : f = 2 <;> simp [h1, h2]
theorem ref_Good (f w : Int) : cutplaneref03_Good.f f w = some (err f w) := by
  unfold cutplaneref03_Good.f err
  rw [ref_Is]
  by_cases h1 : f = 1
  · subst h1; simp
    split <;> rfl
  · by_cases h2 : f = 2 <;> simp [h1, h2]
theorem ref_Split (f : Int) {w : Int} (hu : U w) : cutplaneref03_Split.f f w = some (decide (w ≥ sgn f), w % sgn f / one f, w % one f) := by
  unfold cutplaneref03_Split.f sgn one
  unfold U at hu
  rw [if_pos hu]
  split <;> rfl
theorem ref_Most (f : Int) : cutplaneref03_Most.f f = some (if f = 1 then 255 else 2047) := by unfold cutplaneref03_Most.f; split <;> rfl
theorem ref_Class (k : Nat) (f : Int) {w : Int} (hu : U w) : cutplaneref03_Class.f (k + 1) f w = some (cl f w) := by
  obtain ⟨h0, h1⟩ := hu
  unfold cutplaneref03_Class.f
  rw [ref_Split f ⟨h0, h1⟩]
  simp only [Option.bind_some, cutplaneref03_Class.j0, ref_Most]
  unfold cl cls sgn one infw
  by_cases hf : f = 1
  · simp only [hf, if_true]
    by_cases a : w % 2147483648 / 8388608 = 0
    · rw [if_pos a]
      by_cases b : w % 8388608 = 0
      · rw [if_pos (by simp [b]), if_pos (by omega)]
      · rw [if_neg (by simp [b]), if_pos a, if_neg (by omega), if_pos (by omega)]
    · rw [if_neg a, if_neg (by decide), if_neg a]
      by_cases c : w % 2147483648 / 8388608 < 255
      · rw [if_pos c, if_neg (by omega), if_neg (by omega), if_pos (by omega)]
      · rw [if_neg c]
        by_cases d : w % 8388608 = 0
        · rw [if_pos d, if_neg (by omega), if_neg (by omega), if_neg (by omega), if_pos (by omega)]
        · rw [if_neg d, if_neg (by omega), if_neg (by omega), if_neg (by omega), if_neg (by omega)]
  · simp only [hf, if_false]
    by_cases a : w % 9223372036854775808 / 4503599627370496 = 0
    · rw [if_pos a]
      by_cases b : w % 4503599627370496 = 0
      · rw [if_pos (by simp [b]), if_pos (by omega)]
      · rw [if_neg (by simp [b]), if_pos a, if_neg (by omega), if_pos (by omega)]
    · rw [if_neg a, if_neg (by decide), if_neg a]
      by_cases c : w % 9223372036854775808 / 4503599627370496 < 2047
      · rw [if_pos c, if_neg (by omega), if_neg (by omega), if_pos (by omega)]
      · rw [if_neg c]
        by_cases d : w % 4503599627370496 = 0
        · rw [if_pos d, if_neg (by omega), if_neg (by omega), if_neg (by omega), if_pos (by omega)]
        · rw [if_neg d, if_neg (by omega), if_neg (by omega), if_neg (by omega), if_neg (by omega)]
theorem ref_Sign (f : Int) : cutplaneref03_Sign.f f = some (sgn f) := by unfold cutplaneref03_Sign.f sgn; split <;> rfl
theorem ref_Frac (f : Int) : cutplaneref03_Frac.f f = some (if f = 1 then 23 else 52) := by unfold cutplaneref03_Frac.f; split <;> rfl
theorem ref_None (f : Int) : cutplaneref03_None.f f = some (nanw f) := by
  by_cases hf : f = 1
  · subst hf; decide +kernel
  · unfold cutplaneref03_None.f
    rw [ref_Most, ref_Frac]
    unfold nanw
    simp only [hf, if_false, Option.bind_some]
    have e : shl .u64 1 (wrap64 (52 - 1)) = 2251799813685248 := by decide +kernel
    have e0 : 0 ≤ wrap64 (52 - 1) := by decide +kernel
    have e1 : IntKind.u64.wrap (shl .u64 (IntKind.u64.wrap 2047) 52 + 2251799813685248) = 9221120237041090560 := by decide +kernel
    rw [if_pos e0, e]
    unfold cutplaneref03_Join.f
    rw [ref_Frac]
    simp [hf, e1]
theorem ref_Inf (f : Int) (b : Bool) : cutplaneref03_Inf.f f b = some (if b then infw f + sgn f else infw f) := by
  unfold cutplaneref03_Inf.f cutplaneref03_Join.f
  rw [ref_Most, ref_Frac, ref_Sign]
  unfold infw sgn
  by_cases hf : f = 1
  · have e1 : IntKind.u64.wrap (shl .u64 (IntKind.u64.wrap 255) 23 + 0) = 2139095040 := by decide +kernel
    have e2 : IntKind.u64.wrap (2139095040 + 2147483648) = 4286578688 := by decide +kernel
    simp only [hf, if_true, Option.bind_some, e1, e2]
    cases b <;> simp
  · have e1 : IntKind.u64.wrap (shl .u64 (IntKind.u64.wrap 2047) 52 + 0) = 9218868437227405312 := by decide +kernel
    have e2 : IntKind.u64.wrap (9218868437227405312 + 9223372036854775808) = 18442240474082181120 := by decide +kernel
    simp only [hf, if_false, Option.bind_some, e1, e2]
    cases b <;> simp
def flipw (f w : Int) : Int := if w ≥ sgn f then w - sgn f else w + sgn f
def negw (f w : Int) : Int := if cl f w = 5 then nanw f else flipw f w
def absw (f w : Int) : Int := if cl f w = 5 then nanw f else w % sgn f
theorem shape_none {f w : Int} (h : Gd f w) : word_shape_none.f (shp f).1 (shp f).2.1 (shp f).2.2 = some (nanw f) := by
  rcases h with ⟨rfl, _, _⟩ | ⟨rfl, _, _⟩
  · exact shape_none1
  · exact shape_none2
theorem turned_good (k : Nat) {f w : Int} (h : Gd f w) {g : Int → Int → Int → Option Int} {z : Int} (hg : g (shp f).1 (shp f).2.1 (shp f).2.2 = some z) :
    word_turned.f (k + 2) f w g = some (if cl f w = 5 then nanw f else z, 0) := by
  unfold word_turned.f
  rw [open_one k f w h.u, h.err]
  simp only [Option.bind_some, if_true, shape_class h, shape_none h, hg]
  split <;> rfl
theorem shp3 {f w : Int} (h : Gd f w) : (shp f).2.2 = sgn f := by
  rcases h with ⟨rfl, _, _⟩ | ⟨rfl, _, _⟩ <;> rfl
theorem neg_good (k : Nat) {f w : Int} (h : Gd f w) : word_Neg.f (k + 2) f w = some (negw f w, 0) := by
  unfold word_Neg.f
  rw [turned_good k h (z := flipw f w) ?_]
  · rfl
  · unfold word_Neg_1.f flipw
    rw [shp3 h]
    rcases h with ⟨rfl, h0, h1⟩ | ⟨rfl, h0, h1⟩
    · exact congrArg some (xor31 h0 h1)
    · exact congrArg some (xor63 h0 h1)
theorem abs_good (k : Nat) {f w : Int} (h : Gd f w) : word_Abs.f (k + 2) f w = some (absw f w, 0) := by
  unfold word_Abs.f
  rw [turned_good k h (z := w % sgn f) ?_]
  · rfl
  · unfold word_Abs_1.f
    rw [shp3 h]
    rcases h with ⟨rfl, h0, h1⟩ | ⟨rfl, h0, h1⟩
    · exact congrArg some (andNot31 h0 h1)
    · exact congrArg some (andNot63 h0 h1)
theorem sgn_cases (f : Int) : sgn f = 2147483648 ∨ sgn f = 9223372036854775808 := by unfold sgn; split <;> simp
theorem open_nil' (k : Nat) (f : Int) : word_open.f (k + 1) f ([] : List Int) = some ((shp f).1, (shp f).2.1, (shp f).2.2, if f = 1 ∨ f = 2 then 0 else 4) := open_nil k f
end Go.Proofs.Ytnjdaoeebhbmfaa.PA
end

section
namespace Go.Proofs.Ytnjdaoeebhbmfaa.PA
open Go.RowKit Go.Proofs.YtnjdaoeebhbmfaaW.PrintWords Go.Proofs.YtnjdaoeebhbmfaaW.PrintLast Go.Proofs.YtnjdaoeebhbmfaaW.PrintMore Go.Proofs.Ytnjdaoeebhbmfaa.Wd
set_option linter.unusedSimpArgs false
set_option linter.unusedVariables false
theorem named_good (k : Nat) {f : Int} (hf : f = 1 ∨ f = 2) (b : Bool) {g : Int → Int → Int → Option Int} {z : Int} (hg : g (shp f).1 (shp f).2.1 (shp f).2.2 = some z) (h0 : 0 ≤ z) (h1 : z < sgn f) :
    word_named.f (k + 1) f b g = some (if b then z + sgn f else z, 0) := by
  unfold word_named.f
  rw [open_nil' k f]
  simp only [Option.bind_some, if_pos hf, if_true, hg]
  have e : Go.bits .or .u64 z (shp f).2.2 = z + sgn f := by
    rcases hf with rfl | rfl
    · exact or31 h0 h1
    · exact or63 h0 h1
  rw [e]
  cases b <;> rfl
theorem named_nof (k : Nat) {f : Int} (hf : ¬ (f = 1 ∨ f = 2)) (b : Bool) {g : Int → Int → Int → Option Int} : word_named.f (k + 1) f b g = some (0, 4) := by
  unfold word_named.f
  rw [open_nil' k f]
  simp only [Option.bind_some, if_neg hf]
  rw [if_neg (by decide)]
theorem infw_lt (f : Int) : 0 ≤ infw f ∧ infw f < sgn f ∧ infw f < nanw f ∧ nanw f < sgn f ∧ one f < infw f ∧ 0 < one f := by unfold infw sgn nanw one; split <;> decide
theorem shape_inf {f : Int} (hf : f = 1 ∨ f = 2) : word_shape_inf.f (shp f).1 (shp f).2.1 (shp f).2.2 = some (infw f) := by
  rcases hf with rfl | rfl
  · exact shape_inf1
  · exact shape_inf2
theorem inf_good (k : Nat) {f : Int} (hf : f = 1 ∨ f = 2) (b : Bool) : word_Inf.f (k + 1) f b = some (if b then infw f + sgn f else infw f, 0) := by
  unfold word_Inf.f
  rw [named_good k hf b (z := infw f) (shape_inf hf) (infw_lt f).1 (infw_lt f).2.1]
  rfl
theorem none_good (k : Nat) {f : Int} (hf : f = 1 ∨ f = 2) : word_None.f (k + 1) f = some (nanw f, 0) := by
  unfold word_None.f
  rw [named_good k hf false (z := nanw f) (by rcases hf with rfl | rfl; exact shape_none1; exact shape_none2) (by have := infw_lt f; omega) (infw_lt f).2.2.2.1]
  rfl
theorem none_nof (k : Nat) {f : Int} (hf : ¬ (f = 1 ∨ f = 2)) : word_None.f (k + 1) f = some (0, 4) := by unfold word_None.f; rw [named_nof k hf]; rfl
end Go.Proofs.Ytnjdaoeebhbmfaa.PA
end

section
namespace Go.Proofs.Ytnjdaoeebhbmfaa.PA
open Go.RowKit Go.Proofs.YtnjdaoeebhbmfaaW.PrintWords Go.Proofs.YtnjdaoeebhbmfaaW.PrintLast Go.Proofs.YtnjdaoeebhbmfaaW.PrintMore Go.Proofs.Ytnjdaoeebhbmfaa.Wd
set_option linter.unusedSimpArgs false
set_option linter.unusedVariables false
theorem rd_get (l : List Int) (i : Nat) (h : i < l.length) : rd l (i : Int) = l[i] := by
  unfold rd
  simp [h]
def okw (f w : Int) : Bool := decide (err f w = 0)
def errl (f : Int) (l : List Int) : Int := if f = 1 ∨ f = 2 then (if l.all (okw f) then 0 else 6) else 4
theorem err_fmt {f w : Int} (hf : f = 1 ∨ f = 2) : err f w = 0 ∨ err f w = 6 := by
  unfold err
  rcases hf with rfl | rfl
  · simp only [if_true]; split <;> simp
  · simp
theorem open_loop (f : Int) (l : List Int) (hf : f = 1 ∨ f = 2) (hl : l.length < 4611686018427387904) (hu : ∀ w ∈ l, U w) (d : Nat) : ∀ (k i : Nat), i ≤ l.length → l.length - i = d → d + 2 < k →
    rank_open.l0 k f l (l.length : Int) (i : Int) = some (if (l.drop i).all (okw f) then 0 else 6) := by
  induction d with
  | zero =>
    intro k i hi hd hk
    obtain ⟨k, rfl⟩ : ∃ m, k = m + 1 := ⟨k - 1, by omega⟩
    have e : i = l.length := by omega
    subst e
    simp only [rank_open.l0]
    rw [if_neg (by omega)]
    simp
  | succ d ih =>
    intro k i hi hd hk
    obtain ⟨k, rfl⟩ : ∃ m, k = m + 1 := ⟨k - 1, by omega⟩
    have hlt : i < l.length := by omega
    have hg : word_Good.f k f l[i] = some (err f l[i]) := by
      obtain ⟨j, rfl⟩ : ∃ j, k = j + 2 := ⟨k - 2, by omega⟩
      exact good_word (k := j) (f := f) (hu l[i] (List.getElem_mem hlt))
    have w1 : wrap64 ((i : Int) + 1) = ((i + 1 : Nat) : Int) := by unfold wrap64; omega
    have hd : l.drop i = l[i] :: l.drop (i + 1) := List.drop_eq_getElem_cons hlt
    simp only [rank_open.l0]
    rw [if_pos (by omega), if_pos (by omega), if_pos (by omega), rd_get l i hlt, hg, w1]
    simp only [Option.bind_some]
    rw [ih k (i + 1) (by omega) (by omega) (by omega), hd]
    rcases err_fmt (w := l[i]) hf with e | e
    · rw [if_pos e, List.all_cons, show okw f l[i] = true from decide_eq_true e, Bool.true_and]
    · rw [if_neg (by omega), List.all_cons, show okw f l[i] = false from decide_eq_false (by omega), Bool.false_and, e]; rfl
theorem open_list (f : Int) (l : List Int) (hl : l.length < 4611686018427387904) (hu : ∀ w ∈ l, U w) (k : Nat) (hk : l.length + 2 < k) : rank_open.f k f l = some (errl f l) := by
  obtain ⟨j, rfl⟩ : ∃ m, k = m + 1 := ⟨k - 1, by omega⟩
  unfold rank_open.f errl
  by_cases hf : f = 1 ∨ f = 2
  · rw [none_good j hf, if_pos hf]
    simp only [Option.bind_some, if_true]
    have := open_loop f l hf hl hu l.length (j + 1) 0 (by omega) (by omega) (by omega)
    rw [show ((0 : Nat) : Int) = 0 from rfl] at this
    rw [this]; simp
  · rw [none_nof j hf, if_neg hf]
    simp only [Option.bind_some]
    rw [if_neg (by decide)]
theorem opens_loop (f : Int) (l : List Int) (hl : l.length < 4611686018427387904) (d : Nat) : ∀ (k i : Nat), i ≤ l.length → l.length - i = d → d < k →
    cutplaneref07_Opens.l0 k f l (i : Int) = some (if (l.drop i).all (okw f) then 0 else 6) := by
  induction d with
  | zero =>
    intro k i hi hd hk
    obtain ⟨k, rfl⟩ : ∃ m, k = m + 1 := ⟨k - 1, by omega⟩
    have e : i = l.length := by omega
    subst e
    simp only [cutplaneref07_Opens.l0]
    rw [if_neg (by omega)]
    simp
  | succ d ih =>
    intro k i hi hd hk
    obtain ⟨k, rfl⟩ : ∃ m, k = m + 1 := ⟨k - 1, by omega⟩
    have hlt : i < l.length := by omega
    have w1 : wrap64 ((i : Int) + 1) = ((i + 1 : Nat) : Int) := by unfold wrap64; omega
    have hd : l.drop i = l[i] :: l.drop (i + 1) := List.drop_eq_getElem_cons hlt
    simp only [cutplaneref07_Opens.l0]
    rw [if_pos (by omega), if_pos (by omega), rd_get l i hlt, ref_Good, w1]
    simp only [Option.bind_some]
    rw [ih k (i + 1) (by omega) (by omega) (by omega), hd]
    by_cases e : err f l[i] = 0
    · rw [if_pos e, List.all_cons, show okw f l[i] = true from decide_eq_true e, Bool.true_and]
    · rw [if_neg e, List.all_cons, show okw f l[i] = false from decide_eq_false e, Bool.false_and]; rfl
theorem ref_Opens (f : Int) (l : List Int) (hl : l.length < 4611686018427387904) (k : Nat) (hk : l.length < k) : cutplaneref07_Opens.f k f l = some (errl f l) := by
  unfold cutplaneref07_Opens.f errl
  rw [ref_Is]
  by_cases hf : f = 1 ∨ f = 2
  · have := opens_loop f l hl l.length k 0 (by omega) (by omega) (by omega)
    rw [show ((0 : Nat) : Int) = 0 from rfl] at this
    simp only [Option.bind_some, hf, decide_true, if_true, this]
    simp
  · simp [hf]
theorem errl_zero {f : Int} {l : List Int} (h : errl f l = 0) (hu : ∀ w ∈ l, U w) : (f = 1 ∨ f = 2) ∧ ∀ w ∈ l, Gd f w := by
  unfold errl at h
  by_cases hf : f = 1 ∨ f = 2
  · rw [if_pos hf] at h
    refine ⟨hf, fun w hw => ?_⟩
    by_cases ha : l.all (okw f) = true
    · have := List.all_eq_true.1 ha w hw
      exact gd_of (of_decide_eq_true this) (hu w hw)
    · rw [if_neg ha] at h; exact absurd h (by decide)
  · rw [if_neg hf] at h; exact absurd h (by decide)
theorem errl_good {f : Int} {l : List Int} (hf : f = 1 ∨ f = 2) (h : ∀ w ∈ l, Gd f w) : errl f l = 0 := by
  unfold errl
  rw [if_pos hf, if_pos]
  exact List.all_eq_true.2 fun w hw => decide_eq_true (h w hw).err
theorem gd_f {f w : Int} (h : Gd f w) : f = 1 ∨ f = 2 := by rcases h with ⟨e, _⟩ | ⟨e, _⟩ <;> simp [e]
theorem isnan_good (k : Nat) {f w : Int} (h : Gd f w) : rank_isNaN.f (k + 2) f w = some (cl f w == 5) := by
  unfold rank_isNaN.f
  rw [class_good k h]; rfl
/-- the place of a word that is no NaN -/
def plc (f w : Int) : Int := if w ≥ sgn f then -(w % sgn f) else w % sgn f
theorem plc_bd (f w : Int) : -9223372036854775807 ≤ plc f w ∧ plc f w ≤ 9223372036854775807 := by
  have : 0 ≤ w % sgn f ∧ w % sgn f < sgn f := by rcases sgn_cases f with h | h <;> rw [h] <;> omega
  have hs := sgn_cases f
  unfold plc
  split <;> omega
theorem sz_lo {f w : Int} (h : Gd f w) : (w < sgn f ∧ w % sgn f = w) ∨ (sgn f ≤ w ∧ w % sgn f = w - sgn f) := by
  have hf := gd_f h
  unfold sgn
  rcases h with ⟨rfl, h0, h1⟩ | ⟨rfl, h0, h1⟩
  · simp only [if_true]; omega
  · simp only [show (¬ ((2 : Int) = 1)) by decide, if_false]; omega
theorem place_good (k : Nat) {f w : Int} (h : Gd f w) (hn : cl f w ≠ 5) : rank_place.f (k + 2) f w = some (plc f w) := by
  have hs := sgn_cases f
  have hz := sz_lo h
  have hp : 0 ≤ w % sgn f ∧ w % sgn f < sgn f := by rcases hs with h | h <;> rw [h] <;> omega
  unfold rank_place.f
  rw [abs_good k h]
  have e : absw f w = w % sgn f := by unfold absw; rw [if_neg hn]
  simp only [Option.bind_some, e]
  unfold plc
  have w1 : wrap64 (w % sgn f) = w % sgn f := by unfold wrap64; omega
  have w2 : wrap64 (-(w % sgn f)) = -(w % sgn f) := by unfold wrap64; omega
  by_cases c : w ≥ sgn f
  · rw [if_neg (by omega), if_pos c, w1, w2]
  · rw [if_pos (by omega), if_neg c, w1]
def cmpi (x y : Int) : Int := if x < y then -1 else if x > y then 1 else 0
theorem compare_i (x y : Int) : cmp_Compare_int64.f x y = some (cmpi x y) := by
  unfold cmp_Compare_int64.f cmp_isNaN_int64.f cmpi
  simp
  repeat' split
  all_goals rfl
theorem cmpi_bd (x y : Int) : (cmpi x y = -1 ∧ x < y) ∨ (cmpi x y = 1 ∧ y < x) ∨ (cmpi x y = 0 ∧ x = y) := by
  unfold cmpi
  by_cases h : x < y
  · simp [h]
  · by_cases g : x > y
    · simp [h, g] <;> omega
    · simp [h, g] <;> omega
def cmpf (f a b : Int) : Int := if cl f a = 5 ∨ cl f b = 5 then 4 else 2 + cmpi (plc f a) (plc f b)
theorem rank_Cmp_good (k : Nat) {f a b : Int} (ha : Gd f a) (hb : Gd f b) : rank_Cmp.f (k + 5) f a b = some (cmpf f a b, 0) := by
  have ho : rank_open.f (k + 5) f [a, b] = some 0 := by
    rw [open_list f [a, b] (by simp) (by simp [ha.u, hb.u]) (k + 5) (by simp <;> omega), errl_good (gd_f ha) (by simp [ha, hb])]
  unfold rank_Cmp.f cmpf
  rw [ho, isnan_good (k + 3) ha, isnan_good (k + 3) hb]
  simp only [Option.bind_some, if_true]
  by_cases ca : cl f a = 5
  · simp [ca, rank_Cmp.j0]
  · by_cases cb : cl f b = 5
    · simp [ca, cb, rank_Cmp.j0]
    · have := plc_bd f a
      have := plc_bd f b
      have e1 : (cl f a == 5) = false := by simp [ca]
      have e2 : (cl f b == 5) = false := by simp [cb]
      have p1 := place_good (k + 2) ha ca
      have p2 := place_good (k + 2) hb cb
      rw [e1, e2]
      simp only [ca, cb, or_self, if_false, Bool.false_eq_true, rank_Cmp.j0, p1, p2, Option.bind_some, compare_i]
      have := cmpi_bd (plc f a) (plc f b)
      rw [show (2 + cmpi (plc f a) (plc f b) % 256) % 256 = 2 + cmpi (plc f a) (plc f b) by omega]
/-- the total order -/
def tot (f a b : Int) : Int :=
  if cl f a = 5 then (if cl f b = 5 then 0 else 1) else if cl f b = 5 then -1 else
    if cmpi (plc f a) (plc f b) = 0 then cmpi b a else cmpi (plc f a) (plc f b)
theorem compare_u (x y : Int) : cmp_Compare_uint64.f x y = some (cmpi x y) := by
  unfold cmp_Compare_uint64.f cmp_isNaN_uint64.f cmpi
  simp
  repeat' split
  all_goals rfl
theorem rank_total_good (k : Nat) {f a b : Int} (ha : Gd f a) (hb : Gd f b) : rank_total.f (k + 3) f a b = some (tot f a b) := by
  unfold rank_total.f tot
  rw [isnan_good (k + 1) ha, isnan_good (k + 1) hb]
  simp only [Option.bind_some, rank_total.j0]
  by_cases ca : cl f a = 5
  · by_cases cb : cl f b = 5 <;> simp [ca, cb]
  · by_cases cb : cl f b = 5
    · simp [ca, cb]
    · simp [ca, cb, place_good k ha ca, place_good k hb cb, compare_i, compare_u]
      split <;> rfl
theorem rank_Total_good (k : Nat) {f a b : Int} (ha : Gd f a) (hb : Gd f b) : rank_Total.f (k + 5) f a b = some (tot f a b, 0) := by
  have ho : rank_open.f (k + 5) f [a, b] = some 0 := by
    rw [open_list f [a, b] (by simp) (by simp [ha.u, hb.u]) (k + 5) (by simp <;> omega), errl_good (gd_f ha) (by simp [ha, hb])]
  unfold rank_Total.f
  rw [ho, rank_total_good (k + 2) ha hb]
  simp
def stepsf (f a b : Int) : Int := if plc f a < plc f b then plc f b - plc f a else plc f a - plc f b
theorem rank_Steps_good (k : Nat) {f a b : Int} (ha : Gd f a) (hb : Gd f b) : rank_Steps.f (k + 5) f a b = some (if cl f a = 5 ∨ cl f b = 5 then (0, 7) else (stepsf f a b, 0)) := by
  have ho : rank_open.f (k + 5) f [a, b] = some 0 := by
    rw [open_list f [a, b] (by simp) (by simp [ha.u, hb.u]) (k + 5) (by simp <;> omega), errl_good (gd_f ha) (by simp [ha, hb])]
  unfold rank_Steps.f
  rw [ho, isnan_good (k + 3) ha, isnan_good (k + 3) hb]
  simp only [Option.bind_some, if_true]
  by_cases ca : cl f a = 5
  · simp [ca, rank_Steps.j0]
  · by_cases cb : cl f b = 5
    · simp [ca, cb, rank_Steps.j0]
    · have pa := plc_bd f a
      have pb := plc_bd f b
      have e1 : (cl f a == 5) = false := by simp [ca]
      have e2 : (cl f b == 5) = false := by simp [cb]
      rw [e1, e2]
      simp only [ca, cb, or_self, if_false, rank_Steps.j0, place_good (k + 2) ha ca, place_good (k + 2) hb cb, Option.bind_some, Bool.false_eq_true]
      congr 2
      unfold stepsf mx mn
      simp only [wrapu64]
      by_cases c : plc f a < plc f b
      · have d : ¬ plc f b < plc f a := by omega
        simp only [c, d, if_true, if_false]; omega
      · by_cases d : plc f b < plc f a
        · simp only [c, d, if_true, if_false]; omega
        · simp only [c, d, if_false]; omega
theorem known07 (k : Nat) : cutplanelaw07_known.f (k + 5) = some true := by
  unfold cutplanelaw07_known.f
  have h0 : Gd 1 0 := .inl ⟨rfl, by decide, by decide⟩
  have h1 : Gd 1 2147483648 := .inl ⟨rfl, by decide, by decide⟩
  have h2 : Gd 1 2147483649 := .inl ⟨rfl, by decide, by decide⟩
  have h3 : Gd 1 1 := .inl ⟨rfl, by decide, by decide⟩
  rw [rank_Cmp_good k h1 h0, rank_Total_good k h1 h0, rank_Steps_good k h2 h3]
  decide +kernel
end Go.Proofs.Ytnjdaoeebhbmfaa.PA
end

section
namespace Go.Proofs.Ytnjdaoeebhbmfaa.PA
open Go.RowKit Go.Proofs.YtnjdaoeebhbmfaaW.PrintWords Go.Proofs.YtnjdaoeebhbmfaaW.PrintLast Go.Proofs.YtnjdaoeebhbmfaaW.PrintMore Go.Proofs.Ytnjdaoeebhbmfaa.Wd
set_option linter.unusedSimpArgs false
set_option linter.unusedVariables false
theorem size_pos (f w : Int) : 0 ≤ w % sgn f ∧ w % sgn f < sgn f := by
  rcases sgn_cases f with h | h <;> rw [h] <;> omega
theorem cl5 (f w : Int) : cl f w = 5 ↔ infw f < w % sgn f := by
  have h := size_pos f w
  have hi := infw_lt f
  unfold cl cls
  repeat' split
  all_goals constructor <;> intro <;> first | omega | (exfalso; omega)
theorem cl4 (f w : Int) : cl f w = 4 ↔ w % sgn f = infw f := by
  have h := size_pos f w
  have hi := infw_lt f
  unfold cl cls
  repeat' split
  all_goals constructor <;> intro <;> first | omega | (exfalso; omega)
theorem cl1 (f w : Int) : cl f w = 1 ↔ w % sgn f = 0 := by
  have h := size_pos f w
  have hi := infw_lt f
  unfold cl cls
  repeat' split
  all_goals constructor <;> intro <;> first | omega | (exfalso; omega)
def upw (f w : Int) : Option Int := if cl f w = 5 then some (nanw f) else if w = infw f then none else if w % sgn f = 0 then some 1 else if w ≥ sgn f then some (w - 1) else some (w + 1)
/-- a word lies below twice the sign -/
theorem gd_lt {f w : Int} (h : Gd f w) : 0 ≤ w ∧ w < 2 * sgn f ∧ (f = 1 ∨ f = 2) := by
  unfold sgn
  rcases h with ⟨rfl, h0, h1⟩ | ⟨rfl, h0, h1⟩
  · exact ⟨h0, by simp only [if_true]; omega, .inl rfl⟩
  · exact ⟨h0, by simp only [show (¬ ((2 : Int) = 1)) by decide, if_false]; omega, .inr rfl⟩
theorem gd_mk {f w : Int} (hf : f = 1 ∨ f = 2) (h0 : 0 ≤ w) (h1 : w < 2 * sgn f) : Gd f w := by
  unfold sgn at h1
  rcases hf with rfl | rfl
  · exact .inl ⟨rfl, h0, by simpa using h1⟩
  · exact .inr ⟨rfl, h0, by simpa using h1⟩
theorem size_lo {f w : Int} (h : Gd f w) : (w < sgn f ∧ w % sgn f = w) ∨ (sgn f ≤ w ∧ w % sgn f = w - sgn f) := by
  have := gd_lt h
  rcases sgn_cases f with e | e <;> rw [e] at this ⊢ <;> omega
theorem ref_Up (k : Nat) {f w : Int} (h : Gd f w) : cutplaneref03_Up.f (k + 1) f w = some (match upw f w with | some u => (u, true) | none => (0, false)) := by
  have hg := gd_lt h
  have hs := sgn_cases f
  have hz := size_lo h
  have hi := infw_lt f
  unfold cutplaneref03_Up.f upw
  rw [ref_Class k f h.u, ref_Split f h.u, ref_None]
  simp only [Option.bind_some, cutplaneref03_Up.j0, wrapu64]
  by_cases c : cl f w = 5
  · rw [if_pos c, if_pos c]
  · rw [if_neg c, if_neg c]
    have c5 : w % sgn f ≤ infw f := by have := mt (cl5 f w).2 c; omega
    have ff : ¬ (false = true) := by decide
    have e1 : cl f w = 1 ↔ w % sgn f = 0 := cl1 f w
    by_cases d : w = infw f
    · have d4 : cl f w = 4 := (cl4 f w).2 (by omega)
      rw [if_pos d, if_pos d4, if_neg (by simp; omega)]
      rfl
    · have key : ∀ t t' : Option (Int × Bool), t = t' → (if cl f w = 4 then (if decide (w ≥ sgn f) = true then (if false = true then some (0, false) else t) else if True then some (0, false) else t) else if false = true then some (0, false) else t) = t' := by
        intro t t' ht
        subst ht
        by_cases z : cl f w = 4
        · have := (cl4 f w).1 z
          rw [if_pos z, if_pos (by simp; omega), if_neg ff]
        · rw [if_neg z, if_neg ff]
      refine key _ _ ?_
      rw [if_neg d]
      by_cases e : w % sgn f = 0
      · rw [if_pos (e1.2 e), if_pos e]
      · rw [if_neg (fun z => e (e1.1 z)), if_neg e]
        by_cases g : w ≥ sgn f
        · rw [if_pos (by simp [g]), if_pos g, Int.emod_eq_of_lt (by omega) (by omega)]
        · rw [if_neg (by simp [g]), if_neg g, Int.emod_eq_of_lt (by omega) (by omega)]
end Go.Proofs.Ytnjdaoeebhbmfaa.PA
end

section
namespace Go.Proofs.Ytnjdaoeebhbmfaa.PA
open Go.RowKit Go.Proofs.YtnjdaoeebhbmfaaW.PrintWords Go.Proofs.YtnjdaoeebhbmfaaW.PrintLast Go.Proofs.YtnjdaoeebhbmfaaW.PrintMore Go.Proofs.Ytnjdaoeebhbmfaa.Wd
set_option linter.unusedSimpArgs false
set_option linter.unusedVariables false
/-- a number for each word, by which the total order goes -/
def key (f w : Int) : Int := if cl f w = 5 then 36893488147419103232 else 2 * plc f w + (if w = 0 then 1 else 0)
theorem plc_cases {f w : Int} (h : Gd f w) : (w < sgn f ∧ plc f w = w) ∨ (sgn f ≤ w ∧ plc f w = sgn f - w) := by
  unfold plc
  rcases sz_lo h with ⟨a, b⟩ | ⟨a, b⟩
  · left; rw [if_neg (by omega)]; omega
  · right; rw [if_pos (by omega)]; omega
def mvw (f p n : Int) : Option Int := if (0 < n ∧ infw f - n < p) ∨ (n < 0 ∧ p < -infw f - n) then none else some (if p + n < 0 then sgn f - (p + n) else p + n)
theorem plc_inf {f w : Int} (h : Gd f w) (hn : cl f w ≠ 5) : -infw f ≤ plc f w ∧ plc f w ≤ infw f := by
  have c5 : w % sgn f ≤ infw f := by have := mt (cl5 f w).2 hn; omega
  have h0 := size_pos f w
  unfold plc
  split <;> omega
theorem move_good (k : Nat) {f w n : Int} (h : Gd f w) (b0 : -9223372036854775808 ≤ n) (b1 : n ≤ 9223372036854775807) :
    rank_Move.f (k + 5) f w n = some (if cl f w = 5 then ((0 : Int), (7 : Int)) else if n = 0 then (w, 0) else match mvw f (plc f w) n with | some v => (v, 0) | none => (0, 20)) := by
  have ho : rank_open.f (k + 5) f [w] = some 0 := by
    rw [open_list f [w] (by simp) (by simp [h.u]) (k + 5) (by simp <;> omega), errl_good (gd_f h) (by simp [h])]
  have hf := gd_f h
  unfold rank_Move.f
  rw [ho, isnan_good (k + 3) h]
  by_cases ca : cl f w = 5
  · simp [ca]
  · have hp := plc_inf h ca
    have hi := infw_lt f
    have hs := sgn_cases f
    have hb : (cl f w == 5) = false := by simp [ca]
    rw [place_good (k + 3) h ca, show k + 5 = (k + 4) + 1 from rfl, inf_good (k + 4) hf false, hb]
    simp only [Option.bind_some, if_true, Bool.false_eq_true, if_false, ca]
    have w1 : wrap64 (infw f) = infw f := by unfold wrap64; omega
    have w2 : wrap64 (-infw f) = -infw f := by unfold wrap64; omega
    rw [w1, w2]
    by_cases c0 : n = 0
    · rw [if_pos c0, if_pos c0]
    · rw [if_neg c0, if_neg c0]
      unfold mvw
      have key : ∀ x : Bool, ((plc f w) + n < -infw f ∨ infw f < plc f w + n ↔ x = true) → rank_Move.j0 (k + 4 + 1) f n (plc f w) x = some (match (if (0 < n ∧ infw f - n < plc f w) ∨ (n < 0 ∧ plc f w < -infw f - n) then none else some (if plc f w + n < 0 then sgn f - (plc f w + n) else plc f w + n)) with | some v => (v, 0) | none => (0, 20)) := by
        intro x hx
        cases x
        · have hc : ¬ ((plc f w) + n < -infw f ∨ infw f < plc f w + n) := by rw [hx]; decide
          rw [if_neg (by omega)]
          have w3 : wrap64 (plc f w + n) = plc f w + n := by unfold wrap64; omega
          have w4 : wrap64 (-(plc f w + n)) = -(plc f w + n) := by unfold wrap64; omega
          simp only [rank_Move.j0, Bool.false_eq_true, if_false, w3, w4, wrapu64]
          by_cases c : plc f w + n < 0
          · have g : Gd f (-(plc f w + n)) := gd_mk hf (by omega) (by omega)
            rw [if_pos c, if_pos c, Int.emod_eq_of_lt (by omega) (by omega), show k + 4 = (k + 2) + 2 from rfl, neg_good (k + 2) g]
            have z : cl f (-(plc f w + n)) ≠ 5 := by
              intro z
              have z5 := (cl5 f _).1 z
              have zs := sz_lo g
              omega
            have e : negw f (-(plc f w + n)) = sgn f - (plc f w + n) := by
              unfold negw flipw
              rw [if_neg z, if_neg (by omega)]; omega
            rw [e]; rfl
          · rw [if_neg c, if_neg c, Int.emod_eq_of_lt (by omega) (by omega)]
        · have hc : ((plc f w) + n < -infw f ∨ infw f < plc f w + n) := by rw [hx]
          rw [if_pos (by omega)]
          simp only [rank_Move.j0, if_true]
      by_cases c1 : n > 0
      · have w5 : wrap64 (infw f - n) = infw f - n := by unfold wrap64; omega
        rw [if_pos c1, w5]
        by_cases c2 : plc f w > infw f - n
        · rw [if_pos c2]; exact key true (by simp; omega)
        · rw [if_neg c2, if_neg (by omega)]; exact key false (by simp; omega)
      · have w6 : wrap64 (-infw f - n) = -infw f - n := by unfold wrap64; omega
        rw [if_neg c1, if_pos (by omega), w6]
        exact key _ (by simp; omega)
end Go.Proofs.Ytnjdaoeebhbmfaa.PA
end

section
namespace Go.Proofs.Ytnjdaoeebhbmfaa.Pure
open Go.RowKit Go.Proofs.Ytnjdaoeebhbmfaa.PA Go.Proofs.YtnjdaoeebhbmfaaW.PrintWords Go.Proofs.YtnjdaoeebhbmfaaW.PrintLast Go.Proofs.Ytnjdaoeebhbmfaa.Wd
set_option linter.unusedSimpArgs false
set_option linter.unusedVariables false
/-- where the walk stands after i steps -/
def At (f w at_ i : Int) : Prop := Gd f at_ ∧ cl f at_ ≠ 5 ∧ plc f at_ = plc f w + i ∧ (i = 0 → at_ = w) ∧ (i ≠ 0 → at_ ≠ sgn f)
theorem at_move {f w v i : Int} (h : Gd f w) (hn : cl f w ≠ 5) (hv : Gd f v) (cv : cl f v ≠ 5) (e : plc f v = plc f w + i) (hi : i ≠ 0) :
    mvw f (plc f w) i = some (if v = sgn f then 0 else v) := by
  have hp := plc_inf h hn
  have hq := plc_inf hv cv
  have hf := infw_lt f
  have pv := plc_cases hv
  have hs := sgn_cases f
  have g := gd_lt hv
  unfold mvw
  rw [if_neg (by omega)]
  by_cases c : v = sgn f
  · rw [if_pos c, if_neg (by omega)]
    exact congrArg some (by omega)
  · rw [if_neg c]
    by_cases d : plc f w + i < 0
    · rw [if_pos d]; exact congrArg some (by omega)
    · rw [if_neg d]; exact congrArg some (by omega)
theorem facts (k : Nat) {f w v i : Int} (h : Gd f w) (hn : cl f w ≠ 5) (a : At f w v i) (i0 : 0 ≤ i) (i1 : i ≤ 300) :
    rank_Steps.f (k + 5) f w v = some (i, 0) ∧ rank_Steps.f (k + 5) f v w = some (i, 0) ∧ rank_Move.f (k + 5) f w i = some (v, 0) ∧ rank_Move.f (k + 5) f v (wrap64 (-i)) = some (if w = sgn f ∧ i > 0 then 0 else w, 0) ∧ IntKind.u64.wrap i = i := by
  obtain ⟨gv, cv, pv, a0, a1⟩ := a
  have wi : wrap64 (-i) = -i := by unfold wrap64; omega
  have ui : IntKind.u64.wrap i = i := by rw [wrapu64]; omega
  have s1 : stepsf f w v = i := by unfold stepsf; split <;> omega
  have s2 : stepsf f v w = i := by unfold stepsf; split <;> omega
  rw [rank_Steps_good k h gv, rank_Steps_good k gv h, move_good k h (by omega) (by omega), wi, move_good k gv (by omega) (by omega), s1, s2]
  simp only [hn, cv, or_self, if_false]
  refine ⟨trivial, trivial, ?_, ?_, ui⟩
  · by_cases c : i = 0
    · rw [if_pos c, a0 c]
    · rw [if_neg c, at_move h hn gv cv pv c, if_neg (a1 c)]
  · by_cases c : i = 0
    · rw [if_pos (by omega), if_neg (by omega), a0 c]
    · rw [if_neg (by omega), at_move gv cv h hn (i := -i) (by omega) (by omega)]
      by_cases d : w = sgn f
      · rw [if_pos d, if_pos ⟨d, by omega⟩]
      · rw [if_neg d, if_neg (fun z => d z.1)]
theorem step {f w v i : Int} (a : At f w v i) (hv : v ≠ infw f) (i0 : 0 ≤ i) :
    ∃ u, upw f v = some u ∧ At f w (if u = sgn f then 0 else u) (i + 1) := by
  obtain ⟨gv, cv, pv, _, _⟩ := a
  have c5 : v % sgn f ≤ infw f := by have := mt (cl5 f v).2 cv; omega
  have hs := sgn_cases f
  have hz := sz_lo gv
  have hf := infw_lt f
  have g := gd_lt gv
  have pc := plc_cases gv
  have fin : ∀ u : Int, 0 ≤ u → u < 2 * sgn f → u ≠ sgn f → ((u < sgn f ∧ u ≤ infw f ∧ u = plc f v + 1) ∨ (sgn f < u ∧ u - sgn f ≤ infw f ∧ sgn f - u = plc f v + 1)) → At f w u (i + 1) := by
    intro u h0 h1 h2 h3
    have gu : Gd f u := gd_mk g.2.2 h0 h1
    have pu := plc_cases gu
    have zu := sz_lo gu
    refine ⟨gu, ?_, by omega, by omega, fun _ => h2⟩
    intro z
    have z5 := (cl5 f u).1 z
    omega
  unfold upw
  rw [if_neg cv, if_neg hv]
  by_cases e : v % sgn f = 0
  · rw [if_pos e]
    refine ⟨1, rfl, ?_⟩
    rw [if_neg (by omega)]
    exact fin 1 (by omega) (by omega) (by omega) (by omega)
  · rw [if_neg e]
    by_cases c : v ≥ sgn f
    · rw [if_pos c]
      refine ⟨_, rfl, ?_⟩
      by_cases d : v - 1 = sgn f
      · rw [if_pos d]
        have g0 : Gd f 0 := gd_mk g.2.2 (by omega) (by omega)
        have p0 := plc_cases g0
        have z0 := sz_lo g0
        refine ⟨g0, ?_, by omega, by omega, by omega⟩
        intro z
        have z5 := (cl5 f 0).1 z
        omega
      · rw [if_neg d]
        exact fin _ (by omega) (by omega) (by omega) (by omega)
    · rw [if_neg c]
      refine ⟨_, rfl, ?_⟩
      rw [if_neg (by omega)]
      exact fin _ (by omega) (by omega) (by omega) (by omega)
theorem walk_loop {f w n : Int} (h : Gd f w) (hn : cl f w ≠ 5) (n0 : 0 ≤ n) (n1 : n ≤ 300) (d : Nat) : ∀ (k : Nat) (v i : Int), At f w v i → 0 ≤ i → i ≤ n → (n - i).toNat = d → d + 5 < k →
    cutplanelaw07_RankWalk.l0 k f w n v i = some true := by
  induction d with
  | zero =>
    intro k v i a i0 i1 hd hk
    obtain ⟨k, rfl⟩ : ∃ m, k = m + 5 + 1 := ⟨k - 6, by omega⟩
    obtain ⟨f1, f2, f3, f4, f5⟩ := facts k h hn a i0 (by omega)
    rw [cutplanelaw07_RankWalk.l0, if_neg (by omega), f1, f2, f3]
    simp only [Option.bind_some, f4, f5, ref_Sign, known07 k, if_true]
    by_cases c : w = sgn f
    · by_cases e : i > 0
      · simp [c, e]
      · simp [c, e]
    · simp [c]
  | succ d ih =>
    intro k v i a i0 i1 hd hk
    obtain ⟨k, rfl⟩ : ∃ m, k = m + 5 + 1 := ⟨k - 6, by omega⟩
    rw [cutplanelaw07_RankWalk.l0, if_pos (by omega), ref_Inf]
    simp only [Option.bind_some, Bool.false_eq_true, if_false]
    by_cases hv : v = infw f
    · obtain ⟨f1, f2, f3, f4, f5⟩ := facts k h hn a i0 (by omega)
      rw [if_pos hv, f1, f2, f3]
      simp only [Option.bind_some, f4, f5, ref_Sign, known07 k, if_true]
      by_cases c : w = sgn f
      · by_cases e : i > 0
        · simp [c, e]
        · simp [c, e]
      · simp [c]
    · obtain ⟨u, hu, au⟩ := step a hv i0
      have w1 : wrap64 (i + 1) = i + 1 := by unfold wrap64; omega
      rw [if_neg hv, show k + 5 = (k + 4) + 1 from rfl, ref_Up (k + 4) a.1, hu]
      simp only [Option.bind_some, ref_Sign, w1]
      have key := ih (k + 4 + 1) _ _ au (by omega) (by omega) (by omega) (by omega)
      by_cases c : u = sgn f
      · rw [if_pos c] at key ⊢; exact key
      · rw [if_neg c] at key ⊢; exact key
theorem RankWalk : cutplanelaw07_RankWalk.Pure := by
  intro f w n _ hw hn
  have uw := u_of hw
  refine ⟨310, ?_⟩
  unfold cutplanelaw07_RankWalk.f
  rw [ref_Opens f [w] (by simp) 310 (by simp), ref_Class 309 f uw]
  simp only [Option.bind_some, known07 305]
  by_cases he : errl f [w] = 0
  · have g := (errl_zero he (by simp [uw])).2 w (by simp)
    rw [if_pos he]
    by_cases c0 : n < 0
    · rw [if_pos c0]
    · rw [if_neg c0]
      by_cases c1 : n > 300
      · rw [if_pos c1]
      · rw [if_neg c1]
        by_cases c : cl f w = 5
        · rw [if_pos c]
        · rw [if_neg c]
          exact walk_loop g c (by omega) (by omega) _ 310 w 0 ⟨g, c, by omega, fun _ => rfl, fun z => absurd rfl z⟩ (by omega) (by omega) rfl (by omega)
  · rw [if_neg he]
end Go.Proofs.Ytnjdaoeebhbmfaa.Pure
end
