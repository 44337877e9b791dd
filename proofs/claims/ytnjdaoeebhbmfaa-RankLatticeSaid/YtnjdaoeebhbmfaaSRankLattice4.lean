/- Steps of Go functions that the law RankLattice uses, told as plain Lean functions, each with the proof that its call comes to what it tells; words on memory; plain facts. No condition beyond those that each text names. -/
import Derived.Test.YtnjdaoeebhbmfaaProg
import Derived.Below
import Derived.Deep.Draws
import Derived.Deep.AppendLies
import Derived.Maps.AppendAt
import Derived.OwnWalk
import Derived.Laws.BytesArg
import Derived.Laws.MakeOwn
import Derived.Laws.OwnMore
import Derived.Deep.OwnRows
import Derived.Tactics
import Derived.Lib.ConvBytes
import Derived.Laws.Slices
import Derived.WalkKit
import Derived.KernelRfl
import Derived.RowKit3
import Derived.Deep.LoopGhost
import Derived.Deep.QuietTactic
import Derived.BigQuiet
import Derived.WideLaws
import Derived.Deep.DeepCutAuto
import Derived.Deep.CutBlock
import Derived.Deep.RegionHeld3
import Derived.Laws.Rows
import Derived.Lib.AppendStr
import Derived.ArgAppend
import Derived.Laws.IdiomCopy
import Derived.OrdersHeld
import Derived.Laws.BitsLemmas
import Derived.RowKit
import Derived.Laws.StructEq
import Derived.Laws.BitsAllLaws
import Derived.OpenShut
import Derived.Test.YtnjdaoeebhbmfaaSRankLattice0
import Derived.Test.YtnjdaoeebhbmfaaSRankLattice1
import Derived.Test.YtnjdaoeebhbmfaaSRankLattice2
import Derived.Test.YtnjdaoeebhbmfaaSRankLattice3
section
namespace Go.Proofs.Ytnjdaoeebhbmfaa.PA
open Go.RowKit Go.Proofs.YtnjdaoeebhbmfaaW.PrintWords Go.Proofs.YtnjdaoeebhbmfaaW.PrintLast Go.Proofs.YtnjdaoeebhbmfaaW.PrintMore
attribute [local go_sem] max2_int min2_int max_two min_two max_three min_three max_four min_four   -- for this text's walks alone
set_option linter.unusedVariables false
set_option linter.unusedSimpArgs false
def cutplanelaw07_RankLattice.f (k : Nat) (a0 : Int) (a1 : Int) (a2 : Int) (a3 : Int) : Option (Bool) := (cutplaneref07_Opens.f k a0 (([a1, a2, a3] : List Int))).bind fun t512 => (if t512 = 0 then ((cutplaneref03_Class.f k a0 a1).bind fun t513 => (if t513 = 5 then ((cutplanelaw07_known.f k).bind fun t514 => (some t514)) else ((cutplaneref03_Class.f k a0 a2).bind fun t515 => (if t515 = 5 then ((cutplanelaw07_known.f k).bind fun t516 => (some t516)) else ((cutplaneref03_Class.f k a0 a3).bind fun t517 => (if t517 = 5 then ((cutplanelaw07_known.f k).bind fun t518 => (some t518)) else ((rank_Min.f k a0 a1 a2).bind fun bt519 => ((rank_Max.f k a0 a1 a2).bind fun bt521 => ((rank_Min.f k a0 a2 a1).bind fun bt523 => ((rank_Max.f k a0 a2 a1).bind fun bt525 => ((rank_Total.f k a0 bt519.1 bt521.1).bind fun bt527 => (if bt519.2 = 0 then (if bt521.2 = 0 then (if bt523.2 = 0 then (if bt525.2 = 0 then (if bt527.2 = 0 then (if bt519.1 = bt523.1 then (if bt521.1 = bt525.1 then (if bt527.1 > 0 then (none) else (if bt519.1 = a1 then (if bt521.1 = a2 then ((rank_Min.f k a0 bt519.1 a3).bind fun bt529 => ((rank_Min.f k a0 a2 a3).bind fun bt531 => ((rank_Min.f k a0 a1 bt531.1).bind fun bt533 => ((rank_Max.f k a0 a1 bt519.1).bind fun bt535 => (if bt529.2 = 0 then (if bt531.2 = 0 then (if bt533.2 = 0 then (if bt535.2 = 0 then (if bt529.1 = bt533.1 then (if bt535.1 = a1 then ((cutplanelaw07_known.f k).bind fun t537 => (some t537)) else (none)) else (none)) else (none)) else (none)) else (none)) else (none)))))) else (if bt519.1 = a2 then (if bt521.1 = a1 then ((rank_Min.f k a0 bt519.1 a3).bind fun bt538 => ((rank_Min.f k a0 a2 a3).bind fun bt540 => ((rank_Min.f k a0 a1 bt540.1).bind fun bt542 => ((rank_Max.f k a0 a1 bt519.1).bind fun bt544 => (if bt538.2 = 0 then (if bt540.2 = 0 then (if bt542.2 = 0 then (if bt544.2 = 0 then (if bt538.1 = bt542.1 then (if bt544.1 = a1 then ((cutplanelaw07_known.f k).bind fun t546 => (some t546)) else (none)) else (none)) else (none)) else (none)) else (none)) else (none)))))) else (none)) else (none))) else (if bt519.1 = a2 then (if bt521.1 = a1 then ((rank_Min.f k a0 bt519.1 a3).bind fun bt547 => ((rank_Min.f k a0 a2 a3).bind fun bt549 => ((rank_Min.f k a0 a1 bt549.1).bind fun bt551 => ((rank_Max.f k a0 a1 bt519.1).bind fun bt553 => (if bt547.2 = 0 then (if bt549.2 = 0 then (if bt551.2 = 0 then (if bt553.2 = 0 then (if bt547.1 = bt551.1 then (if bt553.1 = a1 then ((cutplanelaw07_known.f k).bind fun t555 => (some t555)) else (none)) else (none)) else (none)) else (none)) else (none)) else (none)))))) else (none)) else (none)))) else (none)) else (none)) else (none)) else (none)) else (none)) else (none)) else (none))))))))))))) else ((cutplanelaw07_known.f k).bind fun t556 => (some t556)))
set_option maxHeartbeats 2000000 in
set_option maxRecDepth 100000 in
theorem cutplanelaw07_RankLattice.calls (k : Nat) (a0 : Int) (a1 : Int) (a2 : Int) (a3 : Int) (r : Bool) (w : World) (h : cutplanelaw07_RankLattice.f k a0 a1 a2 a3 = some r) :
    Calls Try.prog 6 #[.int .u8 a0, .int .u64 a1, .int .u64 a2, .int .u64 a3] w fun e w' => e = .returned (.bool r) ∧ Below w.heap.size w w' := by
  have HB := Aside0.mk (Below.refl w.heap.size w)
  have H : ((cutplaneref07_Opens.f k a0 (([a1, a2, a3] : List Int))).bind fun t512 => (if t512 = 0 then ((cutplaneref03_Class.f k a0 a1).bind fun t513 => (if t513 = 5 then ((cutplanelaw07_known.f k).bind fun t514 => (some t514)) else ((cutplaneref03_Class.f k a0 a2).bind fun t515 => (if t515 = 5 then ((cutplanelaw07_known.f k).bind fun t516 => (some t516)) else ((cutplaneref03_Class.f k a0 a3).bind fun t517 => (if t517 = 5 then ((cutplanelaw07_known.f k).bind fun t518 => (some t518)) else ((rank_Min.f k a0 a1 a2).bind fun bt519 => ((rank_Max.f k a0 a1 a2).bind fun bt521 => ((rank_Min.f k a0 a2 a1).bind fun bt523 => ((rank_Max.f k a0 a2 a1).bind fun bt525 => ((rank_Total.f k a0 bt519.1 bt521.1).bind fun bt527 => (if bt519.2 = 0 then (if bt521.2 = 0 then (if bt523.2 = 0 then (if bt525.2 = 0 then (if bt527.2 = 0 then (if bt519.1 = bt523.1 then (if bt521.1 = bt525.1 then (if bt527.1 > 0 then (none) else (if bt519.1 = a1 then (if bt521.1 = a2 then ((rank_Min.f k a0 bt519.1 a3).bind fun bt529 => ((rank_Min.f k a0 a2 a3).bind fun bt531 => ((rank_Min.f k a0 a1 bt531.1).bind fun bt533 => ((rank_Max.f k a0 a1 bt519.1).bind fun bt535 => (if bt529.2 = 0 then (if bt531.2 = 0 then (if bt533.2 = 0 then (if bt535.2 = 0 then (if bt529.1 = bt533.1 then (if bt535.1 = a1 then ((cutplanelaw07_known.f k).bind fun t537 => (some t537)) else (none)) else (none)) else (none)) else (none)) else (none)) else (none)))))) else (if bt519.1 = a2 then (if bt521.1 = a1 then ((rank_Min.f k a0 bt519.1 a3).bind fun bt538 => ((rank_Min.f k a0 a2 a3).bind fun bt540 => ((rank_Min.f k a0 a1 bt540.1).bind fun bt542 => ((rank_Max.f k a0 a1 bt519.1).bind fun bt544 => (if bt538.2 = 0 then (if bt540.2 = 0 then (if bt542.2 = 0 then (if bt544.2 = 0 then (if bt538.1 = bt542.1 then (if bt544.1 = a1 then ((cutplanelaw07_known.f k).bind fun t546 => (some t546)) else (none)) else (none)) else (none)) else (none)) else (none)) else (none)))))) else (none)) else (none))) else (if bt519.1 = a2 then (if bt521.1 = a1 then ((rank_Min.f k a0 bt519.1 a3).bind fun bt547 => ((rank_Min.f k a0 a2 a3).bind fun bt549 => ((rank_Min.f k a0 a1 bt549.1).bind fun bt551 => ((rank_Max.f k a0 a1 bt519.1).bind fun bt553 => (if bt547.2 = 0 then (if bt549.2 = 0 then (if bt551.2 = 0 then (if bt553.2 = 0 then (if bt547.1 = bt551.1 then (if bt553.1 = a1 then ((cutplanelaw07_known.f k).bind fun t555 => (some t555)) else (none)) else (none)) else (none)) else (none)) else (none)) else (none)))))) else (none)) else (none)))) else (none)) else (none)) else (none)) else (none)) else (none)) else (none)) else (none))))))))))))) else ((cutplanelaw07_known.f k).bind fun t556 => (some t556)))) = some r := h
  clear h
  obtain ⟨y509, hy509⟩ : ∃ y_ : List Int, y_ = (([a1, a2, a3] : List Int)) := ⟨_, rfl⟩
  replace H : ((cutplaneref07_Opens.f k a0 y509).bind fun t512 => (if t512 = 0 then ((cutplaneref03_Class.f k a0 a1).bind fun t513 => (if t513 = 5 then ((cutplanelaw07_known.f k).bind fun t514 => (some t514)) else ((cutplaneref03_Class.f k a0 a2).bind fun t515 => (if t515 = 5 then ((cutplanelaw07_known.f k).bind fun t516 => (some t516)) else ((cutplaneref03_Class.f k a0 a3).bind fun t517 => (if t517 = 5 then ((cutplanelaw07_known.f k).bind fun t518 => (some t518)) else ((rank_Min.f k a0 a1 a2).bind fun bt519 => ((rank_Max.f k a0 a1 a2).bind fun bt521 => ((rank_Min.f k a0 a2 a1).bind fun bt523 => ((rank_Max.f k a0 a2 a1).bind fun bt525 => ((rank_Total.f k a0 bt519.1 bt521.1).bind fun bt527 => (if bt519.2 = 0 then (if bt521.2 = 0 then (if bt523.2 = 0 then (if bt525.2 = 0 then (if bt527.2 = 0 then (if bt519.1 = bt523.1 then (if bt521.1 = bt525.1 then (if bt527.1 > 0 then (none) else (if bt519.1 = a1 then (if bt521.1 = a2 then ((rank_Min.f k a0 bt519.1 a3).bind fun bt529 => ((rank_Min.f k a0 a2 a3).bind fun bt531 => ((rank_Min.f k a0 a1 bt531.1).bind fun bt533 => ((rank_Max.f k a0 a1 bt519.1).bind fun bt535 => (if bt529.2 = 0 then (if bt531.2 = 0 then (if bt533.2 = 0 then (if bt535.2 = 0 then (if bt529.1 = bt533.1 then (if bt535.1 = a1 then ((cutplanelaw07_known.f k).bind fun t537 => (some t537)) else (none)) else (none)) else (none)) else (none)) else (none)) else (none)))))) else (if bt519.1 = a2 then (if bt521.1 = a1 then ((rank_Min.f k a0 bt519.1 a3).bind fun bt538 => ((rank_Min.f k a0 a2 a3).bind fun bt540 => ((rank_Min.f k a0 a1 bt540.1).bind fun bt542 => ((rank_Max.f k a0 a1 bt519.1).bind fun bt544 => (if bt538.2 = 0 then (if bt540.2 = 0 then (if bt542.2 = 0 then (if bt544.2 = 0 then (if bt538.1 = bt542.1 then (if bt544.1 = a1 then ((cutplanelaw07_known.f k).bind fun t546 => (some t546)) else (none)) else (none)) else (none)) else (none)) else (none)) else (none)))))) else (none)) else (none))) else (if bt519.1 = a2 then (if bt521.1 = a1 then ((rank_Min.f k a0 bt519.1 a3).bind fun bt547 => ((rank_Min.f k a0 a2 a3).bind fun bt549 => ((rank_Min.f k a0 a1 bt549.1).bind fun bt551 => ((rank_Max.f k a0 a1 bt519.1).bind fun bt553 => (if bt547.2 = 0 then (if bt549.2 = 0 then (if bt551.2 = 0 then (if bt553.2 = 0 then (if bt547.1 = bt551.1 then (if bt553.1 = a1 then ((cutplanelaw07_known.f k).bind fun t555 => (some t555)) else (none)) else (none)) else (none)) else (none)) else (none)) else (none)))))) else (none)) else (none)))) else (none)) else (none)) else (none)) else (none)) else (none)) else (none)) else (none))))))))))))) else ((cutplanelaw07_known.f k).bind fun t556 => (some t556)))) = some r := by first | (rw [hy509]; with_reducible exact H) | (have H2_ := (Option.bind_some _ _).symm.trans H; rw [hy509]; with_reducible exact H2_) | (have H2_ := (Option.bind_some _ _).symm.trans H; with_reducible exact H2_) | with_reducible exact H | (rw [hy509]; exact H) | exact H
  have Ny509 := Aside0.mk hy509
  clear hy509
  replace H := Option.bind_eq_some_iff.mp H
  obtain ⟨t512, A50, H⟩ := H
  replace H : (if t512 = 0 then ((cutplaneref03_Class.f k a0 a1).bind fun t513 => (if t513 = 5 then ((cutplanelaw07_known.f k).bind fun t514 => (some t514)) else ((cutplaneref03_Class.f k a0 a2).bind fun t515 => (if t515 = 5 then ((cutplanelaw07_known.f k).bind fun t516 => (some t516)) else ((cutplaneref03_Class.f k a0 a3).bind fun t517 => (if t517 = 5 then ((cutplanelaw07_known.f k).bind fun t518 => (some t518)) else ((rank_Min.f k a0 a1 a2).bind fun bt519 => ((rank_Max.f k a0 a1 a2).bind fun bt521 => ((rank_Min.f k a0 a2 a1).bind fun bt523 => ((rank_Max.f k a0 a2 a1).bind fun bt525 => ((rank_Total.f k a0 bt519.1 bt521.1).bind fun bt527 => (if bt519.2 = 0 then (if bt521.2 = 0 then (if bt523.2 = 0 then (if bt525.2 = 0 then (if bt527.2 = 0 then (if bt519.1 = bt523.1 then (if bt521.1 = bt525.1 then (if bt527.1 > 0 then (none) else (if bt519.1 = a1 then (if bt521.1 = a2 then ((rank_Min.f k a0 bt519.1 a3).bind fun bt529 => ((rank_Min.f k a0 a2 a3).bind fun bt531 => ((rank_Min.f k a0 a1 bt531.1).bind fun bt533 => ((rank_Max.f k a0 a1 bt519.1).bind fun bt535 => (if bt529.2 = 0 then (if bt531.2 = 0 then (if bt533.2 = 0 then (if bt535.2 = 0 then (if bt529.1 = bt533.1 then (if bt535.1 = a1 then ((cutplanelaw07_known.f k).bind fun t537 => (some t537)) else (none)) else (none)) else (none)) else (none)) else (none)) else (none)))))) else (if bt519.1 = a2 then (if bt521.1 = a1 then ((rank_Min.f k a0 bt519.1 a3).bind fun bt538 => ((rank_Min.f k a0 a2 a3).bind fun bt540 => ((rank_Min.f k a0 a1 bt540.1).bind fun bt542 => ((rank_Max.f k a0 a1 bt519.1).bind fun bt544 => (if bt538.2 = 0 then (if bt540.2 = 0 then (if bt542.2 = 0 then (if bt544.2 = 0 then (if bt538.1 = bt542.1 then (if bt544.1 = a1 then ((cutplanelaw07_known.f k).bind fun t546 => (some t546)) else (none)) else (none)) else (none)) else (none)) else (none)) else (none)))))) else (none)) else (none))) else (if bt519.1 = a2 then (if bt521.1 = a1 then ((rank_Min.f k a0 bt519.1 a3).bind fun bt547 => ((rank_Min.f k a0 a2 a3).bind fun bt549 => ((rank_Min.f k a0 a1 bt549.1).bind fun bt551 => ((rank_Max.f k a0 a1 bt519.1).bind fun bt553 => (if bt547.2 = 0 then (if bt549.2 = 0 then (if bt551.2 = 0 then (if bt553.2 = 0 then (if bt547.1 = bt551.1 then (if bt553.1 = a1 then ((cutplanelaw07_known.f k).bind fun t555 => (some t555)) else (none)) else (none)) else (none)) else (none)) else (none)) else (none)))))) else (none)) else (none)))) else (none)) else (none)) else (none)) else (none)) else (none)) else (none)) else (none))))))))))))) else ((cutplanelaw07_known.f k).bind fun t556 => (some t556))) = some r := H
  have A5 := Aside0.mk A50
  clear A50
  by_cases c6 : t512 = 0
  · rw [if_pos c6] at H
    have c6b0 : (t512 == 0) = true := beq_iff_eq.mpr c6
    have c6b1 : (t512 != 0) = false := bne_eq_false_iff_eq.mpr c6
    clear c6
    replace H := Option.bind_eq_some_iff.mp H
    obtain ⟨t513, A70, H⟩ := H
    replace H : (if t513 = 5 then ((cutplanelaw07_known.f k).bind fun t514 => (some t514)) else ((cutplaneref03_Class.f k a0 a2).bind fun t515 => (if t515 = 5 then ((cutplanelaw07_known.f k).bind fun t516 => (some t516)) else ((cutplaneref03_Class.f k a0 a3).bind fun t517 => (if t517 = 5 then ((cutplanelaw07_known.f k).bind fun t518 => (some t518)) else ((rank_Min.f k a0 a1 a2).bind fun bt519 => ((rank_Max.f k a0 a1 a2).bind fun bt521 => ((rank_Min.f k a0 a2 a1).bind fun bt523 => ((rank_Max.f k a0 a2 a1).bind fun bt525 => ((rank_Total.f k a0 bt519.1 bt521.1).bind fun bt527 => (if bt519.2 = 0 then (if bt521.2 = 0 then (if bt523.2 = 0 then (if bt525.2 = 0 then (if bt527.2 = 0 then (if bt519.1 = bt523.1 then (if bt521.1 = bt525.1 then (if bt527.1 > 0 then (none) else (if bt519.1 = a1 then (if bt521.1 = a2 then ((rank_Min.f k a0 bt519.1 a3).bind fun bt529 => ((rank_Min.f k a0 a2 a3).bind fun bt531 => ((rank_Min.f k a0 a1 bt531.1).bind fun bt533 => ((rank_Max.f k a0 a1 bt519.1).bind fun bt535 => (if bt529.2 = 0 then (if bt531.2 = 0 then (if bt533.2 = 0 then (if bt535.2 = 0 then (if bt529.1 = bt533.1 then (if bt535.1 = a1 then ((cutplanelaw07_known.f k).bind fun t537 => (some t537)) else (none)) else (none)) else (none)) else (none)) else (none)) else (none)))))) else (if bt519.1 = a2 then (if bt521.1 = a1 then ((rank_Min.f k a0 bt519.1 a3).bind fun bt538 => ((rank_Min.f k a0 a2 a3).bind fun bt540 => ((rank_Min.f k a0 a1 bt540.1).bind fun bt542 => ((rank_Max.f k a0 a1 bt519.1).bind fun bt544 => (if bt538.2 = 0 then (if bt540.2 = 0 then (if bt542.2 = 0 then (if bt544.2 = 0 then (if bt538.1 = bt542.1 then (if bt544.1 = a1 then ((cutplanelaw07_known.f k).bind fun t546 => (some t546)) else (none)) else (none)) else (none)) else (none)) else (none)) else (none)))))) else (none)) else (none))) else (if bt519.1 = a2 then (if bt521.1 = a1 then ((rank_Min.f k a0 bt519.1 a3).bind fun bt547 => ((rank_Min.f k a0 a2 a3).bind fun bt549 => ((rank_Min.f k a0 a1 bt549.1).bind fun bt551 => ((rank_Max.f k a0 a1 bt519.1).bind fun bt553 => (if bt547.2 = 0 then (if bt549.2 = 0 then (if bt551.2 = 0 then (if bt553.2 = 0 then (if bt547.1 = bt551.1 then (if bt553.1 = a1 then ((cutplanelaw07_known.f k).bind fun t555 => (some t555)) else (none)) else (none)) else (none)) else (none)) else (none)) else (none)))))) else (none)) else (none)))) else (none)) else (none)) else (none)) else (none)) else (none)) else (none)) else (none)))))))))))) = some r := H
    have A7 := Aside0.mk A70
    clear A70
    by_cases c8 : t513 = 5
    · rw [if_pos c8] at H
      have c8b0 : (t513 == 5) = true := beq_iff_eq.mpr c8
      have c8b1 : (t513 != 5) = false := bne_eq_false_iff_eq.mpr c8
      clear c8
      replace H := Option.bind_eq_some_iff.mp H
      obtain ⟨t514, A90, H⟩ := H
      replace H : (some t514) = some r := H
      have A9 := Aside0.mk A90
      clear A90
      obtain rfl := Option.some.inj H
      go_enter Try.func6, Try.ntmps6
      go_wp2_with (first | ((with_reducible refine gate_dst (N := 31) rfl ?_); refine Kd.R_lit (Kd.int .u64) _ 23 ?hg (N := 31) ?hd (xs := ([a1, a2, a3] : List Int)) (inner := [.int .u64 a1, .int .u64 a2, .int .u64 a3]) (ok := fun _ => True) (okp := fun _ => True) ?hr ?hp (fun _ hk => hk) trivial (Below.refl _ _) (Nat.le_refl _) (by simp) ?_; (case hd => rfl); (case hg => rfl); (case hr => first | (go_simp; done) | (go_simp; rfl)); (case hp => exact (Reps.one (show Kd.M (Kd.int .u64) _ _ _ a1 [.int .u64 a1] from rfl) (Reps.one (show Kd.M (Kd.int .u64) _ _ _ a2 [.int .u64 a2] from rfl) (Reps.one (show Kd.M (Kd.int .u64) _ _ _ a3 [.int .u64 a3] from rfl) (Reps.none _ _))))); intro v510 w10 ho11 hb hg_ hnew_; clear hg_ hnew_; (first | rw [← Ny509.out] at ho11 | (simp only [Int.reduceToNat] at ho11; rw [← Ny509.out] at ho11)); have n0_ := Aside0.mk (Kd.R_lower ho11 (below_size (by repeat (first | (with_reducible first | exact HB.out | apply below_alloc | apply pw_below_drewN | apply below_drew1) | exact HB.out)))); have n1_ := Aside0.mk (below_step (by repeat (first | (with_reducible first | exact HB.out | apply below_alloc | apply pw_below_drewN | apply below_drew1) | exact HB.out)) hb); clear HB; have HO511 := n0_; have HB := n1_; clear n0_ n1_; clear hb ho11; obtain ⟨Ao12, co12, eo12⟩ := Kd.R_slice HO511.out; subst eo12) | ((with_reducible refine gate_callee (f := 13) rfl ?_); refine goesL_ (some 32) rfl rfl Try.func13 (by kernel_rfl) rfl #[.int .u8 a0, .slice Ao12 y509.length co12] rfl (by (try simp only [List.map_toArray, List.map_cons, List.map_nil]); first | done | rfl | (simp only [List.length_drop, List.length_take]; rfl)) ?_; (with_reducible refine (cutplaneref07_Opens.calls k a0 _ _ y509 t512 _ ?side1 ?side2 A5.out).mono ?_); (case side1 => repeat (first | exact (Kd.R_reads' HO511.out).2.2 | (with_reducible refine Kd.C_alloc ?_ _) | (with_reducible refine Kd.C_drewN ?_ _) | (with_reducible refine Kd.C_drew ?_))); (case side2 => exact (Kd.R_reads' HO511.out).2.1); rintro e w' ⟨rfl, ⟨nd, rfl⟩⟩; refine ⟨_, rfl, ?_⟩) | (go_at_call 22; (with_reducible refine (cutplaneref03_Class.calls k a0 a1 t513 _ A7.out).mono ?_); rintro e w13 ⟨rfl, hb⟩; have n0_ := Aside0.mk (Kd.R_below (by (with_reducible repeat (first | apply Kd.R_alloc | apply Kd.R_drewN | apply Kd.R_drew)); exact HO511.out) hb); have n1_ := Aside0.mk (below_step (by repeat (first | (with_reducible first | exact HB.out | apply below_alloc | apply pw_below_drewN | apply below_drew1) | exact HB.out)) hb); clear HO511; clear HB; have HO511 := n0_; have HB := n1_; clear n0_ n1_; (try clear hb); (try clear hb2); (try clear hk); (try clear hi)) | ((with_reducible refine gate_callee (f := 14) rfl ?_); refine goesL_ (some 52) rfl rfl Try.func14 (by kernel_rfl) rfl #[] rfl (by (try simp only [List.map_toArray, List.map_cons, List.map_nil]); first | done | rfl | (simp only [List.length_drop, List.length_take]; rfl)) ?_; (with_reducible refine (cutplanelaw07_known.calls k  t514 _ A9.out).mono ?_); rintro e w14 ⟨rfl, hb⟩; refine ⟨_, rfl, ?_⟩; have n0_ := Aside0.mk (Kd.R_below (by (with_reducible repeat (first | apply Kd.R_alloc | apply Kd.R_drewN | apply Kd.R_drew)); exact HO511.out) hb); have n1_ := Aside0.mk (below_step (by repeat (first | (with_reducible first | exact HB.out | apply below_alloc | apply pw_below_drewN | apply below_drew1) | exact HB.out)) hb); clear HO511; clear HB; have HO511 := n0_; have HB := n1_; clear n0_ n1_; (try clear hb); (try clear hb2); (try clear hk); (try clear hi)))
      go_ret
      exact ⟨by first | rfl | (simp [errW_none, errW_some] <;> rfl) | (simp [*, errW_none, errW_some] <;> rfl), by repeat (first | (with_reducible first | exact HB.out | apply below_alloc | apply pw_below_drewN | apply below_drew1) | exact HB.out)⟩
    · rw [if_neg c8] at H
      have c8b0 : (t513 == 5) = false := beq_eq_false_iff_ne.mpr c8
      have c8b1 : (t513 != 5) = true := bne_iff_ne.mpr c8
      replace H := Option.bind_eq_some_iff.mp H
      obtain ⟨t515, A150, H⟩ := H
      replace H : (if t515 = 5 then ((cutplanelaw07_known.f k).bind fun t516 => (some t516)) else ((cutplaneref03_Class.f k a0 a3).bind fun t517 => (if t517 = 5 then ((cutplanelaw07_known.f k).bind fun t518 => (some t518)) else ((rank_Min.f k a0 a1 a2).bind fun bt519 => ((rank_Max.f k a0 a1 a2).bind fun bt521 => ((rank_Min.f k a0 a2 a1).bind fun bt523 => ((rank_Max.f k a0 a2 a1).bind fun bt525 => ((rank_Total.f k a0 bt519.1 bt521.1).bind fun bt527 => (if bt519.2 = 0 then (if bt521.2 = 0 then (if bt523.2 = 0 then (if bt525.2 = 0 then (if bt527.2 = 0 then (if bt519.1 = bt523.1 then (if bt521.1 = bt525.1 then (if bt527.1 > 0 then (none) else (if bt519.1 = a1 then (if bt521.1 = a2 then ((rank_Min.f k a0 bt519.1 a3).bind fun bt529 => ((rank_Min.f k a0 a2 a3).bind fun bt531 => ((rank_Min.f k a0 a1 bt531.1).bind fun bt533 => ((rank_Max.f k a0 a1 bt519.1).bind fun bt535 => (if bt529.2 = 0 then (if bt531.2 = 0 then (if bt533.2 = 0 then (if bt535.2 = 0 then (if bt529.1 = bt533.1 then (if bt535.1 = a1 then ((cutplanelaw07_known.f k).bind fun t537 => (some t537)) else (none)) else (none)) else (none)) else (none)) else (none)) else (none)))))) else (if bt519.1 = a2 then (if bt521.1 = a1 then ((rank_Min.f k a0 bt519.1 a3).bind fun bt538 => ((rank_Min.f k a0 a2 a3).bind fun bt540 => ((rank_Min.f k a0 a1 bt540.1).bind fun bt542 => ((rank_Max.f k a0 a1 bt519.1).bind fun bt544 => (if bt538.2 = 0 then (if bt540.2 = 0 then (if bt542.2 = 0 then (if bt544.2 = 0 then (if bt538.1 = bt542.1 then (if bt544.1 = a1 then ((cutplanelaw07_known.f k).bind fun t546 => (some t546)) else (none)) else (none)) else (none)) else (none)) else (none)) else (none)))))) else (none)) else (none))) else (if bt519.1 = a2 then (if bt521.1 = a1 then ((rank_Min.f k a0 bt519.1 a3).bind fun bt547 => ((rank_Min.f k a0 a2 a3).bind fun bt549 => ((rank_Min.f k a0 a1 bt549.1).bind fun bt551 => ((rank_Max.f k a0 a1 bt519.1).bind fun bt553 => (if bt547.2 = 0 then (if bt549.2 = 0 then (if bt551.2 = 0 then (if bt553.2 = 0 then (if bt547.1 = bt551.1 then (if bt553.1 = a1 then ((cutplanelaw07_known.f k).bind fun t555 => (some t555)) else (none)) else (none)) else (none)) else (none)) else (none)) else (none)))))) else (none)) else (none)))) else (none)) else (none)) else (none)) else (none)) else (none)) else (none)) else (none)))))))))) = some r := H
      have A15 := Aside0.mk A150
      clear A150
      by_cases c16 : t515 = 5
      · rw [if_pos c16] at H
        have c16b0 : (t515 == 5) = true := beq_iff_eq.mpr c16
        have c16b1 : (t515 != 5) = false := bne_eq_false_iff_eq.mpr c16
        clear c16
        replace H := Option.bind_eq_some_iff.mp H
        obtain ⟨t516, A170, H⟩ := H
        replace H : (some t516) = some r := H
        have A17 := Aside0.mk A170
        clear A170
        obtain rfl := Option.some.inj H
        go_enter Try.func6, Try.ntmps6
        go_wp2_with (first | ((with_reducible refine gate_dst (N := 31) rfl ?_); refine Kd.R_lit (Kd.int .u64) _ 23 ?hg (N := 31) ?hd (xs := ([a1, a2, a3] : List Int)) (inner := [.int .u64 a1, .int .u64 a2, .int .u64 a3]) (ok := fun _ => True) (okp := fun _ => True) ?hr ?hp (fun _ hk => hk) trivial (Below.refl _ _) (Nat.le_refl _) (by simp) ?_; (case hd => rfl); (case hg => rfl); (case hr => first | (go_simp; done) | (go_simp; rfl)); (case hp => exact (Reps.one (show Kd.M (Kd.int .u64) _ _ _ a1 [.int .u64 a1] from rfl) (Reps.one (show Kd.M (Kd.int .u64) _ _ _ a2 [.int .u64 a2] from rfl) (Reps.one (show Kd.M (Kd.int .u64) _ _ _ a3 [.int .u64 a3] from rfl) (Reps.none _ _))))); intro v510 w18 ho19 hb hg_ hnew_; clear hg_ hnew_; (first | rw [← Ny509.out] at ho19 | (simp only [Int.reduceToNat] at ho19; rw [← Ny509.out] at ho19)); have n0_ := Aside0.mk (Kd.R_lower ho19 (below_size (by repeat (first | (with_reducible first | exact HB.out | apply below_alloc | apply pw_below_drewN | apply below_drew1) | exact HB.out)))); have n1_ := Aside0.mk (below_step (by repeat (first | (with_reducible first | exact HB.out | apply below_alloc | apply pw_below_drewN | apply below_drew1) | exact HB.out)) hb); clear HB; have HO511 := n0_; have HB := n1_; clear n0_ n1_; clear hb ho19; obtain ⟨Ao20, co20, eo20⟩ := Kd.R_slice HO511.out; subst eo20) | ((with_reducible refine gate_callee (f := 13) rfl ?_); refine goesL_ (some 32) rfl rfl Try.func13 (by kernel_rfl) rfl #[.int .u8 a0, .slice Ao20 y509.length co20] rfl (by (try simp only [List.map_toArray, List.map_cons, List.map_nil]); first | done | rfl | (simp only [List.length_drop, List.length_take]; rfl)) ?_; (with_reducible refine (cutplaneref07_Opens.calls k a0 _ _ y509 t512 _ ?side1 ?side2 A5.out).mono ?_); (case side1 => repeat (first | exact (Kd.R_reads' HO511.out).2.2 | (with_reducible refine Kd.C_alloc ?_ _) | (with_reducible refine Kd.C_drewN ?_ _) | (with_reducible refine Kd.C_drew ?_))); (case side2 => exact (Kd.R_reads' HO511.out).2.1); rintro e w' ⟨rfl, ⟨nd, rfl⟩⟩; refine ⟨_, rfl, ?_⟩) | (go_at_call 22; (with_reducible refine (cutplaneref03_Class.calls k a0 a1 t513 _ A7.out).mono ?_); rintro e w21 ⟨rfl, hb⟩; have n0_ := Aside0.mk (Kd.R_below (by (with_reducible repeat (first | apply Kd.R_alloc | apply Kd.R_drewN | apply Kd.R_drew)); exact HO511.out) hb); have n1_ := Aside0.mk (below_step (by repeat (first | (with_reducible first | exact HB.out | apply below_alloc | apply pw_below_drewN | apply below_drew1) | exact HB.out)) hb); clear HO511; clear HB; have HO511 := n0_; have HB := n1_; clear n0_ n1_; (try clear hb); (try clear hb2); (try clear hk); (try clear hi)) | (go_at_call 22; (with_reducible refine (cutplaneref03_Class.calls k a0 a2 t515 _ A15.out).mono ?_); rintro e w22 ⟨rfl, hb⟩; have n0_ := Aside0.mk (Kd.R_below (by (with_reducible repeat (first | apply Kd.R_alloc | apply Kd.R_drewN | apply Kd.R_drew)); exact HO511.out) hb); have n1_ := Aside0.mk (below_step (by repeat (first | (with_reducible first | exact HB.out | apply below_alloc | apply pw_below_drewN | apply below_drew1) | exact HB.out)) hb); clear HO511; clear HB; have HO511 := n0_; have HB := n1_; clear n0_ n1_; (try clear hb); (try clear hb2); (try clear hk); (try clear hi)) | ((with_reducible refine gate_callee (f := 14) rfl ?_); refine goesL_ (some 52) rfl rfl Try.func14 (by kernel_rfl) rfl #[] rfl (by (try simp only [List.map_toArray, List.map_cons, List.map_nil]); first | done | rfl | (simp only [List.length_drop, List.length_take]; rfl)) ?_; (with_reducible refine (cutplanelaw07_known.calls k  t516 _ A17.out).mono ?_); rintro e w23 ⟨rfl, hb⟩; refine ⟨_, rfl, ?_⟩; have n0_ := Aside0.mk (Kd.R_below (by (with_reducible repeat (first | apply Kd.R_alloc | apply Kd.R_drewN | apply Kd.R_drew)); exact HO511.out) hb); have n1_ := Aside0.mk (below_step (by repeat (first | (with_reducible first | exact HB.out | apply below_alloc | apply pw_below_drewN | apply below_drew1) | exact HB.out)) hb); clear HO511; clear HB; have HO511 := n0_; have HB := n1_; clear n0_ n1_; (try clear hb); (try clear hb2); (try clear hk); (try clear hi)))
        go_ret
        exact ⟨by first | rfl | (simp [errW_none, errW_some] <;> rfl) | (simp [*, errW_none, errW_some] <;> rfl), by repeat (first | (with_reducible first | exact HB.out | apply below_alloc | apply pw_below_drewN | apply below_drew1) | exact HB.out)⟩
      · rw [if_neg c16] at H
        have c16b0 : (t515 == 5) = false := beq_eq_false_iff_ne.mpr c16
        have c16b1 : (t515 != 5) = true := bne_iff_ne.mpr c16
        replace H := Option.bind_eq_some_iff.mp H
        obtain ⟨t517, A240, H⟩ := H
        replace H : (if t517 = 5 then ((cutplanelaw07_known.f k).bind fun t518 => (some t518)) else ((rank_Min.f k a0 a1 a2).bind fun bt519 => ((rank_Max.f k a0 a1 a2).bind fun bt521 => ((rank_Min.f k a0 a2 a1).bind fun bt523 => ((rank_Max.f k a0 a2 a1).bind fun bt525 => ((rank_Total.f k a0 bt519.1 bt521.1).bind fun bt527 => (if bt519.2 = 0 then (if bt521.2 = 0 then (if bt523.2 = 0 then (if bt525.2 = 0 then (if bt527.2 = 0 then (if bt519.1 = bt523.1 then (if bt521.1 = bt525.1 then (if bt527.1 > 0 then (none) else (if bt519.1 = a1 then (if bt521.1 = a2 then ((rank_Min.f k a0 bt519.1 a3).bind fun bt529 => ((rank_Min.f k a0 a2 a3).bind fun bt531 => ((rank_Min.f k a0 a1 bt531.1).bind fun bt533 => ((rank_Max.f k a0 a1 bt519.1).bind fun bt535 => (if bt529.2 = 0 then (if bt531.2 = 0 then (if bt533.2 = 0 then (if bt535.2 = 0 then (if bt529.1 = bt533.1 then (if bt535.1 = a1 then ((cutplanelaw07_known.f k).bind fun t537 => (some t537)) else (none)) else (none)) else (none)) else (none)) else (none)) else (none)))))) else (if bt519.1 = a2 then (if bt521.1 = a1 then ((rank_Min.f k a0 bt519.1 a3).bind fun bt538 => ((rank_Min.f k a0 a2 a3).bind fun bt540 => ((rank_Min.f k a0 a1 bt540.1).bind fun bt542 => ((rank_Max.f k a0 a1 bt519.1).bind fun bt544 => (if bt538.2 = 0 then (if bt540.2 = 0 then (if bt542.2 = 0 then (if bt544.2 = 0 then (if bt538.1 = bt542.1 then (if bt544.1 = a1 then ((cutplanelaw07_known.f k).bind fun t546 => (some t546)) else (none)) else (none)) else (none)) else (none)) else (none)) else (none)))))) else (none)) else (none))) else (if bt519.1 = a2 then (if bt521.1 = a1 then ((rank_Min.f k a0 bt519.1 a3).bind fun bt547 => ((rank_Min.f k a0 a2 a3).bind fun bt549 => ((rank_Min.f k a0 a1 bt549.1).bind fun bt551 => ((rank_Max.f k a0 a1 bt519.1).bind fun bt553 => (if bt547.2 = 0 then (if bt549.2 = 0 then (if bt551.2 = 0 then (if bt553.2 = 0 then (if bt547.1 = bt551.1 then (if bt553.1 = a1 then ((cutplanelaw07_known.f k).bind fun t555 => (some t555)) else (none)) else (none)) else (none)) else (none)) else (none)) else (none)))))) else (none)) else (none)))) else (none)) else (none)) else (none)) else (none)) else (none)) else (none)) else (none)))))))) = some r := H
        have A24 := Aside0.mk A240
        clear A240
        by_cases c25 : t517 = 5
        · rw [if_pos c25] at H
          have c25b0 : (t517 == 5) = true := beq_iff_eq.mpr c25
          have c25b1 : (t517 != 5) = false := bne_eq_false_iff_eq.mpr c25
          clear c25
          replace H := Option.bind_eq_some_iff.mp H
          obtain ⟨t518, A260, H⟩ := H
          replace H : (some t518) = some r := H
          have A26 := Aside0.mk A260
          clear A260
          obtain rfl := Option.some.inj H
          go_enter Try.func6, Try.ntmps6
          go_wp2_with (first | ((with_reducible refine gate_dst (N := 31) rfl ?_); refine Kd.R_lit (Kd.int .u64) _ 23 ?hg (N := 31) ?hd (xs := ([a1, a2, a3] : List Int)) (inner := [.int .u64 a1, .int .u64 a2, .int .u64 a3]) (ok := fun _ => True) (okp := fun _ => True) ?hr ?hp (fun _ hk => hk) trivial (Below.refl _ _) (Nat.le_refl _) (by simp) ?_; (case hd => rfl); (case hg => rfl); (case hr => first | (go_simp; done) | (go_simp; rfl)); (case hp => exact (Reps.one (show Kd.M (Kd.int .u64) _ _ _ a1 [.int .u64 a1] from rfl) (Reps.one (show Kd.M (Kd.int .u64) _ _ _ a2 [.int .u64 a2] from rfl) (Reps.one (show Kd.M (Kd.int .u64) _ _ _ a3 [.int .u64 a3] from rfl) (Reps.none _ _))))); intro v510 w27 ho28 hb hg_ hnew_; clear hg_ hnew_; (first | rw [← Ny509.out] at ho28 | (simp only [Int.reduceToNat] at ho28; rw [← Ny509.out] at ho28)); have n0_ := Aside0.mk (Kd.R_lower ho28 (below_size (by repeat (first | (with_reducible first | exact HB.out | apply below_alloc | apply pw_below_drewN | apply below_drew1) | exact HB.out)))); have n1_ := Aside0.mk (below_step (by repeat (first | (with_reducible first | exact HB.out | apply below_alloc | apply pw_below_drewN | apply below_drew1) | exact HB.out)) hb); clear HB; have HO511 := n0_; have HB := n1_; clear n0_ n1_; clear hb ho28; obtain ⟨Ao29, co29, eo29⟩ := Kd.R_slice HO511.out; subst eo29) | ((with_reducible refine gate_callee (f := 13) rfl ?_); refine goesL_ (some 32) rfl rfl Try.func13 (by kernel_rfl) rfl #[.int .u8 a0, .slice Ao29 y509.length co29] rfl (by (try simp only [List.map_toArray, List.map_cons, List.map_nil]); first | done | rfl | (simp only [List.length_drop, List.length_take]; rfl)) ?_; (with_reducible refine (cutplaneref07_Opens.calls k a0 _ _ y509 t512 _ ?side1 ?side2 A5.out).mono ?_); (case side1 => repeat (first | exact (Kd.R_reads' HO511.out).2.2 | (with_reducible refine Kd.C_alloc ?_ _) | (with_reducible refine Kd.C_drewN ?_ _) | (with_reducible refine Kd.C_drew ?_))); (case side2 => exact (Kd.R_reads' HO511.out).2.1); rintro e w' ⟨rfl, ⟨nd, rfl⟩⟩; refine ⟨_, rfl, ?_⟩) | (go_at_call 22; (with_reducible refine (cutplaneref03_Class.calls k a0 a1 t513 _ A7.out).mono ?_); rintro e w30 ⟨rfl, hb⟩; have n0_ := Aside0.mk (Kd.R_below (by (with_reducible repeat (first | apply Kd.R_alloc | apply Kd.R_drewN | apply Kd.R_drew)); exact HO511.out) hb); have n1_ := Aside0.mk (below_step (by repeat (first | (with_reducible first | exact HB.out | apply below_alloc | apply pw_below_drewN | apply below_drew1) | exact HB.out)) hb); clear HO511; clear HB; have HO511 := n0_; have HB := n1_; clear n0_ n1_; (try clear hb); (try clear hb2); (try clear hk); (try clear hi)) | (go_at_call 22; (with_reducible refine (cutplaneref03_Class.calls k a0 a2 t515 _ A15.out).mono ?_); rintro e w31 ⟨rfl, hb⟩; have n0_ := Aside0.mk (Kd.R_below (by (with_reducible repeat (first | apply Kd.R_alloc | apply Kd.R_drewN | apply Kd.R_drew)); exact HO511.out) hb); have n1_ := Aside0.mk (below_step (by repeat (first | (with_reducible first | exact HB.out | apply below_alloc | apply pw_below_drewN | apply below_drew1) | exact HB.out)) hb); clear HO511; clear HB; have HO511 := n0_; have HB := n1_; clear n0_ n1_; (try clear hb); (try clear hb2); (try clear hk); (try clear hi)) | (go_at_call 22; (with_reducible refine (cutplaneref03_Class.calls k a0 a3 t517 _ A24.out).mono ?_); rintro e w32 ⟨rfl, hb⟩; have n0_ := Aside0.mk (Kd.R_below (by (with_reducible repeat (first | apply Kd.R_alloc | apply Kd.R_drewN | apply Kd.R_drew)); exact HO511.out) hb); have n1_ := Aside0.mk (below_step (by repeat (first | (with_reducible first | exact HB.out | apply below_alloc | apply pw_below_drewN | apply below_drew1) | exact HB.out)) hb); clear HO511; clear HB; have HO511 := n0_; have HB := n1_; clear n0_ n1_; (try clear hb); (try clear hb2); (try clear hk); (try clear hi)) | ((with_reducible refine gate_callee (f := 14) rfl ?_); refine goesL_ (some 52) rfl rfl Try.func14 (by kernel_rfl) rfl #[] rfl (by (try simp only [List.map_toArray, List.map_cons, List.map_nil]); first | done | rfl | (simp only [List.length_drop, List.length_take]; rfl)) ?_; (with_reducible refine (cutplanelaw07_known.calls k  t518 _ A26.out).mono ?_); rintro e w33 ⟨rfl, hb⟩; refine ⟨_, rfl, ?_⟩; have n0_ := Aside0.mk (Kd.R_below (by (with_reducible repeat (first | apply Kd.R_alloc | apply Kd.R_drewN | apply Kd.R_drew)); exact HO511.out) hb); have n1_ := Aside0.mk (below_step (by repeat (first | (with_reducible first | exact HB.out | apply below_alloc | apply pw_below_drewN | apply below_drew1) | exact HB.out)) hb); clear HO511; clear HB; have HO511 := n0_; have HB := n1_; clear n0_ n1_; (try clear hb); (try clear hb2); (try clear hk); (try clear hi)))
          go_ret
          exact ⟨by first | rfl | (simp [errW_none, errW_some] <;> rfl) | (simp [*, errW_none, errW_some] <;> rfl), by repeat (first | (with_reducible first | exact HB.out | apply below_alloc | apply pw_below_drewN | apply below_drew1) | exact HB.out)⟩
        · rw [if_neg c25] at H
          have c25b0 : (t517 == 5) = false := beq_eq_false_iff_ne.mpr c25
          have c25b1 : (t517 != 5) = true := bne_iff_ne.mpr c25
          replace H := Option.bind_eq_some_iff.mp H
          obtain ⟨⟨t519, t520⟩, A340, H⟩ := H
          replace H : ((rank_Max.f k a0 a1 a2).bind fun bt521 => ((rank_Min.f k a0 a2 a1).bind fun bt523 => ((rank_Max.f k a0 a2 a1).bind fun bt525 => ((rank_Total.f k a0 t519 bt521.1).bind fun bt527 => (if t520 = 0 then (if bt521.2 = 0 then (if bt523.2 = 0 then (if bt525.2 = 0 then (if bt527.2 = 0 then (if t519 = bt523.1 then (if bt521.1 = bt525.1 then (if bt527.1 > 0 then (none) else (if t519 = a1 then (if bt521.1 = a2 then ((rank_Min.f k a0 t519 a3).bind fun bt529 => ((rank_Min.f k a0 a2 a3).bind fun bt531 => ((rank_Min.f k a0 a1 bt531.1).bind fun bt533 => ((rank_Max.f k a0 a1 t519).bind fun bt535 => (if bt529.2 = 0 then (if bt531.2 = 0 then (if bt533.2 = 0 then (if bt535.2 = 0 then (if bt529.1 = bt533.1 then (if bt535.1 = a1 then ((cutplanelaw07_known.f k).bind fun t537 => (some t537)) else (none)) else (none)) else (none)) else (none)) else (none)) else (none)))))) else (if t519 = a2 then (if bt521.1 = a1 then ((rank_Min.f k a0 t519 a3).bind fun bt538 => ((rank_Min.f k a0 a2 a3).bind fun bt540 => ((rank_Min.f k a0 a1 bt540.1).bind fun bt542 => ((rank_Max.f k a0 a1 t519).bind fun bt544 => (if bt538.2 = 0 then (if bt540.2 = 0 then (if bt542.2 = 0 then (if bt544.2 = 0 then (if bt538.1 = bt542.1 then (if bt544.1 = a1 then ((cutplanelaw07_known.f k).bind fun t546 => (some t546)) else (none)) else (none)) else (none)) else (none)) else (none)) else (none)))))) else (none)) else (none))) else (if t519 = a2 then (if bt521.1 = a1 then ((rank_Min.f k a0 t519 a3).bind fun bt547 => ((rank_Min.f k a0 a2 a3).bind fun bt549 => ((rank_Min.f k a0 a1 bt549.1).bind fun bt551 => ((rank_Max.f k a0 a1 t519).bind fun bt553 => (if bt547.2 = 0 then (if bt549.2 = 0 then (if bt551.2 = 0 then (if bt553.2 = 0 then (if bt547.1 = bt551.1 then (if bt553.1 = a1 then ((cutplanelaw07_known.f k).bind fun t555 => (some t555)) else (none)) else (none)) else (none)) else (none)) else (none)) else (none)))))) else (none)) else (none)))) else (none)) else (none)) else (none)) else (none)) else (none)) else (none)) else (none)))))) = some r := H
          have A34 := Aside0.mk A340
          clear A340
          replace H := Option.bind_eq_some_iff.mp H
          obtain ⟨⟨t521, t522⟩, A350, H⟩ := H
          replace H : ((rank_Min.f k a0 a2 a1).bind fun bt523 => ((rank_Max.f k a0 a2 a1).bind fun bt525 => ((rank_Total.f k a0 t519 t521).bind fun bt527 => (if t520 = 0 then (if t522 = 0 then (if bt523.2 = 0 then (if bt525.2 = 0 then (if bt527.2 = 0 then (if t519 = bt523.1 then (if t521 = bt525.1 then (if bt527.1 > 0 then (none) else (if t519 = a1 then (if t521 = a2 then ((rank_Min.f k a0 t519 a3).bind fun bt529 => ((rank_Min.f k a0 a2 a3).bind fun bt531 => ((rank_Min.f k a0 a1 bt531.1).bind fun bt533 => ((rank_Max.f k a0 a1 t519).bind fun bt535 => (if bt529.2 = 0 then (if bt531.2 = 0 then (if bt533.2 = 0 then (if bt535.2 = 0 then (if bt529.1 = bt533.1 then (if bt535.1 = a1 then ((cutplanelaw07_known.f k).bind fun t537 => (some t537)) else (none)) else (none)) else (none)) else (none)) else (none)) else (none)))))) else (if t519 = a2 then (if t521 = a1 then ((rank_Min.f k a0 t519 a3).bind fun bt538 => ((rank_Min.f k a0 a2 a3).bind fun bt540 => ((rank_Min.f k a0 a1 bt540.1).bind fun bt542 => ((rank_Max.f k a0 a1 t519).bind fun bt544 => (if bt538.2 = 0 then (if bt540.2 = 0 then (if bt542.2 = 0 then (if bt544.2 = 0 then (if bt538.1 = bt542.1 then (if bt544.1 = a1 then ((cutplanelaw07_known.f k).bind fun t546 => (some t546)) else (none)) else (none)) else (none)) else (none)) else (none)) else (none)))))) else (none)) else (none))) else (if t519 = a2 then (if t521 = a1 then ((rank_Min.f k a0 t519 a3).bind fun bt547 => ((rank_Min.f k a0 a2 a3).bind fun bt549 => ((rank_Min.f k a0 a1 bt549.1).bind fun bt551 => ((rank_Max.f k a0 a1 t519).bind fun bt553 => (if bt547.2 = 0 then (if bt549.2 = 0 then (if bt551.2 = 0 then (if bt553.2 = 0 then (if bt547.1 = bt551.1 then (if bt553.1 = a1 then ((cutplanelaw07_known.f k).bind fun t555 => (some t555)) else (none)) else (none)) else (none)) else (none)) else (none)) else (none)))))) else (none)) else (none)))) else (none)) else (none)) else (none)) else (none)) else (none)) else (none)) else (none))))) = some r := H
          have A35 := Aside0.mk A350
          clear A350
          replace H := Option.bind_eq_some_iff.mp H
          obtain ⟨⟨t523, t524⟩, A360, H⟩ := H
          replace H : ((rank_Max.f k a0 a2 a1).bind fun bt525 => ((rank_Total.f k a0 t519 t521).bind fun bt527 => (if t520 = 0 then (if t522 = 0 then (if t524 = 0 then (if bt525.2 = 0 then (if bt527.2 = 0 then (if t519 = t523 then (if t521 = bt525.1 then (if bt527.1 > 0 then (none) else (if t519 = a1 then (if t521 = a2 then ((rank_Min.f k a0 t519 a3).bind fun bt529 => ((rank_Min.f k a0 a2 a3).bind fun bt531 => ((rank_Min.f k a0 a1 bt531.1).bind fun bt533 => ((rank_Max.f k a0 a1 t519).bind fun bt535 => (if bt529.2 = 0 then (if bt531.2 = 0 then (if bt533.2 = 0 then (if bt535.2 = 0 then (if bt529.1 = bt533.1 then (if bt535.1 = a1 then ((cutplanelaw07_known.f k).bind fun t537 => (some t537)) else (none)) else (none)) else (none)) else (none)) else (none)) else (none)))))) else (if t519 = a2 then (if t521 = a1 then ((rank_Min.f k a0 t519 a3).bind fun bt538 => ((rank_Min.f k a0 a2 a3).bind fun bt540 => ((rank_Min.f k a0 a1 bt540.1).bind fun bt542 => ((rank_Max.f k a0 a1 t519).bind fun bt544 => (if bt538.2 = 0 then (if bt540.2 = 0 then (if bt542.2 = 0 then (if bt544.2 = 0 then (if bt538.1 = bt542.1 then (if bt544.1 = a1 then ((cutplanelaw07_known.f k).bind fun t546 => (some t546)) else (none)) else (none)) else (none)) else (none)) else (none)) else (none)))))) else (none)) else (none))) else (if t519 = a2 then (if t521 = a1 then ((rank_Min.f k a0 t519 a3).bind fun bt547 => ((rank_Min.f k a0 a2 a3).bind fun bt549 => ((rank_Min.f k a0 a1 bt549.1).bind fun bt551 => ((rank_Max.f k a0 a1 t519).bind fun bt553 => (if bt547.2 = 0 then (if bt549.2 = 0 then (if bt551.2 = 0 then (if bt553.2 = 0 then (if bt547.1 = bt551.1 then (if bt553.1 = a1 then ((cutplanelaw07_known.f k).bind fun t555 => (some t555)) else (none)) else (none)) else (none)) else (none)) else (none)) else (none)))))) else (none)) else (none)))) else (none)) else (none)) else (none)) else (none)) else (none)) else (none)) else (none)))) = some r := H
          have A36 := Aside0.mk A360
          clear A360
          replace H := Option.bind_eq_some_iff.mp H
          obtain ⟨⟨t525, t526⟩, A370, H⟩ := H
          replace H : ((rank_Total.f k a0 t519 t521).bind fun bt527 => (if t520 = 0 then (if t522 = 0 then (if t524 = 0 then (if t526 = 0 then (if bt527.2 = 0 then (if t519 = t523 then (if t521 = t525 then (if bt527.1 > 0 then (none) else (if t519 = a1 then (if t521 = a2 then ((rank_Min.f k a0 t519 a3).bind fun bt529 => ((rank_Min.f k a0 a2 a3).bind fun bt531 => ((rank_Min.f k a0 a1 bt531.1).bind fun bt533 => ((rank_Max.f k a0 a1 t519).bind fun bt535 => (if bt529.2 = 0 then (if bt531.2 = 0 then (if bt533.2 = 0 then (if bt535.2 = 0 then (if bt529.1 = bt533.1 then (if bt535.1 = a1 then ((cutplanelaw07_known.f k).bind fun t537 => (some t537)) else (none)) else (none)) else (none)) else (none)) else (none)) else (none)))))) else (if t519 = a2 then (if t521 = a1 then ((rank_Min.f k a0 t519 a3).bind fun bt538 => ((rank_Min.f k a0 a2 a3).bind fun bt540 => ((rank_Min.f k a0 a1 bt540.1).bind fun bt542 => ((rank_Max.f k a0 a1 t519).bind fun bt544 => (if bt538.2 = 0 then (if bt540.2 = 0 then (if bt542.2 = 0 then (if bt544.2 = 0 then (if bt538.1 = bt542.1 then (if bt544.1 = a1 then ((cutplanelaw07_known.f k).bind fun t546 => (some t546)) else (none)) else (none)) else (none)) else (none)) else (none)) else (none)))))) else (none)) else (none))) else (if t519 = a2 then (if t521 = a1 then ((rank_Min.f k a0 t519 a3).bind fun bt547 => ((rank_Min.f k a0 a2 a3).bind fun bt549 => ((rank_Min.f k a0 a1 bt549.1).bind fun bt551 => ((rank_Max.f k a0 a1 t519).bind fun bt553 => (if bt547.2 = 0 then (if bt549.2 = 0 then (if bt551.2 = 0 then (if bt553.2 = 0 then (if bt547.1 = bt551.1 then (if bt553.1 = a1 then ((cutplanelaw07_known.f k).bind fun t555 => (some t555)) else (none)) else (none)) else (none)) else (none)) else (none)) else (none)))))) else (none)) else (none)))) else (none)) else (none)) else (none)) else (none)) else (none)) else (none)) else (none))) = some r := H
          have A37 := Aside0.mk A370
          clear A370
          replace H := Option.bind_eq_some_iff.mp H
          obtain ⟨⟨t527, t528⟩, A380, H⟩ := H
          replace H : (if t520 = 0 then (if t522 = 0 then (if t524 = 0 then (if t526 = 0 then (if t528 = 0 then (if t519 = t523 then (if t521 = t525 then (if t527 > 0 then (none) else (if t519 = a1 then (if t521 = a2 then ((rank_Min.f k a0 t519 a3).bind fun bt529 => ((rank_Min.f k a0 a2 a3).bind fun bt531 => ((rank_Min.f k a0 a1 bt531.1).bind fun bt533 => ((rank_Max.f k a0 a1 t519).bind fun bt535 => (if bt529.2 = 0 then (if bt531.2 = 0 then (if bt533.2 = 0 then (if bt535.2 = 0 then (if bt529.1 = bt533.1 then (if bt535.1 = a1 then ((cutplanelaw07_known.f k).bind fun t537 => (some t537)) else (none)) else (none)) else (none)) else (none)) else (none)) else (none)))))) else (if t519 = a2 then (if t521 = a1 then ((rank_Min.f k a0 t519 a3).bind fun bt538 => ((rank_Min.f k a0 a2 a3).bind fun bt540 => ((rank_Min.f k a0 a1 bt540.1).bind fun bt542 => ((rank_Max.f k a0 a1 t519).bind fun bt544 => (if bt538.2 = 0 then (if bt540.2 = 0 then (if bt542.2 = 0 then (if bt544.2 = 0 then (if bt538.1 = bt542.1 then (if bt544.1 = a1 then ((cutplanelaw07_known.f k).bind fun t546 => (some t546)) else (none)) else (none)) else (none)) else (none)) else (none)) else (none)))))) else (none)) else (none))) else (if t519 = a2 then (if t521 = a1 then ((rank_Min.f k a0 t519 a3).bind fun bt547 => ((rank_Min.f k a0 a2 a3).bind fun bt549 => ((rank_Min.f k a0 a1 bt549.1).bind fun bt551 => ((rank_Max.f k a0 a1 t519).bind fun bt553 => (if bt547.2 = 0 then (if bt549.2 = 0 then (if bt551.2 = 0 then (if bt553.2 = 0 then (if bt547.1 = bt551.1 then (if bt553.1 = a1 then ((cutplanelaw07_known.f k).bind fun t555 => (some t555)) else (none)) else (none)) else (none)) else (none)) else (none)) else (none)))))) else (none)) else (none)))) else (none)) else (none)) else (none)) else (none)) else (none)) else (none)) else (none)) = some r := H
          have A38 := Aside0.mk A380
          clear A380
          by_cases c39 : t520 = 0
          · rw [if_pos c39] at H
            have c39b0 : (t520 == 0) = true := beq_iff_eq.mpr c39
            have c39b1 : (t520 != 0) = false := bne_eq_false_iff_eq.mpr c39
            clear c39
            by_cases c40 : t522 = 0
            · rw [if_pos c40] at H
              have c40b0 : (t522 == 0) = true := beq_iff_eq.mpr c40
              have c40b1 : (t522 != 0) = false := bne_eq_false_iff_eq.mpr c40
              clear c40
              by_cases c41 : t524 = 0
              · rw [if_pos c41] at H
                have c41b0 : (t524 == 0) = true := beq_iff_eq.mpr c41
                have c41b1 : (t524 != 0) = false := bne_eq_false_iff_eq.mpr c41
                clear c41
                by_cases c42 : t526 = 0
                · rw [if_pos c42] at H
                  have c42b0 : (t526 == 0) = true := beq_iff_eq.mpr c42
                  have c42b1 : (t526 != 0) = false := bne_eq_false_iff_eq.mpr c42
                  clear c42
                  by_cases c43 : t528 = 0
                  · rw [if_pos c43] at H
                    have c43b0 : (t528 == 0) = true := beq_iff_eq.mpr c43
                    have c43b1 : (t528 != 0) = false := bne_eq_false_iff_eq.mpr c43
                    clear c43
                    by_cases c44 : t519 = t523
                    · rw [if_pos c44] at H
                      have c44b0 : (t519 == t523) = true := beq_iff_eq.mpr c44
                      have c44b1 : (t519 != t523) = false := bne_eq_false_iff_eq.mpr c44
                      clear c44
                      by_cases c45 : t521 = t525
                      · rw [if_pos c45] at H
                        have c45b0 : (t521 == t525) = true := beq_iff_eq.mpr c45
                        have c45b1 : (t521 != t525) = false := bne_eq_false_iff_eq.mpr c45
                        clear c45
                        by_cases c46 : t527 > 0
                        · rw [if_pos c46] at H
                          exact absurd H (by simp)
                        · rw [if_neg c46] at H
                          have c46b0 : decide (0 < t527) = false := decide_eq_false c46
                          clear c46
                          by_cases c47 : t519 = a1
                          · rw [if_pos c47] at H
                            have c47b0 : (t519 == a1) = true := beq_iff_eq.mpr c47
                            have c47b1 : (t519 != a1) = false := bne_eq_false_iff_eq.mpr c47
                            clear c47
                            by_cases c48 : t521 = a2
                            · rw [if_pos c48] at H
                              have c48b0 : (t521 == a2) = true := beq_iff_eq.mpr c48
                              have c48b1 : (t521 != a2) = false := bne_eq_false_iff_eq.mpr c48
                              clear c48
                              replace H := Option.bind_eq_some_iff.mp H
                              obtain ⟨⟨t529, t530⟩, A490, H⟩ := H
                              replace H : ((rank_Min.f k a0 a2 a3).bind fun bt531 => ((rank_Min.f k a0 a1 bt531.1).bind fun bt533 => ((rank_Max.f k a0 a1 t519).bind fun bt535 => (if t530 = 0 then (if bt531.2 = 0 then (if bt533.2 = 0 then (if bt535.2 = 0 then (if t529 = bt533.1 then (if bt535.1 = a1 then ((cutplanelaw07_known.f k).bind fun t537 => (some t537)) else (none)) else (none)) else (none)) else (none)) else (none)) else (none))))) = some r := H
                              have A49 := Aside0.mk A490
                              clear A490
                              replace H := Option.bind_eq_some_iff.mp H
                              obtain ⟨⟨t531, t532⟩, A500, H⟩ := H
                              replace H : ((rank_Min.f k a0 a1 t531).bind fun bt533 => ((rank_Max.f k a0 a1 t519).bind fun bt535 => (if t530 = 0 then (if t532 = 0 then (if bt533.2 = 0 then (if bt535.2 = 0 then (if t529 = bt533.1 then (if bt535.1 = a1 then ((cutplanelaw07_known.f k).bind fun t537 => (some t537)) else (none)) else (none)) else (none)) else (none)) else (none)) else (none)))) = some r := H
                              have A50 := Aside0.mk A500
                              clear A500
                              replace H := Option.bind_eq_some_iff.mp H
                              obtain ⟨⟨t533, t534⟩, A510, H⟩ := H
                              replace H : ((rank_Max.f k a0 a1 t519).bind fun bt535 => (if t530 = 0 then (if t532 = 0 then (if t534 = 0 then (if bt535.2 = 0 then (if t529 = t533 then (if bt535.1 = a1 then ((cutplanelaw07_known.f k).bind fun t537 => (some t537)) else (none)) else (none)) else (none)) else (none)) else (none)) else (none))) = some r := H
                              have A51 := Aside0.mk A510
                              clear A510
                              replace H := Option.bind_eq_some_iff.mp H
                              obtain ⟨⟨t535, t536⟩, A520, H⟩ := H
                              replace H : (if t530 = 0 then (if t532 = 0 then (if t534 = 0 then (if t536 = 0 then (if t529 = t533 then (if t535 = a1 then ((cutplanelaw07_known.f k).bind fun t537 => (some t537)) else (none)) else (none)) else (none)) else (none)) else (none)) else (none)) = some r := H
                              have A52 := Aside0.mk A520
                              clear A520
                              by_cases c53 : t530 = 0
                              · rw [if_pos c53] at H
                                have c53b0 : (t530 == 0) = true := beq_iff_eq.mpr c53
                                have c53b1 : (t530 != 0) = false := bne_eq_false_iff_eq.mpr c53
                                clear c53
                                by_cases c54 : t532 = 0
                                · rw [if_pos c54] at H
                                  have c54b0 : (t532 == 0) = true := beq_iff_eq.mpr c54
                                  have c54b1 : (t532 != 0) = false := bne_eq_false_iff_eq.mpr c54
                                  clear c54
                                  by_cases c55 : t534 = 0
                                  · rw [if_pos c55] at H
                                    have c55b0 : (t534 == 0) = true := beq_iff_eq.mpr c55
                                    have c55b1 : (t534 != 0) = false := bne_eq_false_iff_eq.mpr c55
                                    clear c55
                                    by_cases c56 : t536 = 0
                                    · rw [if_pos c56] at H
                                      have c56b0 : (t536 == 0) = true := beq_iff_eq.mpr c56
                                      have c56b1 : (t536 != 0) = false := bne_eq_false_iff_eq.mpr c56
                                      clear c56
                                      by_cases c57 : t529 = t533
                                      · rw [if_pos c57] at H
                                        have c57b0 : (t529 == t533) = true := beq_iff_eq.mpr c57
                                        have c57b1 : (t529 != t533) = false := bne_eq_false_iff_eq.mpr c57
                                        clear c57
                                        by_cases c58 : t535 = a1
                                        · rw [if_pos c58] at H
                                          have c58b0 : (t535 == a1) = true := beq_iff_eq.mpr c58
                                          have c58b1 : (t535 != a1) = false := bne_eq_false_iff_eq.mpr c58
                                          clear c58
                                          replace H := Option.bind_eq_some_iff.mp H
                                          obtain ⟨t537, A590, H⟩ := H
                                          replace H : (some t537) = some r := H
                                          have A59 := Aside0.mk A590
                                          clear A590
                                          obtain rfl := Option.some.inj H
                                          go_enter Try.func6, Try.ntmps6
                                          go_wp2_with (first | ((with_reducible refine gate_dst (N := 31) rfl ?_); refine Kd.R_lit (Kd.int .u64) _ 23 ?hg (N := 31) ?hd (xs := ([a1, a2, a3] : List Int)) (inner := [.int .u64 a1, .int .u64 a2, .int .u64 a3]) (ok := fun _ => True) (okp := fun _ => True) ?hr ?hp (fun _ hk => hk) trivial (Below.refl _ _) (Nat.le_refl _) (by simp) ?_; (case hd => rfl); (case hg => rfl); (case hr => first | (go_simp; done) | (go_simp; rfl)); (case hp => exact (Reps.one (show Kd.M (Kd.int .u64) _ _ _ a1 [.int .u64 a1] from rfl) (Reps.one (show Kd.M (Kd.int .u64) _ _ _ a2 [.int .u64 a2] from rfl) (Reps.one (show Kd.M (Kd.int .u64) _ _ _ a3 [.int .u64 a3] from rfl) (Reps.none _ _))))); intro v510 w60 ho61 hb hg_ hnew_; clear hg_ hnew_; (first | rw [← Ny509.out] at ho61 | (simp only [Int.reduceToNat] at ho61; rw [← Ny509.out] at ho61)); have n0_ := Aside0.mk (Kd.R_lower ho61 (below_size (by repeat (first | (with_reducible first | exact HB.out | apply below_alloc | apply pw_below_drewN | apply below_drew1) | exact HB.out)))); have n1_ := Aside0.mk (below_step (by repeat (first | (with_reducible first | exact HB.out | apply below_alloc | apply pw_below_drewN | apply below_drew1) | exact HB.out)) hb); clear HB; have HO511 := n0_; have HB := n1_; clear n0_ n1_; clear hb ho61; obtain ⟨Ao62, co62, eo62⟩ := Kd.R_slice HO511.out; subst eo62) | ((with_reducible refine gate_callee (f := 13) rfl ?_); refine goesL_ (some 32) rfl rfl Try.func13 (by kernel_rfl) rfl #[.int .u8 a0, .slice Ao62 y509.length co62] rfl (by (try simp only [List.map_toArray, List.map_cons, List.map_nil]); first | done | rfl | (simp only [List.length_drop, List.length_take]; rfl)) ?_; (with_reducible refine (cutplaneref07_Opens.calls k a0 _ _ y509 t512 _ ?side1 ?side2 A5.out).mono ?_); (case side1 => repeat (first | exact (Kd.R_reads' HO511.out).2.2 | (with_reducible refine Kd.C_alloc ?_ _) | (with_reducible refine Kd.C_drewN ?_ _) | (with_reducible refine Kd.C_drew ?_))); (case side2 => exact (Kd.R_reads' HO511.out).2.1); rintro e w' ⟨rfl, ⟨nd, rfl⟩⟩; refine ⟨_, rfl, ?_⟩) | (go_at_call 22; (with_reducible refine (cutplaneref03_Class.calls k a0 a1 t513 _ A7.out).mono ?_); rintro e w63 ⟨rfl, hb⟩; have n0_ := Aside0.mk (Kd.R_below (by (with_reducible repeat (first | apply Kd.R_alloc | apply Kd.R_drewN | apply Kd.R_drew)); exact HO511.out) hb); have n1_ := Aside0.mk (below_step (by repeat (first | (with_reducible first | exact HB.out | apply below_alloc | apply pw_below_drewN | apply below_drew1) | exact HB.out)) hb); clear HO511; clear HB; have HO511 := n0_; have HB := n1_; clear n0_ n1_; (try clear hb); (try clear hb2); (try clear hk); (try clear hi)) | (go_at_call 22; (with_reducible refine (cutplaneref03_Class.calls k a0 a2 t515 _ A15.out).mono ?_); rintro e w64 ⟨rfl, hb⟩; have n0_ := Aside0.mk (Kd.R_below (by (with_reducible repeat (first | apply Kd.R_alloc | apply Kd.R_drewN | apply Kd.R_drew)); exact HO511.out) hb); have n1_ := Aside0.mk (below_step (by repeat (first | (with_reducible first | exact HB.out | apply below_alloc | apply pw_below_drewN | apply below_drew1) | exact HB.out)) hb); clear HO511; clear HB; have HO511 := n0_; have HB := n1_; clear n0_ n1_; (try clear hb); (try clear hb2); (try clear hk); (try clear hi)) | (go_at_call 22; (with_reducible refine (cutplaneref03_Class.calls k a0 a3 t517 _ A24.out).mono ?_); rintro e w65 ⟨rfl, hb⟩; have n0_ := Aside0.mk (Kd.R_below (by (with_reducible repeat (first | apply Kd.R_alloc | apply Kd.R_drewN | apply Kd.R_drew)); exact HO511.out) hb); have n1_ := Aside0.mk (below_step (by repeat (first | (with_reducible first | exact HB.out | apply below_alloc | apply pw_below_drewN | apply below_drew1) | exact HB.out)) hb); clear HO511; clear HB; have HO511 := n0_; have HB := n1_; clear n0_ n1_; (try clear hb); (try clear hb2); (try clear hk); (try clear hi)) | ((with_reducible refine gate_callee (f := 18) rfl ?_); refine goesL_ (some 57) rfl rfl Try.func18 (by kernel_rfl) rfl #[.int .u8 a0, .int .u64 a1, .int .u64 a2] rfl (by (try simp only [List.map_toArray, List.map_cons, List.map_nil]); first | done | rfl | (simp only [List.length_drop, List.length_take]; rfl)) ?_; (with_reducible refine (rank_Min.calls k a0 a1 a2 t519 t520 _ A34.out).mono ?_); rintro e w66 ⟨rfl, hb⟩; refine ⟨_, rfl, ?_⟩; have n0_ := Aside0.mk (Kd.R_below (by (with_reducible repeat (first | apply Kd.R_alloc | apply Kd.R_drewN | apply Kd.R_drew)); exact HO511.out) hb); have n1_ := Aside0.mk (below_step (by repeat (first | (with_reducible first | exact HB.out | apply below_alloc | apply pw_below_drewN | apply below_drew1) | exact HB.out)) hb); clear HO511; clear HB; have HO511 := n0_; have HB := n1_; clear n0_ n1_; (try clear hb); (try clear hb2); (try clear hk); (try clear hi)) | ((with_reducible refine gate_callee (f := 19) rfl ?_); refine goesL_ (some 64) rfl rfl Try.func19 (by kernel_rfl) rfl #[.int .u8 a0, .int .u64 a1, .int .u64 a2] rfl (by (try simp only [List.map_toArray, List.map_cons, List.map_nil]); first | done | rfl | (simp only [List.length_drop, List.length_take]; rfl)) ?_; (with_reducible refine (rank_Max.calls k a0 a1 a2 t521 t522 _ A35.out).mono ?_); rintro e w67 ⟨rfl, hb⟩; refine ⟨_, rfl, ?_⟩; have n0_ := Aside0.mk (Kd.R_below (by (with_reducible repeat (first | apply Kd.R_alloc | apply Kd.R_drewN | apply Kd.R_drew)); exact HO511.out) hb); have n1_ := Aside0.mk (below_step (by repeat (first | (with_reducible first | exact HB.out | apply below_alloc | apply pw_below_drewN | apply below_drew1) | exact HB.out)) hb); clear HO511; clear HB; have HO511 := n0_; have HB := n1_; clear n0_ n1_; (try clear hb); (try clear hb2); (try clear hk); (try clear hi)) | ((with_reducible refine gate_callee (f := 18) rfl ?_); refine goesL_ (some 71) rfl rfl Try.func18 (by kernel_rfl) rfl #[.int .u8 a0, .int .u64 a2, .int .u64 a1] rfl (by (try simp only [List.map_toArray, List.map_cons, List.map_nil]); first | done | rfl | (simp only [List.length_drop, List.length_take]; rfl)) ?_; (with_reducible refine (rank_Min.calls k a0 a2 a1 t523 t524 _ A36.out).mono ?_); rintro e w68 ⟨rfl, hb⟩; refine ⟨_, rfl, ?_⟩; have n0_ := Aside0.mk (Kd.R_below (by (with_reducible repeat (first | apply Kd.R_alloc | apply Kd.R_drewN | apply Kd.R_drew)); exact HO511.out) hb); have n1_ := Aside0.mk (below_step (by repeat (first | (with_reducible first | exact HB.out | apply below_alloc | apply pw_below_drewN | apply below_drew1) | exact HB.out)) hb); clear HO511; clear HB; have HO511 := n0_; have HB := n1_; clear n0_ n1_; (try clear hb); (try clear hb2); (try clear hk); (try clear hi)) | ((with_reducible refine gate_callee (f := 19) rfl ?_); refine goesL_ (some 78) rfl rfl Try.func19 (by kernel_rfl) rfl #[.int .u8 a0, .int .u64 a2, .int .u64 a1] rfl (by (try simp only [List.map_toArray, List.map_cons, List.map_nil]); first | done | rfl | (simp only [List.length_drop, List.length_take]; rfl)) ?_; (with_reducible refine (rank_Max.calls k a0 a2 a1 t525 t526 _ A37.out).mono ?_); rintro e w69 ⟨rfl, hb⟩; refine ⟨_, rfl, ?_⟩; have n0_ := Aside0.mk (Kd.R_below (by (with_reducible repeat (first | apply Kd.R_alloc | apply Kd.R_drewN | apply Kd.R_drew)); exact HO511.out) hb); have n1_ := Aside0.mk (below_step (by repeat (first | (with_reducible first | exact HB.out | apply below_alloc | apply pw_below_drewN | apply below_drew1) | exact HB.out)) hb); clear HO511; clear HB; have HO511 := n0_; have HB := n1_; clear n0_ n1_; (try clear hb); (try clear hb2); (try clear hk); (try clear hi)) | ((with_reducible refine gate_callee (f := 12) rfl ?_); refine goesL_ (some 85) rfl rfl Try.func12 (by kernel_rfl) rfl #[.int .u8 a0, .int .u64 t519, .int .u64 t521] rfl (by (try simp only [List.map_toArray, List.map_cons, List.map_nil]); first | done | rfl | (simp only [List.length_drop, List.length_take]; rfl)) ?_; (with_reducible refine (rank_Total.calls k a0 t519 t521 t527 t528 _ A38.out).mono ?_); rintro e w70 ⟨rfl, hb⟩; refine ⟨_, rfl, ?_⟩; have n0_ := Aside0.mk (Kd.R_below (by (with_reducible repeat (first | apply Kd.R_alloc | apply Kd.R_drewN | apply Kd.R_drew)); exact HO511.out) hb); have n1_ := Aside0.mk (below_step (by repeat (first | (with_reducible first | exact HB.out | apply below_alloc | apply pw_below_drewN | apply below_drew1) | exact HB.out)) hb); clear HO511; clear HB; have HO511 := n0_; have HB := n1_; clear n0_ n1_; (try clear hb); (try clear hb2); (try clear hk); (try clear hi)) | ((with_reducible refine gate_callee (f := 18) rfl ?_); refine goesL_ (some 145) rfl rfl Try.func18 (by kernel_rfl) rfl #[.int .u8 a0, .int .u64 t519, .int .u64 a3] rfl (by (try simp only [List.map_toArray, List.map_cons, List.map_nil]); first | done | rfl | (simp only [List.length_drop, List.length_take]; rfl)) ?_; (with_reducible refine (rank_Min.calls k a0 t519 a3 t529 t530 _ A49.out).mono ?_); rintro e w71 ⟨rfl, hb⟩; refine ⟨_, rfl, ?_⟩; have n0_ := Aside0.mk (Kd.R_below (by (with_reducible repeat (first | apply Kd.R_alloc | apply Kd.R_drewN | apply Kd.R_drew)); exact HO511.out) hb); have n1_ := Aside0.mk (below_step (by repeat (first | (with_reducible first | exact HB.out | apply below_alloc | apply pw_below_drewN | apply below_drew1) | exact HB.out)) hb); clear HO511; clear HB; have HO511 := n0_; have HB := n1_; clear n0_ n1_; (try clear hb); (try clear hb2); (try clear hk); (try clear hi)) | ((with_reducible refine gate_callee (f := 18) rfl ?_); refine goesL_ (some 152) rfl rfl Try.func18 (by kernel_rfl) rfl #[.int .u8 a0, .int .u64 a2, .int .u64 a3] rfl (by (try simp only [List.map_toArray, List.map_cons, List.map_nil]); first | done | rfl | (simp only [List.length_drop, List.length_take]; rfl)) ?_; (with_reducible refine (rank_Min.calls k a0 a2 a3 t531 t532 _ A50.out).mono ?_); rintro e w72 ⟨rfl, hb⟩; refine ⟨_, rfl, ?_⟩; have n0_ := Aside0.mk (Kd.R_below (by (with_reducible repeat (first | apply Kd.R_alloc | apply Kd.R_drewN | apply Kd.R_drew)); exact HO511.out) hb); have n1_ := Aside0.mk (below_step (by repeat (first | (with_reducible first | exact HB.out | apply below_alloc | apply pw_below_drewN | apply below_drew1) | exact HB.out)) hb); clear HO511; clear HB; have HO511 := n0_; have HB := n1_; clear n0_ n1_; (try clear hb); (try clear hb2); (try clear hk); (try clear hi)) | ((with_reducible refine gate_callee (f := 18) rfl ?_); refine goesL_ (some 159) rfl rfl Try.func18 (by kernel_rfl) rfl #[.int .u8 a0, .int .u64 a1, .int .u64 t531] rfl (by (try simp only [List.map_toArray, List.map_cons, List.map_nil]); first | done | rfl | (simp only [List.length_drop, List.length_take]; rfl)) ?_; (with_reducible refine (rank_Min.calls k a0 a1 t531 t533 t534 _ A51.out).mono ?_); rintro e w73 ⟨rfl, hb⟩; refine ⟨_, rfl, ?_⟩; have n0_ := Aside0.mk (Kd.R_below (by (with_reducible repeat (first | apply Kd.R_alloc | apply Kd.R_drewN | apply Kd.R_drew)); exact HO511.out) hb); have n1_ := Aside0.mk (below_step (by repeat (first | (with_reducible first | exact HB.out | apply below_alloc | apply pw_below_drewN | apply below_drew1) | exact HB.out)) hb); clear HO511; clear HB; have HO511 := n0_; have HB := n1_; clear n0_ n1_; (try clear hb); (try clear hb2); (try clear hk); (try clear hi)) | ((with_reducible refine gate_callee (f := 19) rfl ?_); refine goesL_ (some 166) rfl rfl Try.func19 (by kernel_rfl) rfl #[.int .u8 a0, .int .u64 a1, .int .u64 t519] rfl (by (try simp only [List.map_toArray, List.map_cons, List.map_nil]); first | done | rfl | (simp only [List.length_drop, List.length_take]; rfl)) ?_; (with_reducible refine (rank_Max.calls k a0 a1 t519 t535 t536 _ A52.out).mono ?_); rintro e w74 ⟨rfl, hb⟩; refine ⟨_, rfl, ?_⟩; have n0_ := Aside0.mk (Kd.R_below (by (with_reducible repeat (first | apply Kd.R_alloc | apply Kd.R_drewN | apply Kd.R_drew)); exact HO511.out) hb); have n1_ := Aside0.mk (below_step (by repeat (first | (with_reducible first | exact HB.out | apply below_alloc | apply pw_below_drewN | apply below_drew1) | exact HB.out)) hb); clear HO511; clear HB; have HO511 := n0_; have HB := n1_; clear n0_ n1_; (try clear hb); (try clear hb2); (try clear hk); (try clear hi)) | (go_at_call 14; (with_reducible refine (cutplanelaw07_known.calls k  t537 _ A59.out).mono ?_); rintro e w75 ⟨rfl, hb⟩; have n0_ := Aside0.mk (Kd.R_below (by (with_reducible repeat (first | apply Kd.R_alloc | apply Kd.R_drewN | apply Kd.R_drew)); exact HO511.out) hb); have n1_ := Aside0.mk (below_step (by repeat (first | (with_reducible first | exact HB.out | apply below_alloc | apply pw_below_drewN | apply below_drew1) | exact HB.out)) hb); clear HO511; clear HB; have HO511 := n0_; have HB := n1_; clear n0_ n1_; (try clear hb); (try clear hb2); (try clear hk); (try clear hi)))
                                          go_ret
                                          exact ⟨by first | rfl | (simp [errW_none, errW_some] <;> rfl) | (simp [*, errW_none, errW_some] <;> rfl), by repeat (first | (with_reducible first | exact HB.out | apply below_alloc | apply pw_below_drewN | apply below_drew1) | exact HB.out)⟩
                                        · rw [if_neg c58] at H
                                          exact absurd H (by simp)
                                      · rw [if_neg c57] at H
                                        exact absurd H (by simp)
                                    · rw [if_neg c56] at H
                                      exact absurd H (by simp)
                                  · rw [if_neg c55] at H
                                    exact absurd H (by simp)
                                · rw [if_neg c54] at H
                                  exact absurd H (by simp)
                              · rw [if_neg c53] at H
                                exact absurd H (by simp)
                            · rw [if_neg c48] at H
                              have c48b0 : (t521 == a2) = false := beq_eq_false_iff_ne.mpr c48
                              have c48b1 : (t521 != a2) = true := bne_iff_ne.mpr c48
                              by_cases c76 : t519 = a2
                              · rw [if_pos c76] at H
                                have c76b0 : (t519 == a2) = true := beq_iff_eq.mpr c76
                                have c76b1 : (t519 != a2) = false := bne_eq_false_iff_eq.mpr c76
                                clear c76
                                by_cases c77 : t521 = a1
                                · rw [if_pos c77] at H
                                  have c77b0 : (t521 == a1) = true := beq_iff_eq.mpr c77
                                  have c77b1 : (t521 != a1) = false := bne_eq_false_iff_eq.mpr c77
                                  clear c77
                                  replace H := Option.bind_eq_some_iff.mp H
                                  obtain ⟨⟨t538, t539⟩, A780, H⟩ := H
                                  replace H : ((rank_Min.f k a0 a2 a3).bind fun bt540 => ((rank_Min.f k a0 a1 bt540.1).bind fun bt542 => ((rank_Max.f k a0 a1 t519).bind fun bt544 => (if t539 = 0 then (if bt540.2 = 0 then (if bt542.2 = 0 then (if bt544.2 = 0 then (if t538 = bt542.1 then (if bt544.1 = a1 then ((cutplanelaw07_known.f k).bind fun t546 => (some t546)) else (none)) else (none)) else (none)) else (none)) else (none)) else (none))))) = some r := H
                                  have A78 := Aside0.mk A780
                                  clear A780
                                  replace H := Option.bind_eq_some_iff.mp H
                                  obtain ⟨⟨t540, t541⟩, A790, H⟩ := H
                                  replace H : ((rank_Min.f k a0 a1 t540).bind fun bt542 => ((rank_Max.f k a0 a1 t519).bind fun bt544 => (if t539 = 0 then (if t541 = 0 then (if bt542.2 = 0 then (if bt544.2 = 0 then (if t538 = bt542.1 then (if bt544.1 = a1 then ((cutplanelaw07_known.f k).bind fun t546 => (some t546)) else (none)) else (none)) else (none)) else (none)) else (none)) else (none)))) = some r := H
                                  have A79 := Aside0.mk A790
                                  clear A790
                                  replace H := Option.bind_eq_some_iff.mp H
                                  obtain ⟨⟨t542, t543⟩, A800, H⟩ := H
                                  replace H : ((rank_Max.f k a0 a1 t519).bind fun bt544 => (if t539 = 0 then (if t541 = 0 then (if t543 = 0 then (if bt544.2 = 0 then (if t538 = t542 then (if bt544.1 = a1 then ((cutplanelaw07_known.f k).bind fun t546 => (some t546)) else (none)) else (none)) else (none)) else (none)) else (none)) else (none))) = some r := H
                                  have A80 := Aside0.mk A800
                                  clear A800
                                  replace H := Option.bind_eq_some_iff.mp H
                                  obtain ⟨⟨t544, t545⟩, A810, H⟩ := H
                                  replace H : (if t539 = 0 then (if t541 = 0 then (if t543 = 0 then (if t545 = 0 then (if t538 = t542 then (if t544 = a1 then ((cutplanelaw07_known.f k).bind fun t546 => (some t546)) else (none)) else (none)) else (none)) else (none)) else (none)) else (none)) = some r := H
                                  have A81 := Aside0.mk A810
                                  clear A810
                                  by_cases c82 : t539 = 0
                                  · rw [if_pos c82] at H
                                    have c82b0 : (t539 == 0) = true := beq_iff_eq.mpr c82
                                    have c82b1 : (t539 != 0) = false := bne_eq_false_iff_eq.mpr c82
                                    clear c82
                                    by_cases c83 : t541 = 0
                                    · rw [if_pos c83] at H
                                      have c83b0 : (t541 == 0) = true := beq_iff_eq.mpr c83
                                      have c83b1 : (t541 != 0) = false := bne_eq_false_iff_eq.mpr c83
                                      clear c83
                                      by_cases c84 : t543 = 0
                                      · rw [if_pos c84] at H
                                        have c84b0 : (t543 == 0) = true := beq_iff_eq.mpr c84
                                        have c84b1 : (t543 != 0) = false := bne_eq_false_iff_eq.mpr c84
                                        clear c84
                                        by_cases c85 : t545 = 0
                                        · rw [if_pos c85] at H
                                          have c85b0 : (t545 == 0) = true := beq_iff_eq.mpr c85
                                          have c85b1 : (t545 != 0) = false := bne_eq_false_iff_eq.mpr c85
                                          clear c85
                                          by_cases c86 : t538 = t542
                                          · rw [if_pos c86] at H
                                            have c86b0 : (t538 == t542) = true := beq_iff_eq.mpr c86
                                            have c86b1 : (t538 != t542) = false := bne_eq_false_iff_eq.mpr c86
                                            clear c86
                                            by_cases c87 : t544 = a1
                                            · rw [if_pos c87] at H
                                              have c87b0 : (t544 == a1) = true := beq_iff_eq.mpr c87
                                              have c87b1 : (t544 != a1) = false := bne_eq_false_iff_eq.mpr c87
                                              clear c87
                                              replace H := Option.bind_eq_some_iff.mp H
                                              obtain ⟨t546, A880, H⟩ := H
                                              replace H : (some t546) = some r := H
                                              have A88 := Aside0.mk A880
                                              clear A880
                                              obtain rfl := Option.some.inj H
                                              go_enter Try.func6, Try.ntmps6
                                              go_wp2_with (first | ((with_reducible refine gate_dst (N := 31) rfl ?_); refine Kd.R_lit (Kd.int .u64) _ 23 ?hg (N := 31) ?hd (xs := ([a1, a2, a3] : List Int)) (inner := [.int .u64 a1, .int .u64 a2, .int .u64 a3]) (ok := fun _ => True) (okp := fun _ => True) ?hr ?hp (fun _ hk => hk) trivial (Below.refl _ _) (Nat.le_refl _) (by simp) ?_; (case hd => rfl); (case hg => rfl); (case hr => first | (go_simp; done) | (go_simp; rfl)); (case hp => exact (Reps.one (show Kd.M (Kd.int .u64) _ _ _ a1 [.int .u64 a1] from rfl) (Reps.one (show Kd.M (Kd.int .u64) _ _ _ a2 [.int .u64 a2] from rfl) (Reps.one (show Kd.M (Kd.int .u64) _ _ _ a3 [.int .u64 a3] from rfl) (Reps.none _ _))))); intro v510 w89 ho90 hb hg_ hnew_; clear hg_ hnew_; (first | rw [← Ny509.out] at ho90 | (simp only [Int.reduceToNat] at ho90; rw [← Ny509.out] at ho90)); have n0_ := Aside0.mk (Kd.R_lower ho90 (below_size (by repeat (first | (with_reducible first | exact HB.out | apply below_alloc | apply pw_below_drewN | apply below_drew1) | exact HB.out)))); have n1_ := Aside0.mk (below_step (by repeat (first | (with_reducible first | exact HB.out | apply below_alloc | apply pw_below_drewN | apply below_drew1) | exact HB.out)) hb); clear HB; have HO511 := n0_; have HB := n1_; clear n0_ n1_; clear hb ho90; obtain ⟨Ao91, co91, eo91⟩ := Kd.R_slice HO511.out; subst eo91) | ((with_reducible refine gate_callee (f := 13) rfl ?_); refine goesL_ (some 32) rfl rfl Try.func13 (by kernel_rfl) rfl #[.int .u8 a0, .slice Ao91 y509.length co91] rfl (by (try simp only [List.map_toArray, List.map_cons, List.map_nil]); first | done | rfl | (simp only [List.length_drop, List.length_take]; rfl)) ?_; (with_reducible refine (cutplaneref07_Opens.calls k a0 _ _ y509 t512 _ ?side1 ?side2 A5.out).mono ?_); (case side1 => repeat (first | exact (Kd.R_reads' HO511.out).2.2 | (with_reducible refine Kd.C_alloc ?_ _) | (with_reducible refine Kd.C_drewN ?_ _) | (with_reducible refine Kd.C_drew ?_))); (case side2 => exact (Kd.R_reads' HO511.out).2.1); rintro e w' ⟨rfl, ⟨nd, rfl⟩⟩; refine ⟨_, rfl, ?_⟩) | (go_at_call 22; (with_reducible refine (cutplaneref03_Class.calls k a0 a1 t513 _ A7.out).mono ?_); rintro e w92 ⟨rfl, hb⟩; have n0_ := Aside0.mk (Kd.R_below (by (with_reducible repeat (first | apply Kd.R_alloc | apply Kd.R_drewN | apply Kd.R_drew)); exact HO511.out) hb); have n1_ := Aside0.mk (below_step (by repeat (first | (with_reducible first | exact HB.out | apply below_alloc | apply pw_below_drewN | apply below_drew1) | exact HB.out)) hb); clear HO511; clear HB; have HO511 := n0_; have HB := n1_; clear n0_ n1_; (try clear hb); (try clear hb2); (try clear hk); (try clear hi)) | (go_at_call 22; (with_reducible refine (cutplaneref03_Class.calls k a0 a2 t515 _ A15.out).mono ?_); rintro e w93 ⟨rfl, hb⟩; have n0_ := Aside0.mk (Kd.R_below (by (with_reducible repeat (first | apply Kd.R_alloc | apply Kd.R_drewN | apply Kd.R_drew)); exact HO511.out) hb); have n1_ := Aside0.mk (below_step (by repeat (first | (with_reducible first | exact HB.out | apply below_alloc | apply pw_below_drewN | apply below_drew1) | exact HB.out)) hb); clear HO511; clear HB; have HO511 := n0_; have HB := n1_; clear n0_ n1_; (try clear hb); (try clear hb2); (try clear hk); (try clear hi)) | (go_at_call 22; (with_reducible refine (cutplaneref03_Class.calls k a0 a3 t517 _ A24.out).mono ?_); rintro e w94 ⟨rfl, hb⟩; have n0_ := Aside0.mk (Kd.R_below (by (with_reducible repeat (first | apply Kd.R_alloc | apply Kd.R_drewN | apply Kd.R_drew)); exact HO511.out) hb); have n1_ := Aside0.mk (below_step (by repeat (first | (with_reducible first | exact HB.out | apply below_alloc | apply pw_below_drewN | apply below_drew1) | exact HB.out)) hb); clear HO511; clear HB; have HO511 := n0_; have HB := n1_; clear n0_ n1_; (try clear hb); (try clear hb2); (try clear hk); (try clear hi)) | ((with_reducible refine gate_callee (f := 18) rfl ?_); refine goesL_ (some 57) rfl rfl Try.func18 (by kernel_rfl) rfl #[.int .u8 a0, .int .u64 a1, .int .u64 a2] rfl (by (try simp only [List.map_toArray, List.map_cons, List.map_nil]); first | done | rfl | (simp only [List.length_drop, List.length_take]; rfl)) ?_; (with_reducible refine (rank_Min.calls k a0 a1 a2 t519 t520 _ A34.out).mono ?_); rintro e w95 ⟨rfl, hb⟩; refine ⟨_, rfl, ?_⟩; have n0_ := Aside0.mk (Kd.R_below (by (with_reducible repeat (first | apply Kd.R_alloc | apply Kd.R_drewN | apply Kd.R_drew)); exact HO511.out) hb); have n1_ := Aside0.mk (below_step (by repeat (first | (with_reducible first | exact HB.out | apply below_alloc | apply pw_below_drewN | apply below_drew1) | exact HB.out)) hb); clear HO511; clear HB; have HO511 := n0_; have HB := n1_; clear n0_ n1_; (try clear hb); (try clear hb2); (try clear hk); (try clear hi)) | ((with_reducible refine gate_callee (f := 19) rfl ?_); refine goesL_ (some 64) rfl rfl Try.func19 (by kernel_rfl) rfl #[.int .u8 a0, .int .u64 a1, .int .u64 a2] rfl (by (try simp only [List.map_toArray, List.map_cons, List.map_nil]); first | done | rfl | (simp only [List.length_drop, List.length_take]; rfl)) ?_; (with_reducible refine (rank_Max.calls k a0 a1 a2 t521 t522 _ A35.out).mono ?_); rintro e w96 ⟨rfl, hb⟩; refine ⟨_, rfl, ?_⟩; have n0_ := Aside0.mk (Kd.R_below (by (with_reducible repeat (first | apply Kd.R_alloc | apply Kd.R_drewN | apply Kd.R_drew)); exact HO511.out) hb); have n1_ := Aside0.mk (below_step (by repeat (first | (with_reducible first | exact HB.out | apply below_alloc | apply pw_below_drewN | apply below_drew1) | exact HB.out)) hb); clear HO511; clear HB; have HO511 := n0_; have HB := n1_; clear n0_ n1_; (try clear hb); (try clear hb2); (try clear hk); (try clear hi)) | ((with_reducible refine gate_callee (f := 18) rfl ?_); refine goesL_ (some 71) rfl rfl Try.func18 (by kernel_rfl) rfl #[.int .u8 a0, .int .u64 a2, .int .u64 a1] rfl (by (try simp only [List.map_toArray, List.map_cons, List.map_nil]); first | done | rfl | (simp only [List.length_drop, List.length_take]; rfl)) ?_; (with_reducible refine (rank_Min.calls k a0 a2 a1 t523 t524 _ A36.out).mono ?_); rintro e w97 ⟨rfl, hb⟩; refine ⟨_, rfl, ?_⟩; have n0_ := Aside0.mk (Kd.R_below (by (with_reducible repeat (first | apply Kd.R_alloc | apply Kd.R_drewN | apply Kd.R_drew)); exact HO511.out) hb); have n1_ := Aside0.mk (below_step (by repeat (first | (with_reducible first | exact HB.out | apply below_alloc | apply pw_below_drewN | apply below_drew1) | exact HB.out)) hb); clear HO511; clear HB; have HO511 := n0_; have HB := n1_; clear n0_ n1_; (try clear hb); (try clear hb2); (try clear hk); (try clear hi)) | ((with_reducible refine gate_callee (f := 19) rfl ?_); refine goesL_ (some 78) rfl rfl Try.func19 (by kernel_rfl) rfl #[.int .u8 a0, .int .u64 a2, .int .u64 a1] rfl (by (try simp only [List.map_toArray, List.map_cons, List.map_nil]); first | done | rfl | (simp only [List.length_drop, List.length_take]; rfl)) ?_; (with_reducible refine (rank_Max.calls k a0 a2 a1 t525 t526 _ A37.out).mono ?_); rintro e w98 ⟨rfl, hb⟩; refine ⟨_, rfl, ?_⟩; have n0_ := Aside0.mk (Kd.R_below (by (with_reducible repeat (first | apply Kd.R_alloc | apply Kd.R_drewN | apply Kd.R_drew)); exact HO511.out) hb); have n1_ := Aside0.mk (below_step (by repeat (first | (with_reducible first | exact HB.out | apply below_alloc | apply pw_below_drewN | apply below_drew1) | exact HB.out)) hb); clear HO511; clear HB; have HO511 := n0_; have HB := n1_; clear n0_ n1_; (try clear hb); (try clear hb2); (try clear hk); (try clear hi)) | ((with_reducible refine gate_callee (f := 12) rfl ?_); refine goesL_ (some 85) rfl rfl Try.func12 (by kernel_rfl) rfl #[.int .u8 a0, .int .u64 t519, .int .u64 t521] rfl (by (try simp only [List.map_toArray, List.map_cons, List.map_nil]); first | done | rfl | (simp only [List.length_drop, List.length_take]; rfl)) ?_; (with_reducible refine (rank_Total.calls k a0 t519 t521 t527 t528 _ A38.out).mono ?_); rintro e w99 ⟨rfl, hb⟩; refine ⟨_, rfl, ?_⟩; have n0_ := Aside0.mk (Kd.R_below (by (with_reducible repeat (first | apply Kd.R_alloc | apply Kd.R_drewN | apply Kd.R_drew)); exact HO511.out) hb); have n1_ := Aside0.mk (below_step (by repeat (first | (with_reducible first | exact HB.out | apply below_alloc | apply pw_below_drewN | apply below_drew1) | exact HB.out)) hb); clear HO511; clear HB; have HO511 := n0_; have HB := n1_; clear n0_ n1_; (try clear hb); (try clear hb2); (try clear hk); (try clear hi)) | ((with_reducible refine gate_callee (f := 18) rfl ?_); refine goesL_ (some 145) rfl rfl Try.func18 (by kernel_rfl) rfl #[.int .u8 a0, .int .u64 t519, .int .u64 a3] rfl (by (try simp only [List.map_toArray, List.map_cons, List.map_nil]); first | done | rfl | (simp only [List.length_drop, List.length_take]; rfl)) ?_; (with_reducible refine (rank_Min.calls k a0 t519 a3 t538 t539 _ A78.out).mono ?_); rintro e w100 ⟨rfl, hb⟩; refine ⟨_, rfl, ?_⟩; have n0_ := Aside0.mk (Kd.R_below (by (with_reducible repeat (first | apply Kd.R_alloc | apply Kd.R_drewN | apply Kd.R_drew)); exact HO511.out) hb); have n1_ := Aside0.mk (below_step (by repeat (first | (with_reducible first | exact HB.out | apply below_alloc | apply pw_below_drewN | apply below_drew1) | exact HB.out)) hb); clear HO511; clear HB; have HO511 := n0_; have HB := n1_; clear n0_ n1_; (try clear hb); (try clear hb2); (try clear hk); (try clear hi)) | ((with_reducible refine gate_callee (f := 18) rfl ?_); refine goesL_ (some 152) rfl rfl Try.func18 (by kernel_rfl) rfl #[.int .u8 a0, .int .u64 a2, .int .u64 a3] rfl (by (try simp only [List.map_toArray, List.map_cons, List.map_nil]); first | done | rfl | (simp only [List.length_drop, List.length_take]; rfl)) ?_; (with_reducible refine (rank_Min.calls k a0 a2 a3 t540 t541 _ A79.out).mono ?_); rintro e w101 ⟨rfl, hb⟩; refine ⟨_, rfl, ?_⟩; have n0_ := Aside0.mk (Kd.R_below (by (with_reducible repeat (first | apply Kd.R_alloc | apply Kd.R_drewN | apply Kd.R_drew)); exact HO511.out) hb); have n1_ := Aside0.mk (below_step (by repeat (first | (with_reducible first | exact HB.out | apply below_alloc | apply pw_below_drewN | apply below_drew1) | exact HB.out)) hb); clear HO511; clear HB; have HO511 := n0_; have HB := n1_; clear n0_ n1_; (try clear hb); (try clear hb2); (try clear hk); (try clear hi)) | ((with_reducible refine gate_callee (f := 18) rfl ?_); refine goesL_ (some 159) rfl rfl Try.func18 (by kernel_rfl) rfl #[.int .u8 a0, .int .u64 a1, .int .u64 t540] rfl (by (try simp only [List.map_toArray, List.map_cons, List.map_nil]); first | done | rfl | (simp only [List.length_drop, List.length_take]; rfl)) ?_; (with_reducible refine (rank_Min.calls k a0 a1 t540 t542 t543 _ A80.out).mono ?_); rintro e w102 ⟨rfl, hb⟩; refine ⟨_, rfl, ?_⟩; have n0_ := Aside0.mk (Kd.R_below (by (with_reducible repeat (first | apply Kd.R_alloc | apply Kd.R_drewN | apply Kd.R_drew)); exact HO511.out) hb); have n1_ := Aside0.mk (below_step (by repeat (first | (with_reducible first | exact HB.out | apply below_alloc | apply pw_below_drewN | apply below_drew1) | exact HB.out)) hb); clear HO511; clear HB; have HO511 := n0_; have HB := n1_; clear n0_ n1_; (try clear hb); (try clear hb2); (try clear hk); (try clear hi)) | ((with_reducible refine gate_callee (f := 19) rfl ?_); refine goesL_ (some 166) rfl rfl Try.func19 (by kernel_rfl) rfl #[.int .u8 a0, .int .u64 a1, .int .u64 t519] rfl (by (try simp only [List.map_toArray, List.map_cons, List.map_nil]); first | done | rfl | (simp only [List.length_drop, List.length_take]; rfl)) ?_; (with_reducible refine (rank_Max.calls k a0 a1 t519 t544 t545 _ A81.out).mono ?_); rintro e w103 ⟨rfl, hb⟩; refine ⟨_, rfl, ?_⟩; have n0_ := Aside0.mk (Kd.R_below (by (with_reducible repeat (first | apply Kd.R_alloc | apply Kd.R_drewN | apply Kd.R_drew)); exact HO511.out) hb); have n1_ := Aside0.mk (below_step (by repeat (first | (with_reducible first | exact HB.out | apply below_alloc | apply pw_below_drewN | apply below_drew1) | exact HB.out)) hb); clear HO511; clear HB; have HO511 := n0_; have HB := n1_; clear n0_ n1_; (try clear hb); (try clear hb2); (try clear hk); (try clear hi)) | (go_at_call 14; (with_reducible refine (cutplanelaw07_known.calls k  t546 _ A88.out).mono ?_); rintro e w104 ⟨rfl, hb⟩; have n0_ := Aside0.mk (Kd.R_below (by (with_reducible repeat (first | apply Kd.R_alloc | apply Kd.R_drewN | apply Kd.R_drew)); exact HO511.out) hb); have n1_ := Aside0.mk (below_step (by repeat (first | (with_reducible first | exact HB.out | apply below_alloc | apply pw_below_drewN | apply below_drew1) | exact HB.out)) hb); clear HO511; clear HB; have HO511 := n0_; have HB := n1_; clear n0_ n1_; (try clear hb); (try clear hb2); (try clear hk); (try clear hi)))
                                              go_ret
                                              exact ⟨by first | rfl | (simp [errW_none, errW_some] <;> rfl) | (simp [*, errW_none, errW_some] <;> rfl), by repeat (first | (with_reducible first | exact HB.out | apply below_alloc | apply pw_below_drewN | apply below_drew1) | exact HB.out)⟩
                                            · rw [if_neg c87] at H
                                              exact absurd H (by simp)
                                          · rw [if_neg c86] at H
                                            exact absurd H (by simp)
                                        · rw [if_neg c85] at H
                                          exact absurd H (by simp)
                                      · rw [if_neg c84] at H
                                        exact absurd H (by simp)
                                    · rw [if_neg c83] at H
                                      exact absurd H (by simp)
                                  · rw [if_neg c82] at H
                                    exact absurd H (by simp)
                                · rw [if_neg c77] at H
                                  exact absurd H (by simp)
                              · rw [if_neg c76] at H
                                exact absurd H (by simp)
                          · rw [if_neg c47] at H
                            have c47b0 : (t519 == a1) = false := beq_eq_false_iff_ne.mpr c47
                            have c47b1 : (t519 != a1) = true := bne_iff_ne.mpr c47
                            by_cases c105 : t519 = a2
                            · rw [if_pos c105] at H
                              have c105b0 : (t519 == a2) = true := beq_iff_eq.mpr c105
                              have c105b1 : (t519 != a2) = false := bne_eq_false_iff_eq.mpr c105
                              clear c105
                              by_cases c106 : t521 = a1
                              · rw [if_pos c106] at H
                                have c106b0 : (t521 == a1) = true := beq_iff_eq.mpr c106
                                have c106b1 : (t521 != a1) = false := bne_eq_false_iff_eq.mpr c106
                                clear c106
                                replace H := Option.bind_eq_some_iff.mp H
                                obtain ⟨⟨t547, t548⟩, A1070, H⟩ := H
                                replace H : ((rank_Min.f k a0 a2 a3).bind fun bt549 => ((rank_Min.f k a0 a1 bt549.1).bind fun bt551 => ((rank_Max.f k a0 a1 t519).bind fun bt553 => (if t548 = 0 then (if bt549.2 = 0 then (if bt551.2 = 0 then (if bt553.2 = 0 then (if t547 = bt551.1 then (if bt553.1 = a1 then ((cutplanelaw07_known.f k).bind fun t555 => (some t555)) else (none)) else (none)) else (none)) else (none)) else (none)) else (none))))) = some r := H
                                have A107 := Aside0.mk A1070
                                clear A1070
                                replace H := Option.bind_eq_some_iff.mp H
                                obtain ⟨⟨t549, t550⟩, A1080, H⟩ := H
                                replace H : ((rank_Min.f k a0 a1 t549).bind fun bt551 => ((rank_Max.f k a0 a1 t519).bind fun bt553 => (if t548 = 0 then (if t550 = 0 then (if bt551.2 = 0 then (if bt553.2 = 0 then (if t547 = bt551.1 then (if bt553.1 = a1 then ((cutplanelaw07_known.f k).bind fun t555 => (some t555)) else (none)) else (none)) else (none)) else (none)) else (none)) else (none)))) = some r := H
                                have A108 := Aside0.mk A1080
                                clear A1080
                                replace H := Option.bind_eq_some_iff.mp H
                                obtain ⟨⟨t551, t552⟩, A1090, H⟩ := H
                                replace H : ((rank_Max.f k a0 a1 t519).bind fun bt553 => (if t548 = 0 then (if t550 = 0 then (if t552 = 0 then (if bt553.2 = 0 then (if t547 = t551 then (if bt553.1 = a1 then ((cutplanelaw07_known.f k).bind fun t555 => (some t555)) else (none)) else (none)) else (none)) else (none)) else (none)) else (none))) = some r := H
                                have A109 := Aside0.mk A1090
                                clear A1090
                                replace H := Option.bind_eq_some_iff.mp H
                                obtain ⟨⟨t553, t554⟩, A1100, H⟩ := H
                                replace H : (if t548 = 0 then (if t550 = 0 then (if t552 = 0 then (if t554 = 0 then (if t547 = t551 then (if t553 = a1 then ((cutplanelaw07_known.f k).bind fun t555 => (some t555)) else (none)) else (none)) else (none)) else (none)) else (none)) else (none)) = some r := H
                                have A110 := Aside0.mk A1100
                                clear A1100
                                by_cases c111 : t548 = 0
                                · rw [if_pos c111] at H
                                  have c111b0 : (t548 == 0) = true := beq_iff_eq.mpr c111
                                  have c111b1 : (t548 != 0) = false := bne_eq_false_iff_eq.mpr c111
                                  clear c111
                                  by_cases c112 : t550 = 0
                                  · rw [if_pos c112] at H
                                    have c112b0 : (t550 == 0) = true := beq_iff_eq.mpr c112
                                    have c112b1 : (t550 != 0) = false := bne_eq_false_iff_eq.mpr c112
                                    clear c112
                                    by_cases c113 : t552 = 0
                                    · rw [if_pos c113] at H
                                      have c113b0 : (t552 == 0) = true := beq_iff_eq.mpr c113
                                      have c113b1 : (t552 != 0) = false := bne_eq_false_iff_eq.mpr c113
                                      clear c113
                                      by_cases c114 : t554 = 0
                                      · rw [if_pos c114] at H
                                        have c114b0 : (t554 == 0) = true := beq_iff_eq.mpr c114
                                        have c114b1 : (t554 != 0) = false := bne_eq_false_iff_eq.mpr c114
                                        clear c114
                                        by_cases c115 : t547 = t551
                                        · rw [if_pos c115] at H
                                          have c115b0 : (t547 == t551) = true := beq_iff_eq.mpr c115
                                          have c115b1 : (t547 != t551) = false := bne_eq_false_iff_eq.mpr c115
                                          clear c115
                                          by_cases c116 : t553 = a1
                                          · rw [if_pos c116] at H
                                            have c116b0 : (t553 == a1) = true := beq_iff_eq.mpr c116
                                            have c116b1 : (t553 != a1) = false := bne_eq_false_iff_eq.mpr c116
                                            clear c116
                                            replace H := Option.bind_eq_some_iff.mp H
                                            obtain ⟨t555, A1170, H⟩ := H
                                            replace H : (some t555) = some r := H
                                            have A117 := Aside0.mk A1170
                                            clear A1170
                                            obtain rfl := Option.some.inj H
                                            go_enter Try.func6, Try.ntmps6
                                            go_wp2_with (first | ((with_reducible refine gate_dst (N := 31) rfl ?_); refine Kd.R_lit (Kd.int .u64) _ 23 ?hg (N := 31) ?hd (xs := ([a1, a2, a3] : List Int)) (inner := [.int .u64 a1, .int .u64 a2, .int .u64 a3]) (ok := fun _ => True) (okp := fun _ => True) ?hr ?hp (fun _ hk => hk) trivial (Below.refl _ _) (Nat.le_refl _) (by simp) ?_; (case hd => rfl); (case hg => rfl); (case hr => first | (go_simp; done) | (go_simp; rfl)); (case hp => exact (Reps.one (show Kd.M (Kd.int .u64) _ _ _ a1 [.int .u64 a1] from rfl) (Reps.one (show Kd.M (Kd.int .u64) _ _ _ a2 [.int .u64 a2] from rfl) (Reps.one (show Kd.M (Kd.int .u64) _ _ _ a3 [.int .u64 a3] from rfl) (Reps.none _ _))))); intro v510 w118 ho119 hb hg_ hnew_; clear hg_ hnew_; (first | rw [← Ny509.out] at ho119 | (simp only [Int.reduceToNat] at ho119; rw [← Ny509.out] at ho119)); have n0_ := Aside0.mk (Kd.R_lower ho119 (below_size (by repeat (first | (with_reducible first | exact HB.out | apply below_alloc | apply pw_below_drewN | apply below_drew1) | exact HB.out)))); have n1_ := Aside0.mk (below_step (by repeat (first | (with_reducible first | exact HB.out | apply below_alloc | apply pw_below_drewN | apply below_drew1) | exact HB.out)) hb); clear HB; have HO511 := n0_; have HB := n1_; clear n0_ n1_; clear hb ho119; obtain ⟨Ao120, co120, eo120⟩ := Kd.R_slice HO511.out; subst eo120) | ((with_reducible refine gate_callee (f := 13) rfl ?_); refine goesL_ (some 32) rfl rfl Try.func13 (by kernel_rfl) rfl #[.int .u8 a0, .slice Ao120 y509.length co120] rfl (by (try simp only [List.map_toArray, List.map_cons, List.map_nil]); first | done | rfl | (simp only [List.length_drop, List.length_take]; rfl)) ?_; (with_reducible refine (cutplaneref07_Opens.calls k a0 _ _ y509 t512 _ ?side1 ?side2 A5.out).mono ?_); (case side1 => repeat (first | exact (Kd.R_reads' HO511.out).2.2 | (with_reducible refine Kd.C_alloc ?_ _) | (with_reducible refine Kd.C_drewN ?_ _) | (with_reducible refine Kd.C_drew ?_))); (case side2 => exact (Kd.R_reads' HO511.out).2.1); rintro e w' ⟨rfl, ⟨nd, rfl⟩⟩; refine ⟨_, rfl, ?_⟩) | (go_at_call 22; (with_reducible refine (cutplaneref03_Class.calls k a0 a1 t513 _ A7.out).mono ?_); rintro e w121 ⟨rfl, hb⟩; have n0_ := Aside0.mk (Kd.R_below (by (with_reducible repeat (first | apply Kd.R_alloc | apply Kd.R_drewN | apply Kd.R_drew)); exact HO511.out) hb); have n1_ := Aside0.mk (below_step (by repeat (first | (with_reducible first | exact HB.out | apply below_alloc | apply pw_below_drewN | apply below_drew1) | exact HB.out)) hb); clear HO511; clear HB; have HO511 := n0_; have HB := n1_; clear n0_ n1_; (try clear hb); (try clear hb2); (try clear hk); (try clear hi)) | (go_at_call 22; (with_reducible refine (cutplaneref03_Class.calls k a0 a2 t515 _ A15.out).mono ?_); rintro e w122 ⟨rfl, hb⟩; have n0_ := Aside0.mk (Kd.R_below (by (with_reducible repeat (first | apply Kd.R_alloc | apply Kd.R_drewN | apply Kd.R_drew)); exact HO511.out) hb); have n1_ := Aside0.mk (below_step (by repeat (first | (with_reducible first | exact HB.out | apply below_alloc | apply pw_below_drewN | apply below_drew1) | exact HB.out)) hb); clear HO511; clear HB; have HO511 := n0_; have HB := n1_; clear n0_ n1_; (try clear hb); (try clear hb2); (try clear hk); (try clear hi)) | (go_at_call 22; (with_reducible refine (cutplaneref03_Class.calls k a0 a3 t517 _ A24.out).mono ?_); rintro e w123 ⟨rfl, hb⟩; have n0_ := Aside0.mk (Kd.R_below (by (with_reducible repeat (first | apply Kd.R_alloc | apply Kd.R_drewN | apply Kd.R_drew)); exact HO511.out) hb); have n1_ := Aside0.mk (below_step (by repeat (first | (with_reducible first | exact HB.out | apply below_alloc | apply pw_below_drewN | apply below_drew1) | exact HB.out)) hb); clear HO511; clear HB; have HO511 := n0_; have HB := n1_; clear n0_ n1_; (try clear hb); (try clear hb2); (try clear hk); (try clear hi)) | ((with_reducible refine gate_callee (f := 18) rfl ?_); refine goesL_ (some 57) rfl rfl Try.func18 (by kernel_rfl) rfl #[.int .u8 a0, .int .u64 a1, .int .u64 a2] rfl (by (try simp only [List.map_toArray, List.map_cons, List.map_nil]); first | done | rfl | (simp only [List.length_drop, List.length_take]; rfl)) ?_; (with_reducible refine (rank_Min.calls k a0 a1 a2 t519 t520 _ A34.out).mono ?_); rintro e w124 ⟨rfl, hb⟩; refine ⟨_, rfl, ?_⟩; have n0_ := Aside0.mk (Kd.R_below (by (with_reducible repeat (first | apply Kd.R_alloc | apply Kd.R_drewN | apply Kd.R_drew)); exact HO511.out) hb); have n1_ := Aside0.mk (below_step (by repeat (first | (with_reducible first | exact HB.out | apply below_alloc | apply pw_below_drewN | apply below_drew1) | exact HB.out)) hb); clear HO511; clear HB; have HO511 := n0_; have HB := n1_; clear n0_ n1_; (try clear hb); (try clear hb2); (try clear hk); (try clear hi)) | ((with_reducible refine gate_callee (f := 19) rfl ?_); refine goesL_ (some 64) rfl rfl Try.func19 (by kernel_rfl) rfl #[.int .u8 a0, .int .u64 a1, .int .u64 a2] rfl (by (try simp only [List.map_toArray, List.map_cons, List.map_nil]); first | done | rfl | (simp only [List.length_drop, List.length_take]; rfl)) ?_; (with_reducible refine (rank_Max.calls k a0 a1 a2 t521 t522 _ A35.out).mono ?_); rintro e w125 ⟨rfl, hb⟩; refine ⟨_, rfl, ?_⟩; have n0_ := Aside0.mk (Kd.R_below (by (with_reducible repeat (first | apply Kd.R_alloc | apply Kd.R_drewN | apply Kd.R_drew)); exact HO511.out) hb); have n1_ := Aside0.mk (below_step (by repeat (first | (with_reducible first | exact HB.out | apply below_alloc | apply pw_below_drewN | apply below_drew1) | exact HB.out)) hb); clear HO511; clear HB; have HO511 := n0_; have HB := n1_; clear n0_ n1_; (try clear hb); (try clear hb2); (try clear hk); (try clear hi)) | ((with_reducible refine gate_callee (f := 18) rfl ?_); refine goesL_ (some 71) rfl rfl Try.func18 (by kernel_rfl) rfl #[.int .u8 a0, .int .u64 a2, .int .u64 a1] rfl (by (try simp only [List.map_toArray, List.map_cons, List.map_nil]); first | done | rfl | (simp only [List.length_drop, List.length_take]; rfl)) ?_; (with_reducible refine (rank_Min.calls k a0 a2 a1 t523 t524 _ A36.out).mono ?_); rintro e w126 ⟨rfl, hb⟩; refine ⟨_, rfl, ?_⟩; have n0_ := Aside0.mk (Kd.R_below (by (with_reducible repeat (first | apply Kd.R_alloc | apply Kd.R_drewN | apply Kd.R_drew)); exact HO511.out) hb); have n1_ := Aside0.mk (below_step (by repeat (first | (with_reducible first | exact HB.out | apply below_alloc | apply pw_below_drewN | apply below_drew1) | exact HB.out)) hb); clear HO511; clear HB; have HO511 := n0_; have HB := n1_; clear n0_ n1_; (try clear hb); (try clear hb2); (try clear hk); (try clear hi)) | ((with_reducible refine gate_callee (f := 19) rfl ?_); refine goesL_ (some 78) rfl rfl Try.func19 (by kernel_rfl) rfl #[.int .u8 a0, .int .u64 a2, .int .u64 a1] rfl (by (try simp only [List.map_toArray, List.map_cons, List.map_nil]); first | done | rfl | (simp only [List.length_drop, List.length_take]; rfl)) ?_; (with_reducible refine (rank_Max.calls k a0 a2 a1 t525 t526 _ A37.out).mono ?_); rintro e w127 ⟨rfl, hb⟩; refine ⟨_, rfl, ?_⟩; have n0_ := Aside0.mk (Kd.R_below (by (with_reducible repeat (first | apply Kd.R_alloc | apply Kd.R_drewN | apply Kd.R_drew)); exact HO511.out) hb); have n1_ := Aside0.mk (below_step (by repeat (first | (with_reducible first | exact HB.out | apply below_alloc | apply pw_below_drewN | apply below_drew1) | exact HB.out)) hb); clear HO511; clear HB; have HO511 := n0_; have HB := n1_; clear n0_ n1_; (try clear hb); (try clear hb2); (try clear hk); (try clear hi)) | ((with_reducible refine gate_callee (f := 12) rfl ?_); refine goesL_ (some 85) rfl rfl Try.func12 (by kernel_rfl) rfl #[.int .u8 a0, .int .u64 t519, .int .u64 t521] rfl (by (try simp only [List.map_toArray, List.map_cons, List.map_nil]); first | done | rfl | (simp only [List.length_drop, List.length_take]; rfl)) ?_; (with_reducible refine (rank_Total.calls k a0 t519 t521 t527 t528 _ A38.out).mono ?_); rintro e w128 ⟨rfl, hb⟩; refine ⟨_, rfl, ?_⟩; have n0_ := Aside0.mk (Kd.R_below (by (with_reducible repeat (first | apply Kd.R_alloc | apply Kd.R_drewN | apply Kd.R_drew)); exact HO511.out) hb); have n1_ := Aside0.mk (below_step (by repeat (first | (with_reducible first | exact HB.out | apply below_alloc | apply pw_below_drewN | apply below_drew1) | exact HB.out)) hb); clear HO511; clear HB; have HO511 := n0_; have HB := n1_; clear n0_ n1_; (try clear hb); (try clear hb2); (try clear hk); (try clear hi)) | ((with_reducible refine gate_callee (f := 18) rfl ?_); refine goesL_ (some 145) rfl rfl Try.func18 (by kernel_rfl) rfl #[.int .u8 a0, .int .u64 t519, .int .u64 a3] rfl (by (try simp only [List.map_toArray, List.map_cons, List.map_nil]); first | done | rfl | (simp only [List.length_drop, List.length_take]; rfl)) ?_; (with_reducible refine (rank_Min.calls k a0 t519 a3 t547 t548 _ A107.out).mono ?_); rintro e w129 ⟨rfl, hb⟩; refine ⟨_, rfl, ?_⟩; have n0_ := Aside0.mk (Kd.R_below (by (with_reducible repeat (first | apply Kd.R_alloc | apply Kd.R_drewN | apply Kd.R_drew)); exact HO511.out) hb); have n1_ := Aside0.mk (below_step (by repeat (first | (with_reducible first | exact HB.out | apply below_alloc | apply pw_below_drewN | apply below_drew1) | exact HB.out)) hb); clear HO511; clear HB; have HO511 := n0_; have HB := n1_; clear n0_ n1_; (try clear hb); (try clear hb2); (try clear hk); (try clear hi)) | ((with_reducible refine gate_callee (f := 18) rfl ?_); refine goesL_ (some 152) rfl rfl Try.func18 (by kernel_rfl) rfl #[.int .u8 a0, .int .u64 a2, .int .u64 a3] rfl (by (try simp only [List.map_toArray, List.map_cons, List.map_nil]); first | done | rfl | (simp only [List.length_drop, List.length_take]; rfl)) ?_; (with_reducible refine (rank_Min.calls k a0 a2 a3 t549 t550 _ A108.out).mono ?_); rintro e w130 ⟨rfl, hb⟩; refine ⟨_, rfl, ?_⟩; have n0_ := Aside0.mk (Kd.R_below (by (with_reducible repeat (first | apply Kd.R_alloc | apply Kd.R_drewN | apply Kd.R_drew)); exact HO511.out) hb); have n1_ := Aside0.mk (below_step (by repeat (first | (with_reducible first | exact HB.out | apply below_alloc | apply pw_below_drewN | apply below_drew1) | exact HB.out)) hb); clear HO511; clear HB; have HO511 := n0_; have HB := n1_; clear n0_ n1_; (try clear hb); (try clear hb2); (try clear hk); (try clear hi)) | ((with_reducible refine gate_callee (f := 18) rfl ?_); refine goesL_ (some 159) rfl rfl Try.func18 (by kernel_rfl) rfl #[.int .u8 a0, .int .u64 a1, .int .u64 t549] rfl (by (try simp only [List.map_toArray, List.map_cons, List.map_nil]); first | done | rfl | (simp only [List.length_drop, List.length_take]; rfl)) ?_; (with_reducible refine (rank_Min.calls k a0 a1 t549 t551 t552 _ A109.out).mono ?_); rintro e w131 ⟨rfl, hb⟩; refine ⟨_, rfl, ?_⟩; have n0_ := Aside0.mk (Kd.R_below (by (with_reducible repeat (first | apply Kd.R_alloc | apply Kd.R_drewN | apply Kd.R_drew)); exact HO511.out) hb); have n1_ := Aside0.mk (below_step (by repeat (first | (with_reducible first | exact HB.out | apply below_alloc | apply pw_below_drewN | apply below_drew1) | exact HB.out)) hb); clear HO511; clear HB; have HO511 := n0_; have HB := n1_; clear n0_ n1_; (try clear hb); (try clear hb2); (try clear hk); (try clear hi)) | ((with_reducible refine gate_callee (f := 19) rfl ?_); refine goesL_ (some 166) rfl rfl Try.func19 (by kernel_rfl) rfl #[.int .u8 a0, .int .u64 a1, .int .u64 t519] rfl (by (try simp only [List.map_toArray, List.map_cons, List.map_nil]); first | done | rfl | (simp only [List.length_drop, List.length_take]; rfl)) ?_; (with_reducible refine (rank_Max.calls k a0 a1 t519 t553 t554 _ A110.out).mono ?_); rintro e w132 ⟨rfl, hb⟩; refine ⟨_, rfl, ?_⟩; have n0_ := Aside0.mk (Kd.R_below (by (with_reducible repeat (first | apply Kd.R_alloc | apply Kd.R_drewN | apply Kd.R_drew)); exact HO511.out) hb); have n1_ := Aside0.mk (below_step (by repeat (first | (with_reducible first | exact HB.out | apply below_alloc | apply pw_below_drewN | apply below_drew1) | exact HB.out)) hb); clear HO511; clear HB; have HO511 := n0_; have HB := n1_; clear n0_ n1_; (try clear hb); (try clear hb2); (try clear hk); (try clear hi)) | (go_at_call 14; (with_reducible refine (cutplanelaw07_known.calls k  t555 _ A117.out).mono ?_); rintro e w133 ⟨rfl, hb⟩; have n0_ := Aside0.mk (Kd.R_below (by (with_reducible repeat (first | apply Kd.R_alloc | apply Kd.R_drewN | apply Kd.R_drew)); exact HO511.out) hb); have n1_ := Aside0.mk (below_step (by repeat (first | (with_reducible first | exact HB.out | apply below_alloc | apply pw_below_drewN | apply below_drew1) | exact HB.out)) hb); clear HO511; clear HB; have HO511 := n0_; have HB := n1_; clear n0_ n1_; (try clear hb); (try clear hb2); (try clear hk); (try clear hi)))
                                            go_ret
                                            exact ⟨by first | rfl | (simp [errW_none, errW_some] <;> rfl) | (simp [*, errW_none, errW_some] <;> rfl), by repeat (first | (with_reducible first | exact HB.out | apply below_alloc | apply pw_below_drewN | apply below_drew1) | exact HB.out)⟩
                                          · rw [if_neg c116] at H
                                            exact absurd H (by simp)
                                        · rw [if_neg c115] at H
                                          exact absurd H (by simp)
                                      · rw [if_neg c114] at H
                                        exact absurd H (by simp)
                                    · rw [if_neg c113] at H
                                      exact absurd H (by simp)
                                  · rw [if_neg c112] at H
                                    exact absurd H (by simp)
                                · rw [if_neg c111] at H
                                  exact absurd H (by simp)
                              · rw [if_neg c106] at H
                                exact absurd H (by simp)
                            · rw [if_neg c105] at H
                              exact absurd H (by simp)
                      · rw [if_neg c45] at H
                        exact absurd H (by simp)
                    · rw [if_neg c44] at H
                      exact absurd H (by simp)
                  · rw [if_neg c43] at H
                    exact absurd H (by simp)
                · rw [if_neg c42] at H
                  exact absurd H (by simp)
              · rw [if_neg c41] at H
                exact absurd H (by simp)
            · rw [if_neg c40] at H
              exact absurd H (by simp)
          · rw [if_neg c39] at H
            exact absurd H (by simp)
  · rw [if_neg c6] at H
    have c6b0 : (t512 == 0) = false := beq_eq_false_iff_ne.mpr c6
    have c6b1 : (t512 != 0) = true := bne_iff_ne.mpr c6
    replace H := Option.bind_eq_some_iff.mp H
    obtain ⟨t556, A1340, H⟩ := H
    replace H : (some t556) = some r := H
    have A134 := Aside0.mk A1340
    clear A1340
    obtain rfl := Option.some.inj H
    go_enter Try.func6, Try.ntmps6
    go_wp2_with (first | ((with_reducible refine gate_dst (N := 31) rfl ?_); refine Kd.R_lit (Kd.int .u64) _ 23 ?hg (N := 31) ?hd (xs := ([a1, a2, a3] : List Int)) (inner := [.int .u64 a1, .int .u64 a2, .int .u64 a3]) (ok := fun _ => True) (okp := fun _ => True) ?hr ?hp (fun _ hk => hk) trivial (Below.refl _ _) (Nat.le_refl _) (by simp) ?_; (case hd => rfl); (case hg => rfl); (case hr => first | (go_simp; done) | (go_simp; rfl)); (case hp => exact (Reps.one (show Kd.M (Kd.int .u64) _ _ _ a1 [.int .u64 a1] from rfl) (Reps.one (show Kd.M (Kd.int .u64) _ _ _ a2 [.int .u64 a2] from rfl) (Reps.one (show Kd.M (Kd.int .u64) _ _ _ a3 [.int .u64 a3] from rfl) (Reps.none _ _))))); intro v510 w135 ho136 hb hg_ hnew_; clear hg_ hnew_; (first | rw [← Ny509.out] at ho136 | (simp only [Int.reduceToNat] at ho136; rw [← Ny509.out] at ho136)); have n0_ := Aside0.mk (Kd.R_lower ho136 (below_size (by repeat (first | (with_reducible first | exact HB.out | apply below_alloc | apply pw_below_drewN | apply below_drew1) | exact HB.out)))); have n1_ := Aside0.mk (below_step (by repeat (first | (with_reducible first | exact HB.out | apply below_alloc | apply pw_below_drewN | apply below_drew1) | exact HB.out)) hb); clear HB; have HO511 := n0_; have HB := n1_; clear n0_ n1_; clear hb ho136; obtain ⟨Ao137, co137, eo137⟩ := Kd.R_slice HO511.out; subst eo137) | ((with_reducible refine gate_callee (f := 13) rfl ?_); refine goesL_ (some 32) rfl rfl Try.func13 (by kernel_rfl) rfl #[.int .u8 a0, .slice Ao137 y509.length co137] rfl (by (try simp only [List.map_toArray, List.map_cons, List.map_nil]); first | done | rfl | (simp only [List.length_drop, List.length_take]; rfl)) ?_; (with_reducible refine (cutplaneref07_Opens.calls k a0 _ _ y509 t512 _ ?side1 ?side2 A5.out).mono ?_); (case side1 => repeat (first | exact (Kd.R_reads' HO511.out).2.2 | (with_reducible refine Kd.C_alloc ?_ _) | (with_reducible refine Kd.C_drewN ?_ _) | (with_reducible refine Kd.C_drew ?_))); (case side2 => exact (Kd.R_reads' HO511.out).2.1); rintro e w' ⟨rfl, ⟨nd, rfl⟩⟩; refine ⟨_, rfl, ?_⟩) | ((with_reducible refine gate_callee (f := 14) rfl ?_); refine goesL_ (some 52) rfl rfl Try.func14 (by kernel_rfl) rfl #[] rfl (by (try simp only [List.map_toArray, List.map_cons, List.map_nil]); first | done | rfl | (simp only [List.length_drop, List.length_take]; rfl)) ?_; (with_reducible refine (cutplanelaw07_known.calls k  t556 _ A134.out).mono ?_); rintro e w138 ⟨rfl, hb⟩; refine ⟨_, rfl, ?_⟩; have n0_ := Aside0.mk (Kd.R_below (by (with_reducible repeat (first | apply Kd.R_alloc | apply Kd.R_drewN | apply Kd.R_drew)); exact HO511.out) hb); have n1_ := Aside0.mk (below_step (by repeat (first | (with_reducible first | exact HB.out | apply below_alloc | apply pw_below_drewN | apply below_drew1) | exact HB.out)) hb); clear HO511; clear HB; have HO511 := n0_; have HB := n1_; clear n0_ n1_; (try clear hb); (try clear hb2); (try clear hk); (try clear hi)))
    go_ret
    exact ⟨by first | rfl | (simp [errW_none, errW_some] <;> rfl) | (simp [*, errW_none, errW_some] <;> rfl), by repeat (first | (with_reducible first | exact HB.out | apply below_alloc | apply pw_below_drewN | apply below_drew1) | exact HB.out)⟩
/-- THE ONE PURE STATEMENT of cutplanelaw07_RankLattice: yours. -/
def cutplanelaw07_RankLattice.Pure : Prop := ∀ (a0 : Int) (a1 : Int) (a2 : Int) (a3 : Int), (Lit.int .u8 a0).wf = true → (Lit.int .u64 a1).wf = true → (Lit.int .u64 a2).wf = true → (Lit.int .u64 a3).wf = true → ∃ k, cutplanelaw07_RankLattice.f k a0 a1 a2 a3 = some true
theorem cutplanelaw07_RankLattice.walk (P : cutplanelaw07_RankLattice.Pure) (a0 : Int) (a1 : Int) (a2 : Int) (a3 : Int) (w : World) (w0 : (Lit.int .u8 a0).wf = true) (w1 : (Lit.int .u64 a1).wf = true) (w2 : (Lit.int .u64 a2).wf = true) (w3 : (Lit.int .u64 a3).wf = true) :
    Calls Try.prog 6 #[.int .u8 a0, .int .u64 a1, .int .u64 a2, .int .u64 a3] w fun e w' => e = .returned (.bool true) ∧ Below w.heap.size w w' := by
  obtain ⟨k, h⟩ := P a0 a1 a2 a3 w0 w1 w2 w3
  refine (cutplanelaw07_RankLattice.calls k a0 a1 a2 a3 true w h).mono ?_
  rintro e w' ⟨rfl, hd⟩
  exact ⟨rfl, hd⟩
end Go.Proofs.Ytnjdaoeebhbmfaa.PA
end

section
namespace Go.Proofs.Ytnjdaoeebhbmfaa.Wd
open Go
theorem nat_or_lt {n a : Nat} (h : a < 2 ^ n) : a ||| 2 ^ n = 2 ^ n + a := by
  have := Nat.two_pow_add_eq_or_of_lt h 1
  rw [Nat.mul_one] at this
  rw [this, Nat.or_comm]
theorem nat_mask {n a : Nat} (hn : n ≤ 63) (h : a < 2 ^ (n + 1)) : a &&& (2 ^ 64 - (2 ^ n + 1)) = a % 2 ^ n := by
  apply Nat.eq_of_testBit_eq
  intro i
  rw [Nat.testBit_and, Nat.testBit_mod_two_pow, Nat.testBit_two_pow_sub_succ (by exact Nat.pow_lt_pow_right (by decide) (by omega)), Nat.testBit_two_pow]
  by_cases e : i < n
  · simp [e, show n ≠ i by omega, show i < 64 by omega]
  · by_cases e2 : n = i
    · subst e2; simp
    · have : a.testBit i = false := Nat.testBit_lt_two_pow (Nat.lt_of_lt_of_le h (Nat.pow_le_pow_right (by decide) (by omega)))
      simp [this]
section
variable {w : Int}
theorem andNot31 (h0 : 0 ≤ w) (h1 : w < 4294967296) : Go.bits .andNot .u64 w 2147483648 = w % 2147483648 := by
  obtain ⟨a, rfl⟩ := Int.eq_ofNat_of_zero_le h0
  have ha : a < 2 ^ (31 + 1) := by omega
  have e := u64_andNot_nat a 2147483648 (by omega) (by decide)
  have m : a &&& 18446744071562067967 = a % 2147483648 := nat_mask (n := 31) (by decide) ha
  rw [show ((2147483648 : Int)) = ((2147483648 : Nat) : Int) from rfl, e, show (18446744073709551615 - 2147483648 : Nat) = 18446744071562067967 from rfl, m]
  omega
theorem andNot63 (h0 : 0 ≤ w) (h1 : w < 18446744073709551616) : Go.bits .andNot .u64 w 9223372036854775808 = w % 9223372036854775808 := by
  obtain ⟨a, rfl⟩ := Int.eq_ofNat_of_zero_le h0
  have ha : a < 2 ^ (63 + 1) := by omega
  have e := u64_andNot_nat a 9223372036854775808 (by omega) (by decide)
  have m : a &&& 9223372036854775807 = a % 9223372036854775808 := nat_mask (n := 63) (by decide) ha
  rw [show ((9223372036854775808 : Int)) = ((9223372036854775808 : Nat) : Int) from rfl, e, show (18446744073709551615 - 9223372036854775808 : Nat) = 9223372036854775807 from rfl, m]
  omega
theorem or31 (h0 : 0 ≤ w) (h1 : w < 2147483648) : Go.bits .or .u64 w 2147483648 = w + 2147483648 := by
  obtain ⟨a, rfl⟩ := Int.eq_ofNat_of_zero_le h0
  have e := u64_or_nat a 2147483648 (by omega) (by decide)
  have m : a ||| 2147483648 = 2 ^ 31 + a := nat_or_lt (n := 31) (by omega)
  rw [show ((2147483648 : Int)) = ((2147483648 : Nat) : Int) from rfl, e, m]
  omega
theorem or63 (h0 : 0 ≤ w) (h1 : w < 9223372036854775808) : Go.bits .or .u64 w 9223372036854775808 = w + 9223372036854775808 := by
  obtain ⟨a, rfl⟩ := Int.eq_ofNat_of_zero_le h0
  have e := u64_or_nat a 9223372036854775808 (by omega) (by decide)
  have m : a ||| 9223372036854775808 = 2 ^ 63 + a := nat_or_lt (n := 63) (by omega)
  rw [show ((9223372036854775808 : Int)) = ((9223372036854775808 : Nat) : Int) from rfl, e, m]
  omega
theorem wrapu64 (n : Int) : IntKind.u64.wrap n = n % 18446744073709551616 := by simp [IntKind.wrap, IntKind.bits, IntKind.signed]
end
end Go.Proofs.Ytnjdaoeebhbmfaa.Wd
end

section
namespace Go.Proofs.Ytnjdaoeebhbmfaa.PA
open Go.RowKit Go.Proofs.YtnjdaoeebhbmfaaW.PrintWords Go.Proofs.YtnjdaoeebhbmfaaW.PrintLast Go.Proofs.YtnjdaoeebhbmfaaW.PrintMore Go.Proofs.Ytnjdaoeebhbmfaa.Wd
set_option linter.unusedSimpArgs false
set_option linter.unusedVariables false
/-- the class of a size: P one above the fractions, I the infinite size -/
def cls (P I s : Int) : Int := if s = 0 then 1 else if s < P then 2 else if s < I then 3 else if s = I then 4 else 5
def sgn (f : Int) : Int := if f = 1 then 2147483648 else 9223372036854775808
def one (f : Int) : Int := if f = 1 then 8388608 else 4503599627370496
def infw (f : Int) : Int := if f = 1 then 2139095040 else 9218868437227405312
def nanw (f : Int) : Int := if f = 1 then 2143289344 else 9221120237041090560
def cl (f w : Int) : Int := cls (one f) (infw f) (w % sgn f)
/-- the error of a word, as Good tells it -/
def err (f w : Int) : Int := if f = 1 then (if w ≥ 4294967296 then 6 else 0) else if f = 2 then 0 else 4
/-- a good word -/
def Gd (f w : Int) : Prop := (f = 1 ∧ 0 ≤ w ∧ w < 4294967296) ∨ (f = 2 ∧ 0 ≤ w ∧ w < 18446744073709551616)
def U (w : Int) : Prop := 0 ≤ w ∧ w < 18446744073709551616
theorem Gd.u {f w : Int} (h : Gd f w) : U w := by rcases h with ⟨_, a, b⟩ | ⟨_, a, b⟩ <;> exact ⟨a, by omega⟩
theorem Gd.err {f w : Int} (h : Gd f w) : err f w = 0 := by
  rcases h with ⟨rfl, a, b⟩ | ⟨rfl, a, b⟩
  · simp [PA.err]; omega
  · simp [PA.err]
theorem gd_of {f w : Int} (h : err f w = 0) (hu : U w) : Gd f w := by
  unfold err at h
  unfold U at hu
  unfold Gd
  split at h
  · split at h
    · omega
    · omega
  · split at h <;> omega
theorem u_of {w : Int} (h : (Lit.int .u64 w).wf = true) : U w := by have := bounds_u64 h; exact ⟨by omega, by omega⟩
theorem rd_zero (w : Int) : rd [w] 0 = w := by rfl
theorem top31 : Go.bits .or .u64 2147483648 (IntKind.u64.wrap (2147483648 - 1)) = 4294967295 := by decide +kernel
theorem top63 : Go.bits .or .u64 9223372036854775808 (IntKind.u64.wrap (9223372036854775808 - 1)) = 18446744073709551615 := by decide +kernel
/-- the shape of a format -/
def shp (f : Int) : Int × Int × Int := if f = 1 then (23, 255, 2147483648) else if f = 2 then (52, 2047, 9223372036854775808) else (0, 0, 0)
theorem open_nil (k : Nat) (f : Int) : word_open.f (k + 1) f [] = some ((shp f).1, (shp f).2.1, (shp f).2.2, if f = 1 ∨ f = 2 then 0 else 4) := by
  unfold word_open.f word_shapeOf.f shp
  by_cases h1 : f = 1
  · subst h1; simp [word_open.l0]
  · by_cases h2 : f = 2
    · subst h2; simp [word_open.l0]
    · simp [h1, h2]
theorem open_one (k : Nat) (f w : Int) (hu : U w) : word_open.f (k + 2) f [w] = some ((shp f).1, (shp f).2.1, (shp f).2.2, err f w) := by
  obtain ⟨h0, h3⟩ := hu
  unfold word_open.f word_shapeOf.f shp err
  by_cases h1 : f = 1
  · subst h1
    have l1 : (([w] : List Int).length : Int) = 1 := rfl
    have w1 : wrap64 (0 + 1) = 1 := by decide +kernel
    simp only [if_true, Option.bind_some, word_open.l0, l1, rd_zero, top31, Int.zero_lt_one, Int.le_refl, w1]
    by_cases c : w ≥ 4294967296
    · rw [if_pos (by omega)]; simp [c]
    · rw [if_neg (by omega)]; simp [c]
  · by_cases h2 : f = 2
    · subst h2
      have l1 : (([w] : List Int).length : Int) = 1 := rfl
      have w1 : wrap64 (0 + 1) = 1 := by decide +kernel
      simp only [show (¬ ((2 : Int) = 1)) by decide, if_false, if_true, Option.bind_some, word_open.l0, l1, rd_zero, top63, Int.zero_lt_one, Int.le_refl, w1]
      rw [if_neg (by omega)]
      simp
    · simp [h1, h2]
theorem shape_inf1 : word_shape_inf.f 23 255 2147483648 = some 2139095040 := by decide +kernel
theorem shape_inf2 : word_shape_inf.f 52 2047 9223372036854775808 = some 9218868437227405312 := by decide +kernel
theorem shape_none1 : word_shape_none.f 23 255 2147483648 = some 2143289344 := by decide +kernel
theorem shape_none2 : word_shape_none.f 52 2047 9223372036854775808 = some 9221120237041090560 := by decide +kernel
theorem shl23 : shl .u64 1 23 = 8388608 := by decide +kernel
theorem shl52 : shl .u64 1 52 = 4503599627370496 := by decide +kernel
theorem shape_class {f w : Int} (h : Gd f w) : word_shape_class.f (shp f).1 (shp f).2.1 (shp f).2.2 w = some (cl f w) := by
  rcases h with ⟨rfl, h0, h1⟩ | ⟨rfl, h0, h1⟩
  · have e1 : shp 1 = (23, 255, 2147483648) := rfl
    rw [e1]
    simp only [word_shape_class.f, andNot31 h0 h1, shape_inf1, Option.bind_some, shl23, cl, cls, one, infw, sgn, if_true]
    repeat' split
    all_goals first | rfl | (exfalso; omega)
  · have e1 : shp 2 = (52, 2047, 9223372036854775808) := rfl
    rw [e1]
    simp only [word_shape_class.f, andNot63 h0 h1, shape_inf2, Option.bind_some, shl52, cl, cls, one, infw, sgn]
    simp only [show (¬ ((2 : Int) = 1)) by decide, if_false]
    repeat' split
    all_goals first | rfl | (exfalso; omega)
theorem class_good (k : Nat) {f w : Int} (h : Gd f w) : word_Class.f (k + 2) f w = some (cl f w, 0) := by
  unfold word_Class.f
  rw [open_one k f w h.u, h.err]
  simp only [Option.bind_some, if_true, shape_class h]
theorem good_word (k : Nat) {f w : Int} (hu : U w) : word_Good.f (k + 2) f w = some (err f w) := by
  unfold word_Good.f
  rw [open_one k f w hu]
  simp only [Option.bind_some]
theorem ref_Is (f : Int) : cutplaneref03_Is.f f = some (decide (f = 1 ∨ f = 2)) := by
  unfold cutplaneref03_Is.f
  by_cases h1 : f = 1
  · simp [h1]
  · rw [if_neg h1]; by_cases h2 : f = 2 <;> simp [h1, h2]
theorem ref_Good (f w : Int) : cutplaneref03_Good.f f w = some (err f w) := by
  unfold cutplaneref03_Good.f err
  rw [ref_Is]
  by_cases h1 : f = 1
  · subst h1; simp
    split <;> rfl
  · by_cases h2 : f = 2 <;> simp [h1, h2]
theorem ref_Split (f : Int) {w : Int} (hu : U w) : cutplaneref03_Split.f f w = some (decide (w ≥ sgn f), w % sgn f / one f, w % one f) := by
  unfold cutplaneref03_Split.f sgn one
  unfold U at hu
  rw [if_pos hu]
  split <;> rfl
theorem ref_Most (f : Int) : cutplaneref03_Most.f f = some (if f = 1 then 255 else 2047) := by unfold cutplaneref03_Most.f; split <;> rfl
theorem ref_Class (k : Nat) (f : Int) {w : Int} (hu : U w) : cutplaneref03_Class.f (k + 1) f w = some (cl f w) := by
  obtain ⟨h0, h1⟩ := hu
  unfold cutplaneref03_Class.f
  rw [ref_Split f ⟨h0, h1⟩]
  simp only [Option.bind_some, cutplaneref03_Class.j0, ref_Most]
  unfold cl cls sgn one infw
  by_cases hf : f = 1
  · simp only [hf, if_true]
    by_cases a : w % 2147483648 / 8388608 = 0
    · rw [if_pos a]
      by_cases b : w % 8388608 = 0
      · rw [if_pos (by simp [b]), if_pos (by omega)]
      · rw [if_neg (by simp [b]), if_pos a, if_neg (by omega), if_pos (by omega)]
    · rw [if_neg a, if_neg (by decide), if_neg a]
      by_cases c : w % 2147483648 / 8388608 < 255
      · rw [if_pos c, if_neg (by omega), if_neg (by omega), if_pos (by omega)]
      · rw [if_neg c]
        by_cases d : w % 8388608 = 0
        · rw [if_pos d, if_neg (by omega), if_neg (by omega), if_neg (by omega), if_pos (by omega)]
        · rw [if_neg d, if_neg (by omega), if_neg (by omega), if_neg (by omega), if_neg (by omega)]
  · simp only [hf, if_false]
    by_cases a : w % 9223372036854775808 / 4503599627370496 = 0
    · rw [if_pos a]
      by_cases b : w % 4503599627370496 = 0
      · rw [if_pos (by simp [b]), if_pos (by omega)]
      · rw [if_neg (by simp [b]), if_pos a, if_neg (by omega), if_pos (by omega)]
    · rw [if_neg a, if_neg (by decide), if_neg a]
      by_cases c : w % 9223372036854775808 / 4503599627370496 < 2047
      · rw [if_pos c, if_neg (by omega), if_neg (by omega), if_pos (by omega)]
      · rw [if_neg c]
        by_cases d : w % 4503599627370496 = 0
        · rw [if_pos d, if_neg (by omega), if_neg (by omega), if_neg (by omega), if_pos (by omega)]
        · rw [if_neg d, if_neg (by omega), if_neg (by omega), if_neg (by omega), if_neg (by omega)]
def canw (f w : Int) : Int := if cl f w = 5 then nanw f else w
def absw (f w : Int) : Int := if cl f w = 5 then nanw f else w % sgn f
theorem shape_none {f w : Int} (h : Gd f w) : word_shape_none.f (shp f).1 (shp f).2.1 (shp f).2.2 = some (nanw f) := by
  rcases h with ⟨rfl, _, _⟩ | ⟨rfl, _, _⟩
  · exact shape_none1
  · exact shape_none2
theorem turned_good (k : Nat) {f w : Int} (h : Gd f w) {g : Int → Int → Int → Option Int} {z : Int} (hg : g (shp f).1 (shp f).2.1 (shp f).2.2 = some z) :
    word_turned.f (k + 2) f w g = some (if cl f w = 5 then nanw f else z, 0) := by
  unfold word_turned.f
  rw [open_one k f w h.u, h.err]
  simp only [Option.bind_some, if_true, shape_class h, shape_none h, hg]
  split <;> rfl
theorem shp3 {f w : Int} (h : Gd f w) : (shp f).2.2 = sgn f := by
  rcases h with ⟨rfl, _, _⟩ | ⟨rfl, _, _⟩ <;> rfl
theorem canon_good (k : Nat) {f w : Int} (h : Gd f w) : word_Canon.f (k + 2) f w = some (canw f w, 0) := by
  unfold word_Canon.f
  rw [turned_good k h (z := w) rfl]; rfl
theorem abs_good (k : Nat) {f w : Int} (h : Gd f w) : word_Abs.f (k + 2) f w = some (absw f w, 0) := by
  unfold word_Abs.f
  rw [turned_good k h (z := w % sgn f) ?_]
  · rfl
  · unfold word_Abs_1.f
    rw [shp3 h]
    rcases h with ⟨rfl, h0, h1⟩ | ⟨rfl, h0, h1⟩
    · exact congrArg some (andNot31 h0 h1)
    · exact congrArg some (andNot63 h0 h1)
theorem sgn_cases (f : Int) : sgn f = 2147483648 ∨ sgn f = 9223372036854775808 := by unfold sgn; split <;> simp
theorem open_nil' (k : Nat) (f : Int) : word_open.f (k + 1) f ([] : List Int) = some ((shp f).1, (shp f).2.1, (shp f).2.2, if f = 1 ∨ f = 2 then 0 else 4) := open_nil k f
end Go.Proofs.Ytnjdaoeebhbmfaa.PA
end

section
namespace Go.Proofs.Ytnjdaoeebhbmfaa.PA
open Go.RowKit Go.Proofs.YtnjdaoeebhbmfaaW.PrintWords Go.Proofs.YtnjdaoeebhbmfaaW.PrintLast Go.Proofs.YtnjdaoeebhbmfaaW.PrintMore Go.Proofs.Ytnjdaoeebhbmfaa.Wd
set_option linter.unusedSimpArgs false
set_option linter.unusedVariables false
theorem named_good (k : Nat) {f : Int} (hf : f = 1 ∨ f = 2) (b : Bool) {g : Int → Int → Int → Option Int} {z : Int} (hg : g (shp f).1 (shp f).2.1 (shp f).2.2 = some z) (h0 : 0 ≤ z) (h1 : z < sgn f) :
    word_named.f (k + 1) f b g = some (if b then z + sgn f else z, 0) := by
  unfold word_named.f
  rw [open_nil' k f]
  simp only [Option.bind_some, if_pos hf, if_true, hg]
  have e : Go.bits .or .u64 z (shp f).2.2 = z + sgn f := by
    rcases hf with rfl | rfl
    · exact or31 h0 h1
    · exact or63 h0 h1
  rw [e]
  cases b <;> rfl
theorem named_nof (k : Nat) {f : Int} (hf : ¬ (f = 1 ∨ f = 2)) (b : Bool) {g : Int → Int → Int → Option Int} : word_named.f (k + 1) f b g = some (0, 4) := by
  unfold word_named.f
  rw [open_nil' k f]
  simp only [Option.bind_some, if_neg hf]
  rw [if_neg (by decide)]
theorem infw_lt (f : Int) : 0 ≤ infw f ∧ infw f < sgn f ∧ infw f < nanw f ∧ nanw f < sgn f ∧ one f < infw f ∧ 0 < one f := by unfold infw sgn nanw one; split <;> decide
theorem none_good (k : Nat) {f : Int} (hf : f = 1 ∨ f = 2) : word_None.f (k + 1) f = some (nanw f, 0) := by
  unfold word_None.f
  rw [named_good k hf false (z := nanw f) (by rcases hf with rfl | rfl; exact shape_none1; exact shape_none2) (by have := infw_lt f; omega) (infw_lt f).2.2.2.1]
  rfl
theorem none_nof (k : Nat) {f : Int} (hf : ¬ (f = 1 ∨ f = 2)) : word_None.f (k + 1) f = some (0, 4) := by unfold word_None.f; rw [named_nof k hf]; rfl
end Go.Proofs.Ytnjdaoeebhbmfaa.PA
end

section
namespace Go.Proofs.Ytnjdaoeebhbmfaa.PA
open Go.RowKit Go.Proofs.YtnjdaoeebhbmfaaW.PrintWords Go.Proofs.YtnjdaoeebhbmfaaW.PrintLast Go.Proofs.YtnjdaoeebhbmfaaW.PrintMore Go.Proofs.Ytnjdaoeebhbmfaa.Wd
set_option linter.unusedSimpArgs false
set_option linter.unusedVariables false
theorem rd_get (l : List Int) (i : Nat) (h : i < l.length) : rd l (i : Int) = l[i] := by
  unfold rd
  simp [h]
def okw (f w : Int) : Bool := decide (err f w = 0)
def errl (f : Int) (l : List Int) : Int := if f = 1 ∨ f = 2 then (if l.all (okw f) then 0 else 6) else 4
theorem err_fmt {f w : Int} (hf : f = 1 ∨ f = 2) : err f w = 0 ∨ err f w = 6 := by
  unfold err
  rcases hf with rfl | rfl
  · simp only [if_true]; split <;> simp
  · simp
theorem open_loop (f : Int) (l : List Int) (hf : f = 1 ∨ f = 2) (hl : l.length < 4611686018427387904) (hu : ∀ w ∈ l, U w) (d : Nat) : ∀ (k i : Nat), i ≤ l.length → l.length - i = d → d + 2 < k →
    rank_open.l0 k f l (l.length : Int) (i : Int) = some (if (l.drop i).all (okw f) then 0 else 6) := by
  induction d with
  | zero =>
    intro k i hi hd hk
    obtain ⟨k, rfl⟩ : ∃ m, k = m + 1 := ⟨k - 1, by omega⟩
    have e : i = l.length := by omega
    subst e
    simp only [rank_open.l0]
    rw [if_neg (by omega)]
    simp
  | succ d ih =>
    intro k i hi hd hk
    obtain ⟨k, rfl⟩ : ∃ m, k = m + 1 := ⟨k - 1, by omega⟩
    have hlt : i < l.length := by omega
    have hg : word_Good.f k f l[i] = some (err f l[i]) := by
      obtain ⟨j, rfl⟩ : ∃ j, k = j + 2 := ⟨k - 2, by omega⟩
      exact good_word (k := j) (f := f) (hu l[i] (List.getElem_mem hlt))
    have w1 : wrap64 ((i : Int) + 1) = ((i + 1 : Nat) : Int) := by unfold wrap64; omega
    have hd : l.drop i = l[i] :: l.drop (i + 1) := List.drop_eq_getElem_cons hlt
    simp only [rank_open.l0]
    rw [if_pos (by omega), if_pos (by omega), if_pos (by omega), rd_get l i hlt, hg, w1]
    simp only [Option.bind_some]
    rw [ih k (i + 1) (by omega) (by omega) (by omega), hd]
    rcases err_fmt (w := l[i]) hf with e | e
    · rw [if_pos e, List.all_cons, show okw f l[i] = true from decide_eq_true e, Bool.true_and]
    · rw [if_neg (by omega), List.all_cons, show okw f l[i] = false from decide_eq_false (by omega), Bool.false_and, e]; rfl
theorem open_list (f : Int) (l : List Int) (hl : l.length < 4611686018427387904) (hu : ∀ w ∈ l, U w) (k : Nat) (hk : l.length + 2 < k) : rank_open.f k f l = some (errl f l) := by
  obtain ⟨j, rfl⟩ : ∃ m, k = m + 1 := ⟨k - 1, by omega⟩
  unfold rank_open.f errl
  by_cases hf : f = 1 ∨ f = 2
  · rw [none_good j hf, if_pos hf]
    simp only [Option.bind_some, if_true]
    have := open_loop f l hf hl hu l.length (j + 1) 0 (by omega) (by omega) (by omega)
    rw [show ((0 : Nat) : Int) = 0 from rfl] at this
    rw [this]; simp
  · rw [none_nof j hf, if_neg hf]
    simp only [Option.bind_some]
    rw [if_neg (by decide)]
theorem opens_loop (f : Int) (l : List Int) (hl : l.length < 4611686018427387904) (d : Nat) : ∀ (k i : Nat), i ≤ l.length → l.length - i = d → d < k →
    cutplaneref07_Opens.l0 k f l (i : Int) = some (if (l.drop i).all (okw f) then 0 else 6) := by
  induction d with
  | zero =>
    intro k i hi hd hk
    obtain ⟨k, rfl⟩ : ∃ m, k = m + 1 := ⟨k - 1, by omega⟩
    have e : i = l.length := by omega
    subst e
    simp only [cutplaneref07_Opens.l0]
    rw [if_neg (by omega)]
    simp
  | succ d ih =>
    intro k i hi hd hk
    obtain ⟨k, rfl⟩ : ∃ m, k = m + 1 := ⟨k - 1, by omega⟩
    have hlt : i < l.length := by omega
    have w1 : wrap64 ((i : Int) + 1) = ((i + 1 : Nat) : Int) := by unfold wrap64; omega
    have hd : l.drop i = l[i] :: l.drop (i + 1) := List.drop_eq_getElem_cons hlt
    simp only [cutplaneref07_Opens.l0]
    rw [if_pos (by omega), if_pos (by omega), rd_get l i hlt, ref_Good, w1]
    simp only [Option.bind_some]
    rw [ih k (i + 1) (by omega) (by omega) (by omega), hd]
    by_cases e : err f l[i] = 0
    · rw [if_pos e, List.all_cons, show okw f l[i] = true from decide_eq_true e, Bool.true_and]
    · rw [if_neg e, List.all_cons, show okw f l[i] = false from decide_eq_false e, Bool.false_and]; rfl
theorem ref_Opens (f : Int) (l : List Int) (hl : l.length < 4611686018427387904) (k : Nat) (hk : l.length < k) : cutplaneref07_Opens.f k f l = some (errl f l) := by
  unfold cutplaneref07_Opens.f errl
  rw [ref_Is]
  by_cases hf : f = 1 ∨ f = 2
  · have := opens_loop f l hl l.length k 0 (by omega) (by omega) (by omega)
    rw [show ((0 : Nat) : Int) = 0 from rfl] at this
    simp only [Option.bind_some, hf, decide_true, if_true, this]
    simp
  · simp [hf]
theorem errl_zero {f : Int} {l : List Int} (h : errl f l = 0) (hu : ∀ w ∈ l, U w) : (f = 1 ∨ f = 2) ∧ ∀ w ∈ l, Gd f w := by
  unfold errl at h
  by_cases hf : f = 1 ∨ f = 2
  · rw [if_pos hf] at h
    refine ⟨hf, fun w hw => ?_⟩
    by_cases ha : l.all (okw f) = true
    · have := List.all_eq_true.1 ha w hw
      exact gd_of (of_decide_eq_true this) (hu w hw)
    · rw [if_neg ha] at h; exact absurd h (by decide)
  · rw [if_neg hf] at h; exact absurd h (by decide)
theorem errl_good {f : Int} {l : List Int} (hf : f = 1 ∨ f = 2) (h : ∀ w ∈ l, Gd f w) : errl f l = 0 := by
  unfold errl
  rw [if_pos hf, if_pos]
  exact List.all_eq_true.2 fun w hw => decide_eq_true (h w hw).err
theorem gd_f {f w : Int} (h : Gd f w) : f = 1 ∨ f = 2 := by rcases h with ⟨e, _⟩ | ⟨e, _⟩ <;> simp [e]
theorem isnan_good (k : Nat) {f w : Int} (h : Gd f w) : rank_isNaN.f (k + 2) f w = some (cl f w == 5) := by
  unfold rank_isNaN.f
  rw [class_good k h]; rfl
/-- the place of a word that is no NaN -/
def plc (f w : Int) : Int := if w ≥ sgn f then -(w % sgn f) else w % sgn f
theorem plc_bd (f w : Int) : -9223372036854775807 ≤ plc f w ∧ plc f w ≤ 9223372036854775807 := by
  have : 0 ≤ w % sgn f ∧ w % sgn f < sgn f := by rcases sgn_cases f with h | h <;> rw [h] <;> omega
  have hs := sgn_cases f
  unfold plc
  split <;> omega
theorem sz_lo {f w : Int} (h : Gd f w) : (w < sgn f ∧ w % sgn f = w) ∨ (sgn f ≤ w ∧ w % sgn f = w - sgn f) := by
  have hf := gd_f h
  unfold sgn
  rcases h with ⟨rfl, h0, h1⟩ | ⟨rfl, h0, h1⟩
  · simp only [if_true]; omega
  · simp only [show (¬ ((2 : Int) = 1)) by decide, if_false]; omega
theorem place_good (k : Nat) {f w : Int} (h : Gd f w) (hn : cl f w ≠ 5) : rank_place.f (k + 2) f w = some (plc f w) := by
  have hs := sgn_cases f
  have hz := sz_lo h
  have hp : 0 ≤ w % sgn f ∧ w % sgn f < sgn f := by rcases hs with h | h <;> rw [h] <;> omega
  unfold rank_place.f
  rw [abs_good k h]
  have e : absw f w = w % sgn f := by unfold absw; rw [if_neg hn]
  simp only [Option.bind_some, e]
  unfold plc
  have w1 : wrap64 (w % sgn f) = w % sgn f := by unfold wrap64; omega
  have w2 : wrap64 (-(w % sgn f)) = -(w % sgn f) := by unfold wrap64; omega
  by_cases c : w ≥ sgn f
  · rw [if_neg (by omega), if_pos c, w1, w2]
  · rw [if_pos (by omega), if_neg c, w1]
def cmpi (x y : Int) : Int := if x < y then -1 else if x > y then 1 else 0
theorem compare_i (x y : Int) : cmp_Compare_int64.f x y = some (cmpi x y) := by
  unfold cmp_Compare_int64.f cmp_isNaN_int64.f cmpi
  simp
  repeat' split
  all_goals rfl
theorem cmpi_bd (x y : Int) : (cmpi x y = -1 ∧ x < y) ∨ (cmpi x y = 1 ∧ y < x) ∨ (cmpi x y = 0 ∧ x = y) := by
  unfold cmpi
  by_cases h : x < y
  · simp [h]
  · by_cases g : x > y
    · simp [h, g] <;> omega
    · simp [h, g] <;> omega
def cmpf (f a b : Int) : Int := if cl f a = 5 ∨ cl f b = 5 then 4 else 2 + cmpi (plc f a) (plc f b)
theorem rank_Cmp_good (k : Nat) {f a b : Int} (ha : Gd f a) (hb : Gd f b) : rank_Cmp.f (k + 5) f a b = some (cmpf f a b, 0) := by
  have ho : rank_open.f (k + 5) f [a, b] = some 0 := by
    rw [open_list f [a, b] (by simp) (by simp [ha.u, hb.u]) (k + 5) (by simp <;> omega), errl_good (gd_f ha) (by simp [ha, hb])]
  unfold rank_Cmp.f cmpf
  rw [ho, isnan_good (k + 3) ha, isnan_good (k + 3) hb]
  simp only [Option.bind_some, if_true]
  by_cases ca : cl f a = 5
  · simp [ca, rank_Cmp.j0]
  · by_cases cb : cl f b = 5
    · simp [ca, cb, rank_Cmp.j0]
    · have := plc_bd f a
      have := plc_bd f b
      have e1 : (cl f a == 5) = false := by simp [ca]
      have e2 : (cl f b == 5) = false := by simp [cb]
      have p1 := place_good (k + 2) ha ca
      have p2 := place_good (k + 2) hb cb
      rw [e1, e2]
      simp only [ca, cb, or_self, if_false, Bool.false_eq_true, rank_Cmp.j0, p1, p2, Option.bind_some, compare_i]
      have := cmpi_bd (plc f a) (plc f b)
      rw [show (2 + cmpi (plc f a) (plc f b) % 256) % 256 = 2 + cmpi (plc f a) (plc f b) by omega]
/-- the total order -/
def tot (f a b : Int) : Int :=
  if cl f a = 5 then (if cl f b = 5 then 0 else 1) else if cl f b = 5 then -1 else
    if cmpi (plc f a) (plc f b) = 0 then cmpi b a else cmpi (plc f a) (plc f b)
theorem compare_u (x y : Int) : cmp_Compare_uint64.f x y = some (cmpi x y) := by
  unfold cmp_Compare_uint64.f cmp_isNaN_uint64.f cmpi
  simp
  repeat' split
  all_goals rfl
theorem rank_total_good (k : Nat) {f a b : Int} (ha : Gd f a) (hb : Gd f b) : rank_total.f (k + 3) f a b = some (tot f a b) := by
  unfold rank_total.f tot
  rw [isnan_good (k + 1) ha, isnan_good (k + 1) hb]
  simp only [Option.bind_some, rank_total.j0]
  by_cases ca : cl f a = 5
  · by_cases cb : cl f b = 5 <;> simp [ca, cb]
  · by_cases cb : cl f b = 5
    · simp [ca, cb]
    · simp [ca, cb, place_good k ha ca, place_good k hb cb, compare_i, compare_u]
      split <;> rfl
theorem rank_Total_good (k : Nat) {f a b : Int} (ha : Gd f a) (hb : Gd f b) : rank_Total.f (k + 5) f a b = some (tot f a b, 0) := by
  have ho : rank_open.f (k + 5) f [a, b] = some 0 := by
    rw [open_list f [a, b] (by simp) (by simp [ha.u, hb.u]) (k + 5) (by simp <;> omega), errl_good (gd_f ha) (by simp [ha, hb])]
  unfold rank_Total.f
  rw [ho, rank_total_good (k + 2) ha hb]
  simp
def stepsf (f a b : Int) : Int := if plc f a < plc f b then plc f b - plc f a else plc f a - plc f b
theorem rank_Steps_good (k : Nat) {f a b : Int} (ha : Gd f a) (hb : Gd f b) : rank_Steps.f (k + 5) f a b = some (if cl f a = 5 ∨ cl f b = 5 then (0, 7) else (stepsf f a b, 0)) := by
  have ho : rank_open.f (k + 5) f [a, b] = some 0 := by
    rw [open_list f [a, b] (by simp) (by simp [ha.u, hb.u]) (k + 5) (by simp <;> omega), errl_good (gd_f ha) (by simp [ha, hb])]
  unfold rank_Steps.f
  rw [ho, isnan_good (k + 3) ha, isnan_good (k + 3) hb]
  simp only [Option.bind_some, if_true]
  by_cases ca : cl f a = 5
  · simp [ca, rank_Steps.j0]
  · by_cases cb : cl f b = 5
    · simp [ca, cb, rank_Steps.j0]
    · have pa := plc_bd f a
      have pb := plc_bd f b
      have e1 : (cl f a == 5) = false := by simp [ca]
      have e2 : (cl f b == 5) = false := by simp [cb]
      rw [e1, e2]
      simp only [ca, cb, or_self, if_false, rank_Steps.j0, place_good (k + 2) ha ca, place_good (k + 2) hb cb, Option.bind_some, Bool.false_eq_true]
      congr 2
      unfold stepsf mx mn
      simp only [wrapu64]
      by_cases c : plc f a < plc f b
      · have d : ¬ plc f b < plc f a := by omega
        simp only [c, d, if_true, if_false]; omega
      · by_cases d : plc f b < plc f a
        · simp only [c, d, if_true, if_false]; omega
        · simp only [c, d, if_false]; omega
theorem known07 (k : Nat) : cutplanelaw07_known.f (k + 5) = some true := by
  unfold cutplanelaw07_known.f
  have h0 : Gd 1 0 := .inl ⟨rfl, by decide, by decide⟩
  have h1 : Gd 1 2147483648 := .inl ⟨rfl, by decide, by decide⟩
  have h2 : Gd 1 2147483649 := .inl ⟨rfl, by decide, by decide⟩
  have h3 : Gd 1 1 := .inl ⟨rfl, by decide, by decide⟩
  rw [rank_Cmp_good k h1 h0, rank_Total_good k h1 h0, rank_Steps_good k h2 h3]
  decide +kernel
end Go.Proofs.Ytnjdaoeebhbmfaa.PA
end

section
namespace Go.Proofs.Ytnjdaoeebhbmfaa.PA
open Go.RowKit Go.Proofs.YtnjdaoeebhbmfaaW.PrintWords Go.Proofs.YtnjdaoeebhbmfaaW.PrintLast Go.Proofs.YtnjdaoeebhbmfaaW.PrintMore Go.Proofs.Ytnjdaoeebhbmfaa.Wd
set_option linter.unusedSimpArgs false
set_option linter.unusedVariables false
/-- a word lies below twice the sign -/
theorem gd_lt {f w : Int} (h : Gd f w) : 0 ≤ w ∧ w < 2 * sgn f ∧ (f = 1 ∨ f = 2) := by
  unfold sgn
  rcases h with ⟨rfl, h0, h1⟩ | ⟨rfl, h0, h1⟩
  · exact ⟨h0, by simp only [if_true]; omega, .inl rfl⟩
  · exact ⟨h0, by simp only [show (¬ ((2 : Int) = 1)) by decide, if_false]; omega, .inr rfl⟩
end Go.Proofs.Ytnjdaoeebhbmfaa.PA
end

section
namespace Go.Proofs.Ytnjdaoeebhbmfaa.PA
open Go.RowKit Go.Proofs.YtnjdaoeebhbmfaaW.PrintWords Go.Proofs.YtnjdaoeebhbmfaaW.PrintLast Go.Proofs.YtnjdaoeebhbmfaaW.PrintMore Go.Proofs.Ytnjdaoeebhbmfaa.Wd
set_option linter.unusedSimpArgs false
set_option linter.unusedVariables false
/-- a number for each word, by which the total order goes -/
def key (f w : Int) : Int := if cl f w = 5 then 36893488147419103232 else 2 * plc f w + (if w = 0 then 1 else 0)
theorem key_bd {f w : Int} (h : cl f w ≠ 5) : key f w < 36893488147419103232 := by
  have := plc_bd f w
  unfold key
  rw [if_neg h]
  split <;> omega
theorem plc_cases {f w : Int} (h : Gd f w) : (w < sgn f ∧ plc f w = w) ∨ (sgn f ≤ w ∧ plc f w = sgn f - w) := by
  unfold plc
  rcases sz_lo h with ⟨a, b⟩ | ⟨a, b⟩
  · left; rw [if_neg (by omega)]; omega
  · right; rw [if_pos (by omega)]; omega
theorem cmpi_lt {x y : Int} (h : x < y) : cmpi x y = -1 := by unfold cmpi; rw [if_pos h]
theorem cmpi_gt {x y : Int} (h : y < x) : cmpi x y = 1 := by unfold cmpi; rw [if_neg (by omega), if_pos h]
theorem cmpi_eq (x : Int) : cmpi x x = 0 := by unfold cmpi; rw [if_neg (by omega), if_neg (by omega)]
theorem cmpi_congr {x y a b : Int} (h1 : x < y → a < b) (h2 : y < x → b < a) (h3 : x = y → a = b) : cmpi x y = cmpi a b := by
  rcases Int.lt_trichotomy x y with h | h | h
  · rw [cmpi_lt h, cmpi_lt (h1 h)]
  · rw [h, cmpi_eq, h3 h, cmpi_eq]
  · rw [cmpi_gt h, cmpi_gt (h2 h)]
theorem tot_key {f a b : Int} (ha : Gd f a) (hb : Gd f b) : tot f a b = cmpi (key f a) (key f b) := by
  have ga := gd_lt ha
  have gb := gd_lt hb
  have pa := plc_cases ha
  have pb := plc_cases hb
  have hs := sgn_cases f
  unfold tot
  by_cases ca : cl f a = 5
  · have ka : key f a = 36893488147419103232 := if_pos ca
    by_cases cb : cl f b = 5
    · have kb : key f b = 36893488147419103232 := if_pos cb
      rw [if_pos ca, if_pos cb, ka, kb, cmpi_eq]
    · rw [if_pos ca, if_neg cb, ka, cmpi_gt (key_bd cb)]
  · by_cases cb : cl f b = 5
    · have kb : key f b = 36893488147419103232 := if_pos cb
      rw [if_neg ca, if_pos cb, kb, cmpi_lt (key_bd ca)]
    · rw [if_neg ca, if_neg cb]
      have ka : key f a = 2 * plc f a + (if a = 0 then 1 else 0) := if_neg ca
      have kb : key f b = 2 * plc f b + (if b = 0 then 1 else 0) := if_neg cb
      have za : (a = 0 ∧ key f a = 2 * plc f a + 1) ∨ (a ≠ 0 ∧ key f a = 2 * plc f a) := by
        by_cases z : a = 0
        · left; rw [ka, if_pos z]; exact ⟨z, rfl⟩
        · right; rw [ka, if_neg z]; exact ⟨z, by omega⟩
      have zb : (b = 0 ∧ key f b = 2 * plc f b + 1) ∨ (b ≠ 0 ∧ key f b = 2 * plc f b) := by
        by_cases z : b = 0
        · left; rw [kb, if_pos z]; exact ⟨z, rfl⟩
        · right; rw [kb, if_neg z]; exact ⟨z, by omega⟩
      clear ka kb
      rcases cmpi_bd (plc f a) (plc f b) with ⟨e, h⟩ | ⟨e, h⟩ | ⟨e, h⟩
      · rw [if_neg (by omega), e, cmpi_lt (by omega)]
      · rw [if_neg (by omega), e, cmpi_gt (by omega)]
      · rw [if_pos e]
        exact cmpi_congr (by omega) (by omega) (by omega)
theorem key_inj {f a b : Int} (ha : Gd f a) (hb : Gd f b) (ca : cl f a ≠ 5) (cb : cl f b ≠ 5) (h : key f a = key f b) : a = b := by
  have ga := gd_lt ha
  have gb := gd_lt hb
  have pa := plc_cases ha
  have pb := plc_cases hb
  have hs := sgn_cases f
  have ka : key f a = 2 * plc f a + (if a = 0 then 1 else 0) := if_neg ca
  have kb : key f b = 2 * plc f b + (if b = 0 then 1 else 0) := if_neg cb
  rw [ka, kb] at h
  by_cases z : a = 0
  · by_cases y : b = 0
    · omega
    · rw [if_pos z, if_neg y] at h; omega
  · by_cases y : b = 0
    · rw [if_neg z, if_pos y] at h; omega
    · rw [if_neg z, if_neg y] at h; omega
def minw (f a b : Int) : Int := if cl f a = 5 then canw f b else if cl f b = 5 then a else if key f a ≤ key f b then a else b
def maxw (f a b : Int) : Int := if cl f a = 5 then canw f b else if cl f b = 5 then a else if key f b ≤ key f a then a else b
theorem wrap_neg {z : Int} (h : z = -1 ∨ z = 1 ∨ z = 0) : wrap64 ((-1) * z) = -z ∧ wrap64 (1 * z) = z := by
  unfold wrap64; omega
theorem min_good (k : Nat) {f a b : Int} (ha : Gd f a) (hb : Gd f b) : rank_Min.f (k + 5) f a b = some (minw f a b, 0) := by
  have ho : rank_open.f (k + 5) f [a, b] = some 0 := by
    rw [open_list f [a, b] (by simp) (by simp [ha.u, hb.u]) (k + 5) (by simp <;> omega), errl_good (gd_f ha) (by simp [ha, hb])]
  unfold rank_Min.f rank_choose.f minw
  rw [ho, isnan_good (k + 3) ha, isnan_good (k + 3) hb, rank_total_good (k + 2) ha hb, canon_good (k + 3) hb, tot_key ha hb]
  have hk := cmpi_bd (key f a) (key f b)
  have hw := wrap_neg (z := cmpi (key f a) (key f b)) (by omega)
  by_cases ca : cl f a = 5
  · simp [ca]
  · by_cases cb : cl f b = 5
    · simp [ca, cb]
    · simp only [Option.bind_some, if_true, beq_iff_eq, ca, cb, if_false, hw.1]
      by_cases c : key f a ≤ key f b
      · rw [if_pos c, if_pos (by omega)]; rfl
      · rw [if_neg c, if_neg (by omega)]; rfl
theorem max_good (k : Nat) {f a b : Int} (ha : Gd f a) (hb : Gd f b) : rank_Max.f (k + 5) f a b = some (maxw f a b, 0) := by
  have ho : rank_open.f (k + 5) f [a, b] = some 0 := by
    rw [open_list f [a, b] (by simp) (by simp [ha.u, hb.u]) (k + 5) (by simp <;> omega), errl_good (gd_f ha) (by simp [ha, hb])]
  unfold rank_Max.f rank_choose.f maxw
  rw [ho, isnan_good (k + 3) ha, isnan_good (k + 3) hb, rank_total_good (k + 2) ha hb, canon_good (k + 3) hb, tot_key ha hb]
  have hk := cmpi_bd (key f a) (key f b)
  have hw := wrap_neg (z := cmpi (key f a) (key f b)) (by omega)
  by_cases ca : cl f a = 5
  · simp [ca]
  · by_cases cb : cl f b = 5
    · simp [ca, cb]
    · simp only [Option.bind_some, if_true, beq_iff_eq, ca, cb, if_false, hw.2]
      by_cases c : key f b ≤ key f a
      · rw [if_pos c, if_pos (by omega)]; rfl
      · rw [if_neg c, if_neg (by omega)]; rfl
end Go.Proofs.Ytnjdaoeebhbmfaa.PA
end

section
namespace Go.Proofs.Ytnjdaoeebhbmfaa.Pure
open Go.RowKit Go.Proofs.Ytnjdaoeebhbmfaa.PA Go.Proofs.YtnjdaoeebhbmfaaW.PrintWords Go.Proofs.YtnjdaoeebhbmfaaW.PrintLast Go.Proofs.Ytnjdaoeebhbmfaa.Wd
set_option linter.unusedSimpArgs false
set_option linter.unusedVariables false
theorem RankLattice : cutplanelaw07_RankLattice.Pure := by
  intro f a b c _ ha hb hc
  have ua := u_of ha
  have ub := u_of hb
  have uc := u_of hc
  refine ⟨9, ?_⟩
  unfold cutplanelaw07_RankLattice.f
  rw [ref_Opens f [a, b, c] (by simp) 9 (by simp), ref_Class 8 f ua, ref_Class 8 f ub, ref_Class 8 f uc]
  simp only [Option.bind_some, known07 4]
  by_cases he : errl f [a, b, c] = 0
  · rw [if_pos he]
    have hg := (errl_zero he (by simp [ua, ub, uc])).2
    have ga := hg a (by simp)
    have gb := hg b (by simp)
    have gc := hg c (by simp)
    clear hg he
    by_cases ca : cl f a = 5
    · rw [if_pos ca]
    by_cases cb : cl f b = 5
    · rw [if_neg ca, if_pos cb]
    by_cases cc : cl f c = 5
    · rw [if_neg ca, if_neg cb, if_pos cc]
    rw [if_neg ca, if_neg cb, if_neg cc, min_good 4 ga gb, max_good 4 ga gb, min_good 4 gb ga, max_good 4 gb ga]
    have mn : ∀ {x y : Int}, cl f x ≠ 5 → cl f y ≠ 5 → minw f x y = if key f x ≤ key f y then x else y := fun h1 h2 => by unfold minw; rw [if_neg h1, if_neg h2]
    have mx : ∀ {x y : Int}, cl f x ≠ 5 → cl f y ≠ 5 → maxw f x y = if key f y ≤ key f x then x else y := fun h1 h2 => by unfold maxw; rw [if_neg h1, if_neg h2]
    have iab := key_inj ga gb ca cb
    have iac := key_inj ga gc ca cc
    have ibc := key_inj gb gc cb cc
    rw [mn ca cb, mx ca cb, mn cb ca, mx cb ca]
    simp only [Option.bind_some, if_true]
    have gbc : Gd f (if key f b ≤ key f c then b else c) ∧ cl f (if key f b ≤ key f c then b else c) ≠ 5 := by split; exact ⟨gb, cb⟩; exact ⟨gc, cc⟩
    by_cases o : key f a ≤ key f b
    · have e1 : (if key f b ≤ key f a then b else a) = a := by
        split
        · exact (iab (by omega)).symm
        · rfl
      have e2 : (if key f b ≤ key f a then a else b) = b := by
        split
        · exact iab (by omega)
        · rfl
      rw [show (if key f a ≤ key f b then a else b) = a from if_pos o, show (if key f a ≤ key f b then b else a) = b from if_pos o, e1, e2, rank_Total_good 4 ga gb, tot_key ga gb]
      have h1 := cmpi_bd (key f a) (key f b)
      simp only [Option.bind_some, if_true]
      rw [if_neg (by omega), min_good 4 ga gc, min_good 4 gb gc, mn ca cc, mn cb cc, max_good 4 ga ga, mx ca ca]
      simp only [Option.bind_some, if_true]
      rw [min_good 4 ga gbc.1, mn ca gbc.2]
      have e3 : (if key f a ≤ key f (if key f b ≤ key f c then b else c) then a else (if key f b ≤ key f c then b else c)) = (if key f a ≤ key f c then a else c) := by
        by_cases c1 : key f b ≤ key f c
        · rw [if_pos c1, if_pos o, if_pos (by omega)]
        · rw [if_neg c1]
      rw [e3]
      simp
    · have e1 : (if key f b ≤ key f a then b else a) = b := if_pos (by omega)
      have e2 : (if key f b ≤ key f a then a else b) = a := if_pos (by omega)
      have hne : b ≠ a := fun e => o (by rw [e]; omega)
      have hne' : a ≠ b := fun e => hne e.symm
      rw [show (if key f a ≤ key f b then a else b) = b from if_neg o, show (if key f a ≤ key f b then b else a) = a from if_neg o, e1, e2, rank_Total_good 4 gb ga, tot_key gb ga]
      have h1 := cmpi_bd (key f b) (key f a)
      simp only [Option.bind_some, if_true]
      rw [if_neg (by omega), min_good 4 gb gc, mn cb cc, max_good 4 ga gb, mx ca cb]
      simp only [Option.bind_some, if_true]
      rw [min_good 4 ga gbc.1, mn ca gbc.2, if_pos (show key f b ≤ key f a by omega)]
      have e3 : (if key f a ≤ key f (if key f b ≤ key f c then b else c) then a else (if key f b ≤ key f c then b else c)) = (if key f b ≤ key f c then b else c) := by
        by_cases c1 : key f b ≤ key f c
        · rw [if_pos c1, if_neg o]
        · rw [if_neg c1]
          by_cases c2 : key f a ≤ key f c
          · rw [if_pos c2]; exact iac (by omega)
          · rw [if_neg c2]
      rw [e3]
      simp [hne, hne']
  · rw [if_neg he]
end Go.Proofs.Ytnjdaoeebhbmfaa.Pure
end
