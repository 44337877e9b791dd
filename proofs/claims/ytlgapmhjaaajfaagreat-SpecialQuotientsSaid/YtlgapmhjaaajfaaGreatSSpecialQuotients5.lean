/- Steps of Go functions that the law SpecialQuotients uses, told as plain Lean functions, each with the proof that its call comes to what it tells; words on memory; plain facts. No condition beyond those that each text names. -/
import Derived.Test.YtlgapmhjaaajfaaGreatProg
import Derived.WalkMore
import Derived.Test.YtlgapmhjaaajfaaGreatSSpecialQuotients0
import Derived.Test.YtlgapmhjaaajfaaGreatSSpecialQuotients1
import Derived.Test.YtlgapmhjaaajfaaGreatSSpecialQuotients2
import Derived.Test.YtlgapmhjaaajfaaGreatSSpecialQuotients3
set_option maxHeartbeats 16000000
set_option maxRecDepth 100000
section
namespace Go.Proofs.YtlgapmhjaaajfaaGreat.PA
open Go.RowKit Go.Proofs.YtlgapmhjaaajfaaGreatW.PrintWords Go.Proofs.YtlgapmhjaaajfaaGreatW.PrintLast Go.Proofs.YtlgapmhjaaajfaaGreatW.PrintMore
attribute [local go_sem] max2_int min2_int max_two min_two max_three min_three max_four min_four   -- for this text's walks alone
set_option linter.unusedVariables false
set_option linter.unusedSimpArgs false
def cutplaneref03_Is.f (a0 : Int) : Option (Bool) := if a0 = 1 then (some true) else (some (a0 == 2))
theorem cutplaneref03_Is.calls (a0 : Int) (r : Bool) (w : World) (h : cutplaneref03_Is.f a0 = some r) :
  Calls Tryz.prog 37 #[.int .u8 a0] w fun e w' => e = .returned (.bool r) ∧ Drawn0 w w' := by
 have H := h
 clear h
 unfold cutplaneref03_Is.f at H
 by_cases c2 : a0 = 1
 ·rw [if_pos c2] at H
  have c2b0 : (a0 == 1) = true := beq_iff_eq.mpr c2
  have c2b1 : (a0 != 1) = false := bne_eq_false_iff_eq.mpr c2
  clear c2
  obtain rfl := Option.some.inj H
  go_enter Tryz.func37, Tryz.ntmps37
  go_wp2
  go_ret
  exact ⟨by first | rfl | (simp; done) | (simp [*]; done), by repeat (first | exact Drawn0.refl _ | apply Drawn0.step)⟩
 ·rw [if_neg c2] at H
  have c2b0 : (a0 == 1) = false := beq_eq_false_iff_ne.mpr c2
  have c2b1 : (a0 != 1) = true := bne_iff_ne.mpr c2
  obtain rfl := Option.some.inj H
  go_enter Tryz.func37, Tryz.ntmps37
  go_wp2
  go_ret
  exact ⟨by first | rfl | (simp; done) | (simp [*]; done), by repeat (first | exact Drawn0.refl _ | apply Drawn0.step)⟩
def cutplaneref04_Is.f (a0 : Int) : Option (Bool) := if a0 ≥ 1 then (some (decide (a0 ≤ 5))) else (some false)
theorem cutplaneref04_Is.calls (a0 : Int) (r : Bool) (w : World) (h : cutplaneref04_Is.f a0 = some r) :
  Calls Tryz.prog 38 #[.int .u8 a0] w fun e w' => e = .returned (.bool r) ∧ Drawn0 w w' := by
 have H := h
 clear h
 unfold cutplaneref04_Is.f at H
 by_cases c2 : a0 ≥ 1
 ·rw [if_pos c2] at H
  have c2b0 : decide (1 ≤ a0) = true := decide_eq_true c2
  clear c2
  obtain rfl := Option.some.inj H
  go_enter Tryz.func38, Tryz.ntmps38
  go_wp2
  go_ret
  exact ⟨by first | rfl | (simp; done) | (simp [*]; done), by repeat (first | exact Drawn0.refl _ | apply Drawn0.step)⟩
 ·rw [if_neg c2] at H
  have c2b0 : decide (1 ≤ a0) = false := decide_eq_false c2
  clear c2
  obtain rfl := Option.some.inj H
  go_enter Tryz.func38, Tryz.ntmps38
  go_wp2
  go_ret
  exact ⟨by first | rfl | (simp; done) | (simp [*]; done), by repeat (first | exact Drawn0.refl _ | apply Drawn0.step)⟩
def cutplaneref03_Good.f (a0 : Int) (a1 : Int) : Option (Int) := (cutplaneref03_Is.f a0).bind fun t293 => (if t293 = true then (if a0 = 1 then (if a1 ≥ 4294967296 then (some 6) else (some 0)) else (some 0)) else (some 4))
theorem cutplaneref03_Good.calls (a0 : Int) (a1 : Int) (r : Int) (w : World) (h : cutplaneref03_Good.f a0 a1 = some r) :
  Calls Tryz.prog 39 #[.int .u8 a0, .int .u64 a1] w fun e w' => e = .returned (.int .i64 r) ∧ Drawn0 w w' := by
 have H := h
 clear h
 unfold cutplaneref03_Good.f at H
 obtain ⟨t293, A3, H⟩ := bs_ H
 try dsimp -simprocs only at H
 by_cases c4 : t293 = true
 ·subst c4
  rw [if_pos rfl] at H
  by_cases c5 : a0 = 1
  ·rw [if_pos c5] at H
   have c5b0 : (a0 == 1) = true := beq_iff_eq.mpr c5
   have c5b1 : (a0 != 1) = false := bne_eq_false_iff_eq.mpr c5
   clear c5
   by_cases c6 : a1 ≥ 4294967296
   ·rw [if_pos c6] at H
    have c6b0 : decide (4294967296 ≤ a1) = true := decide_eq_true c6
    clear c6
    obtain rfl := Option.some.inj H
    go_enter Tryz.func39, Tryz.ntmps39
    go_wp2_with (first | ((with_reducible refine gate_callee (f := 37) rfl ?_); refine goesL_ (some 6) rfl rfl Tryz.func37 (by kernel_rfl) rfl #[.int .u8 a0] rfl (am_ rfl) ?_; (with_reducible refine (cutplaneref03_Is.calls a0 true _ A3.out).mono ?_); rintro e w' ⟨rfl, ⟨nd, rfl⟩⟩; refine ⟨_, rfl, ?_⟩))
    go_ret
    exact ⟨by first | rfl | (simp; done) | (simp [*]; done), by repeat (first | exact Drawn0.refl _ | apply Drawn0.step)⟩
   ·rw [if_neg c6] at H
    have c6b0 : decide (4294967296 ≤ a1) = false := decide_eq_false c6
    clear c6
    obtain rfl := Option.some.inj H
    go_enter Tryz.func39, Tryz.ntmps39
    go_wp2_with (first | ((with_reducible refine gate_callee (f := 37) rfl ?_); refine goesL_ (some 6) rfl rfl Tryz.func37 (by kernel_rfl) rfl #[.int .u8 a0] rfl (am_ rfl) ?_; (with_reducible refine (cutplaneref03_Is.calls a0 true _ A3.out).mono ?_); rintro e w' ⟨rfl, ⟨nd, rfl⟩⟩; refine ⟨_, rfl, ?_⟩))
    go_ret
    exact ⟨by first | rfl | (simp; done) | (simp [*]; done), by repeat (first | exact Drawn0.refl _ | apply Drawn0.step)⟩
  ·rw [if_neg c5] at H
   have c5b0 : (a0 == 1) = false := beq_eq_false_iff_ne.mpr c5
   have c5b1 : (a0 != 1) = true := bne_iff_ne.mpr c5
   obtain rfl := Option.some.inj H
   go_enter Tryz.func39, Tryz.ntmps39
   go_wp2_with (first | ((with_reducible refine gate_callee (f := 37) rfl ?_); refine goesL_ (some 6) rfl rfl Tryz.func37 (by kernel_rfl) rfl #[.int .u8 a0] rfl (am_ rfl) ?_; (with_reducible refine (cutplaneref03_Is.calls a0 true _ A3.out).mono ?_); rintro e w' ⟨rfl, ⟨nd, rfl⟩⟩; refine ⟨_, rfl, ?_⟩))
   go_ret
   exact ⟨by first | rfl | (simp; done) | (simp [*]; done), by repeat (first | exact Drawn0.refl _ | apply Drawn0.step)⟩
 ·replace c4 := Bool.eq_false_iff.mpr c4
  subst c4
  rw [if_neg (show ¬ (false = true) by decide)] at H
  obtain rfl := Option.some.inj H
  go_enter Tryz.func39, Tryz.ntmps39
  go_wp2_with (first | ((with_reducible refine gate_callee (f := 37) rfl ?_); refine goesL_ (some 6) rfl rfl Tryz.func37 (by kernel_rfl) rfl #[.int .u8 a0] rfl (am_ rfl) ?_; (with_reducible refine (cutplaneref03_Is.calls a0 false _ A3.out).mono ?_); rintro e w' ⟨rfl, ⟨nd, rfl⟩⟩; refine ⟨_, rfl, ?_⟩))
  go_ret
  exact ⟨by first | rfl | (simp; done) | (simp [*]; done), by repeat (first | exact Drawn0.refl _ | apply Drawn0.step)⟩
def cutplaneref05_Opens.l0 : Nat → Int → List Int → Int → Option (Int)
 | 0, _, _, _ => none
 | k + 1, x0, x2, x7 => if x7 < (x2.length : Int) then (if 0 ≤ x7 then ((cutplaneref03_Good.f x0 (rd x2 x7)).bind fun t297 => (if t297 = 0 then (cutplaneref05_Opens.l0 k x0 x2 (wrap64 (x7 + 1))) else (some 6))) else (none)) else (some 0)
def cutplaneref05_Opens.f (k : Nat) (a0 : Int) (a1 : Int) (l2 : List Int) : Option (Int) := (cutplaneref03_Is.f a0).bind fun t294 => (if t294 = true then ((cutplaneref04_Is.f a1).bind fun t295 => (if t295 = true then (cutplaneref05_Opens.l0 k a0 l2 0) else (some 5))) else (some 4))
theorem cutplaneref05_Opens.calls (k : Nat) (a0 : Int) (a1 : Int) (A2 : Option Addr) (c2 : Nat) (l2 : List Int) (r : Int) (w : World) (hr2 : Kd.C (Kd.int .u64) w A2 l2.length l2) (hc2 : l2.length ≤ c2) (h : cutplaneref05_Opens.f k a0 a1 l2 = some r) :
  Calls Tryz.prog 15 #[.int .u8 a0, .int .u8 a1, .slice A2 l2.length c2] w fun e w' => e = .returned (.int .i64 r) ∧ Drawn0 w w' := by
 have HR2 := A0_ hr2
 have HC2 := A0_ hc2
 clear hr2 hc2
 have H := h
 clear h
 unfold cutplaneref05_Opens.f at H
 obtain ⟨t294, A4, H⟩ := bs_ H
 try dsimp -simprocs only at H
 by_cases c5 : t294 = true
 ·subst c5
  rw [if_pos rfl] at H
  obtain ⟨t295, A6, H⟩ := bs_ H
  try dsimp -simprocs only at H
  by_cases c7 : t295 = true
  ·subst c7
   rw [if_pos rfl] at H
   have H' := A0_ H
   clear H
   go_enter Tryz.func15, Tryz.ntmps15
   go_wp2_with (first | ((with_reducible refine gate_callee (f := 37) rfl ?_); refine goesL_ (some 9) rfl rfl Tryz.func37 (by kernel_rfl) rfl #[.int .u8 a0] rfl (am_ rfl) ?_; (with_reducible refine (cutplaneref03_Is.calls a0 true _ A4.out).mono ?_); rintro e w' ⟨rfl, ⟨nd, rfl⟩⟩; refine ⟨_, rfl, ?_⟩) | ((with_reducible refine gate_callee (f := 38) rfl ?_); refine goesL_ (some 12) rfl rfl Tryz.func38 (by kernel_rfl) rfl #[.int .u8 a1] rfl (am_ rfl) ?_; (with_reducible refine (cutplaneref04_Is.calls a1 true _ A6.out).mono ?_); rintro e w' ⟨rfl, ⟨nd, rfl⟩⟩; refine ⟨_, rfl, ?_⟩))
   go_loopg [7] k (fun kq v7 w' => ∃ (x7_1 : Int), v7 = .int .i64 x7_1 ∧ Aside0 (cutplaneref05_Opens.l0 kq a0 l2 x7_1 = some r) ∧ Aside0 (kq ≤ k) ∧ Drawn0 w w')
   case atStart => exact ⟨(0), (by first | rfl | (simp; done) | (simp [*]; done)), H', ⟨Nat.le_refl _⟩, by repeat (first | exact Drawn0.refl _ | apply Drawn0.step)⟩
   case round =>
    clear H'
    try clear c1
    try clear c2
    try clear p2
    try clear c3
    try clear c5
    try clear c7
    obtain ⟨x7_1, rfl, HA, HK1, ⟨m1, rfl⟩⟩ := hrel
    cases gk with
    | zero => exact absurd HA.out (by simp [cutplaneref05_Opens.l0])
    | succ k1 =>
     have H := HA.out
     clear HA
     simp only [cutplaneref05_Opens.l0] at H
     by_cases c8 : x7_1 < (l2.length : Int)
     ·rw [if_pos c8] at H
      have c8b0 : decide (x7_1 < (l2.length : Int)) = true := decide_eq_true c8
      clear c8
      obtain ⟨c9, H⟩ := ic_ H
      have c9b0 : decide (0 ≤ x7_1) = true := decide_eq_true c9
      clear c9
      obtain ⟨t297, A10, H⟩ := bs_ H
      try dsimp -simprocs only at H
      by_cases c11 : t297 = 0
      ·rw [if_pos c11] at H
       have c11b0 : (t297 == 0) = true := beq_iff_eq.mpr c11
       have c11b1 : (t297 != 0) = false := bne_eq_false_iff_eq.mpr c11
       clear c11
       have H' := A0_ H
       clear H
       have p296 : 0 ≤ (x7_1 : Int) := of_decide_eq_true (by first | (with_reducible assumption) | assumption)
       have q296 : x7_1 < (l2.length : Int) := of_decide_eq_true (by first | (with_reducible assumption) | assumption)
       obtain ⟨ad296, e296, hx296_0⟩ := Kd.at_int HR2.out x7_1 p296 q296
       cases e296
       replace p296 := eq_true p296
       replace q296 := eq_true q296
       go_wp2_with (first | ((with_reducible refine gate_callee (f := 39) rfl ?_); refine goesL_ (some 25) rfl rfl Tryz.func39 (by kernel_rfl) rfl #[.int .u8 a0, .int .u64 (rd l2 x7_1)] rfl (am_ rfl) ?_; (with_reducible refine (cutplaneref03_Good.calls a0 (rd l2 x7_1) t297 _ A10.out).mono ?_); rintro e w' ⟨rfl, ⟨nd, rfl⟩⟩; refine ⟨_, rfl, ?_⟩))
       go_roundg k1
       case measure => have := HK1.out; omega
       case rel => exact ⟨(wrap64 (x7_1 + 1)), (by first | rfl | (simp; done) | (simp [*]; done)), H', ⟨by have := HK1.out; omega⟩, by repeat (first | exact Drawn0.refl _ | apply Drawn0.step)⟩
      ·rw [if_neg c11] at H
       have c11b0 : (t297 == 0) = false := beq_eq_false_iff_ne.mpr c11
       have c11b1 : (t297 != 0) = true := bne_iff_ne.mpr c11
       obtain rfl := Option.some.inj H
       have p296 : 0 ≤ (x7_1 : Int) := of_decide_eq_true (by first | (with_reducible assumption) | assumption)
       have q296 : x7_1 < (l2.length : Int) := of_decide_eq_true (by first | (with_reducible assumption) | assumption)
       obtain ⟨ad296, e296, hx296_0⟩ := Kd.at_int HR2.out x7_1 p296 q296
       cases e296
       replace p296 := eq_true p296
       replace q296 := eq_true q296
       go_wp2_with (first | ((with_reducible refine gate_callee (f := 39) rfl ?_); refine goesL_ (some 25) rfl rfl Tryz.func39 (by kernel_rfl) rfl #[.int .u8 a0, .int .u64 (rd l2 x7_1)] rfl (am_ rfl) ?_; (with_reducible refine (cutplaneref03_Good.calls a0 (rd l2 x7_1) t297 _ A10.out).mono ?_); rintro e w' ⟨rfl, ⟨nd, rfl⟩⟩; refine ⟨_, rfl, ?_⟩))
       go_ret
       exact ⟨by first | rfl | (simp; done) | (simp [*]; done), by repeat (first | exact Drawn0.refl _ | apply Drawn0.step)⟩
     ·rw [if_neg c8] at H
      have c8b0 : decide (x7_1 < (l2.length : Int)) = false := decide_eq_false c8
      clear c8
      obtain rfl := Option.some.inj H
      go_wp2
      go_ret
      exact ⟨by first | rfl | (simp; done) | (simp [*]; done), by repeat (first | exact Drawn0.refl _ | apply Drawn0.step)⟩
  ·replace c7 := Bool.eq_false_iff.mpr c7
   subst c7
   rw [if_neg (show ¬ (false = true) by decide)] at H
   obtain rfl := Option.some.inj H
   go_enter Tryz.func15, Tryz.ntmps15
   go_wp2_with (first | ((with_reducible refine gate_callee (f := 37) rfl ?_); refine goesL_ (some 9) rfl rfl Tryz.func37 (by kernel_rfl) rfl #[.int .u8 a0] rfl (am_ rfl) ?_; (with_reducible refine (cutplaneref03_Is.calls a0 true _ A4.out).mono ?_); rintro e w' ⟨rfl, ⟨nd, rfl⟩⟩; refine ⟨_, rfl, ?_⟩) | ((with_reducible refine gate_callee (f := 38) rfl ?_); refine goesL_ (some 12) rfl rfl Tryz.func38 (by kernel_rfl) rfl #[.int .u8 a1] rfl (am_ rfl) ?_; (with_reducible refine (cutplaneref04_Is.calls a1 false _ A6.out).mono ?_); rintro e w' ⟨rfl, ⟨nd, rfl⟩⟩; refine ⟨_, rfl, ?_⟩))
   go_ret
   exact ⟨by first | rfl | (simp; done) | (simp [*]; done), by repeat (first | exact Drawn0.refl _ | apply Drawn0.step)⟩
 ·replace c5 := Bool.eq_false_iff.mpr c5
  subst c5
  rw [if_neg (show ¬ (false = true) by decide)] at H
  obtain rfl := Option.some.inj H
  go_enter Tryz.func15, Tryz.ntmps15
  go_wp2_with (first | ((with_reducible refine gate_callee (f := 37) rfl ?_); refine goesL_ (some 9) rfl rfl Tryz.func37 (by kernel_rfl) rfl #[.int .u8 a0] rfl (am_ rfl) ?_; (with_reducible refine (cutplaneref03_Is.calls a0 false _ A4.out).mono ?_); rintro e w' ⟨rfl, ⟨nd, rfl⟩⟩; refine ⟨_, rfl, ?_⟩))
  go_ret
  exact ⟨by first | rfl | (simp; done) | (simp [*]; done), by repeat (first | exact Drawn0.refl _ | apply Drawn0.step)⟩
end Go.Proofs.YtlgapmhjaaajfaaGreat.PA
end

section
namespace Go.Proofs.YtlgapmhjaaajfaaGreat.PA
open Go.RowKit Go.Proofs.YtlgapmhjaaajfaaGreatW.PrintWords Go.Proofs.YtlgapmhjaaajfaaGreatW.PrintLast Go.Proofs.YtlgapmhjaaajfaaGreatW.PrintMore
attribute [local go_sem] max2_int min2_int max_two min_two max_three min_three max_four min_four   -- for this text's walks alone
set_option linter.unusedVariables false
set_option linter.unusedSimpArgs false
def cutplaneref10_Good.l0 : Nat → Int → List (S26) → Int → Option (Int)
 | 0, _, _, _ => none
 | k + 1, x0, x1, x5 => if x5 < (x1.length : Int) then (if 0 ≤ x5 then ((cutplaneref03_Good.f x0 ((rd_T26 x1 x5).f0)).bind fun t300 => (if t300 = 0 then ((cutplaneref03_Good.f x0 ((rd_T26 x1 x5).f1)).bind fun t302 => (if t302 = 0 then (cutplaneref10_Good.l0 k x0 x1 (wrap64 (x5 + 1))) else (some 6))) else (some 6))) else (none)) else (some 0)
def cutplaneref10_Good.f (k : Nat) (a0 : Int) (l1 : List (S26)) : Option (Int) := (cutplaneref03_Is.f a0).bind fun t298 => (if t298 = true then (cutplaneref10_Good.l0 k a0 l1 0) else (some 4))
theorem cutplaneref10_Good.calls (k : Nat) (a0 : Int) (A1 : Option Addr) (c1 : Nat) (l1 : List (S26)) (r : Int) (w : World) (hr1 : Kd.C k26 w A1 l1.length l1) (hc1 : l1.length ≤ c1) (h : cutplaneref10_Good.f k a0 l1 = some r) :
  Calls Tryz.prog 16 #[.int .u8 a0, .slice A1 l1.length c1] w fun e w' => e = .returned (.int .i64 r) ∧ Drawn0 w w' := by
 have HR1 := A0_ hr1
 have HC1 := A0_ hc1
 clear hr1 hc1
 have H := h
 clear h
 unfold cutplaneref10_Good.f at H
 obtain ⟨t298, A3, H⟩ := bs_ H
 try dsimp -simprocs only at H
 by_cases c4 : t298 = true
 ·subst c4
  rw [if_pos rfl] at H
  have H' := A0_ H
  clear H
  go_enter Tryz.func16, Tryz.ntmps16
  go_wp2_with (first | ((with_reducible refine gate_callee (f := 37) rfl ?_); refine goesL_ (some 7) rfl rfl Tryz.func37 (by kernel_rfl) rfl #[.int .u8 a0] rfl (am_ rfl) ?_; (with_reducible refine (cutplaneref03_Is.calls a0 true _ A3.out).mono ?_); rintro e w' ⟨rfl, ⟨nd, rfl⟩⟩; refine ⟨_, rfl, ?_⟩))
  go_loopg [5] k (fun kq v5 w' => ∃ (x5_1 : Int), v5 = .int .i64 x5_1 ∧ Aside0 (cutplaneref10_Good.l0 kq a0 l1 x5_1 = some r) ∧ Aside0 (kq ≤ k) ∧ Drawn0 w w')
  case atStart => exact ⟨(0), (by first | rfl | (simp; done) | (simp [*]; done)), H', ⟨Nat.le_refl _⟩, by repeat (first | exact Drawn0.refl _ | apply Drawn0.step)⟩
  case round =>
   clear H'
   try clear c1
   try clear p2
   try clear c3
   try clear c4
   obtain ⟨x5_1, rfl, HA, HK1, ⟨m1, rfl⟩⟩ := hrel
   cases gk with
   | zero => exact absurd HA.out (by simp [cutplaneref10_Good.l0])
   | succ k1 =>
    have H := HA.out
    clear HA
    simp only [cutplaneref10_Good.l0] at H
    by_cases c5 : x5_1 < (l1.length : Int)
    ·rw [if_pos c5] at H
     have c5b0 : decide (x5_1 < (l1.length : Int)) = true := decide_eq_true c5
     clear c5
     obtain ⟨c6, H⟩ := ic_ H
     have c6b0 : decide (0 ≤ x5_1) = true := decide_eq_true c6
     clear c6
     obtain ⟨t300, A7, H⟩ := bs_ H
     try dsimp -simprocs only at H
     by_cases c8 : t300 = 0
     ·rw [if_pos c8] at H
      have c8b0 : (t300 == 0) = true := beq_iff_eq.mpr c8
      have c8b1 : (t300 != 0) = false := bne_eq_false_iff_eq.mpr c8
      clear c8
      obtain ⟨t302, A9, H⟩ := bs_ H
      try dsimp -simprocs only at H
      by_cases c10 : t302 = 0
      ·rw [if_pos c10] at H
       have c10b0 : (t302 == 0) = true := beq_iff_eq.mpr c10
       have c10b1 : (t302 != 0) = false := bne_eq_false_iff_eq.mpr c10
       clear c10
       have H' := A0_ H
       clear H
       have p299 : 0 ≤ (x5_1 : Int) := of_decide_eq_true (by first | (with_reducible assumption) | assumption)
       have q299 : x5_1 < (l1.length : Int) := of_decide_eq_true (by first | (with_reducible assumption) | assumption)
       obtain ⟨ad299, e299, hx299_0, hx299_1⟩ := at_T26 HR1.out x5_1 p299 q299
       cases e299
       replace p299 := eq_true p299
       replace q299 := eq_true q299
       go_wp2_with (first | ((with_reducible refine gate_callee (f := 39) rfl ?_); refine goesL_ (some 21) rfl rfl Tryz.func39 (by kernel_rfl) rfl #[.int .u8 a0, .int .u64 ((rd_T26 l1 x5_1).f0)] rfl (am_ rfl) ?_; (with_reducible refine (cutplaneref03_Good.calls a0 ((rd_T26 l1 x5_1).f0) t300 _ A7.out).mono ?_); rintro e w' ⟨rfl, ⟨nd, rfl⟩⟩; refine ⟨_, rfl, ?_⟩; have p301 : 0 ≤ (x5_1 : Int) := of_decide_eq_true (by first | (with_reducible assumption) | assumption); have q301 : x5_1 < (l1.length : Int) := of_decide_eq_true (by first | (with_reducible assumption) | assumption); obtain ⟨ad301, e301, hx301_0, hx301_1⟩ := at_T26 HR1.out x5_1 p301 q301; obtain rfl : ad299 = ad301 := (by injection e301); replace p301 := eq_true p301; replace q301 := eq_true q301) | (go_at_call 39; (with_reducible refine (cutplaneref03_Good.calls a0 ((rd_T26 l1 x5_1).f1) t302 _ A9.out).mono ?_); rintro e w' ⟨rfl, ⟨nd, rfl⟩⟩))
       go_roundg k1
       case measure => have := HK1.out; omega
       case rel => exact ⟨(wrap64 (x5_1 + 1)), (by first | rfl | (simp; done) | (simp [*]; done)), H', ⟨by have := HK1.out; omega⟩, by repeat (first | exact Drawn0.refl _ | apply Drawn0.step)⟩
      ·rw [if_neg c10] at H
       have c10b0 : (t302 == 0) = false := beq_eq_false_iff_ne.mpr c10
       have c10b1 : (t302 != 0) = true := bne_iff_ne.mpr c10
       obtain rfl := Option.some.inj H
       have p299 : 0 ≤ (x5_1 : Int) := of_decide_eq_true (by first | (with_reducible assumption) | assumption)
       have q299 : x5_1 < (l1.length : Int) := of_decide_eq_true (by first | (with_reducible assumption) | assumption)
       obtain ⟨ad299, e299, hx299_0, hx299_1⟩ := at_T26 HR1.out x5_1 p299 q299
       cases e299
       replace p299 := eq_true p299
       replace q299 := eq_true q299
       go_wp2_with (first | ((with_reducible refine gate_callee (f := 39) rfl ?_); refine goesL_ (some 21) rfl rfl Tryz.func39 (by kernel_rfl) rfl #[.int .u8 a0, .int .u64 ((rd_T26 l1 x5_1).f0)] rfl (am_ rfl) ?_; (with_reducible refine (cutplaneref03_Good.calls a0 ((rd_T26 l1 x5_1).f0) t300 _ A7.out).mono ?_); rintro e w' ⟨rfl, ⟨nd, rfl⟩⟩; refine ⟨_, rfl, ?_⟩; have p301 : 0 ≤ (x5_1 : Int) := of_decide_eq_true (by first | (with_reducible assumption) | assumption); have q301 : x5_1 < (l1.length : Int) := of_decide_eq_true (by first | (with_reducible assumption) | assumption); obtain ⟨ad301, e301, hx301_0, hx301_1⟩ := at_T26 HR1.out x5_1 p301 q301; obtain rfl : ad299 = ad301 := (by injection e301); replace p301 := eq_true p301; replace q301 := eq_true q301) | (go_at_call 39; (with_reducible refine (cutplaneref03_Good.calls a0 ((rd_T26 l1 x5_1).f1) t302 _ A9.out).mono ?_); rintro e w' ⟨rfl, ⟨nd, rfl⟩⟩))
       go_ret
       exact ⟨by first | rfl | (simp; done) | (simp [*]; done), by repeat (first | exact Drawn0.refl _ | apply Drawn0.step)⟩
     ·rw [if_neg c8] at H
      have c8b0 : (t300 == 0) = false := beq_eq_false_iff_ne.mpr c8
      have c8b1 : (t300 != 0) = true := bne_iff_ne.mpr c8
      obtain rfl := Option.some.inj H
      have p299 : 0 ≤ (x5_1 : Int) := of_decide_eq_true (by first | (with_reducible assumption) | assumption)
      have q299 : x5_1 < (l1.length : Int) := of_decide_eq_true (by first | (with_reducible assumption) | assumption)
      obtain ⟨ad299, e299, hx299_0, hx299_1⟩ := at_T26 HR1.out x5_1 p299 q299
      cases e299
      replace p299 := eq_true p299
      replace q299 := eq_true q299
      go_wp2_with (first | ((with_reducible refine gate_callee (f := 39) rfl ?_); refine goesL_ (some 21) rfl rfl Tryz.func39 (by kernel_rfl) rfl #[.int .u8 a0, .int .u64 ((rd_T26 l1 x5_1).f0)] rfl (am_ rfl) ?_; (with_reducible refine (cutplaneref03_Good.calls a0 ((rd_T26 l1 x5_1).f0) t300 _ A7.out).mono ?_); rintro e w' ⟨rfl, ⟨nd, rfl⟩⟩; refine ⟨_, rfl, ?_⟩))
      go_ret
      exact ⟨by first | rfl | (simp; done) | (simp [*]; done), by repeat (first | exact Drawn0.refl _ | apply Drawn0.step)⟩
    ·rw [if_neg c5] at H
     have c5b0 : decide (x5_1 < (l1.length : Int)) = false := decide_eq_false c5
     clear c5
     obtain rfl := Option.some.inj H
     go_wp2
     go_ret
     exact ⟨by first | rfl | (simp; done) | (simp [*]; done), by repeat (first | exact Drawn0.refl _ | apply Drawn0.step)⟩
 ·replace c4 := Bool.eq_false_iff.mpr c4
  subst c4
  rw [if_neg (show ¬ (false = true) by decide)] at H
  obtain rfl := Option.some.inj H
  go_enter Tryz.func16, Tryz.ntmps16
  go_wp2_with (first | ((with_reducible refine gate_callee (f := 37) rfl ?_); refine goesL_ (some 7) rfl rfl Tryz.func37 (by kernel_rfl) rfl #[.int .u8 a0] rfl (am_ rfl) ?_; (with_reducible refine (cutplaneref03_Is.calls a0 false _ A3.out).mono ?_); rintro e w' ⟨rfl, ⟨nd, rfl⟩⟩; refine ⟨_, rfl, ?_⟩))
  go_ret
  exact ⟨by first | rfl | (simp; done) | (simp [*]; done), by repeat (first | exact Drawn0.refl _ | apply Drawn0.step)⟩
def cutplanelaw11_opens.f (k : Nat) (a0 : Int) (a1 : Int) (l2 : List (S26)) : Option (Int) := (cutplaneref05_Opens.f k a0 a1 ([] : List Int)).bind fun t303 => (if t303 = 0 then ((cutplaneref10_Good.f k a0 l2).bind fun t304 => (some t304)) else (some t303))
theorem cutplanelaw11_opens.calls (k : Nat) (a0 : Int) (a1 : Int) (A2 : Option Addr) (c2 : Nat) (l2 : List (S26)) (r : Int) (w : World) (hr2 : Kd.C k26 w A2 l2.length l2) (hc2 : l2.length ≤ c2) (h : cutplanelaw11_opens.f k a0 a1 l2 = some r) :
  Calls Tryz.prog 5 #[.int .u8 a0, .int .u8 a1, .slice A2 l2.length c2] w fun e w' => e = .returned (.int .i64 r) ∧ Drawn0 w w' := by
 have HR2 := A0_ hr2
 have HC2 := A0_ hc2
 clear hr2 hc2
 have H := h
 clear h
 unfold cutplanelaw11_opens.f at H
 obtain ⟨t303, A4, H⟩ := bs_ H
 try dsimp -simprocs only at H
 by_cases c5 : t303 = 0
 ·rw [if_pos c5] at H
  have c5b0 : (t303 == 0) = true := beq_iff_eq.mpr c5
  have c5b1 : (t303 != 0) = false := bne_eq_false_iff_eq.mpr c5
  clear c5
  obtain ⟨t304, A6, H⟩ := bs_ H
  try dsimp -simprocs only at H
  obtain rfl := Option.some.inj H
  go_enter Tryz.func5, Tryz.ntmps5
  go_wp2_with (first | ((with_reducible refine gate_callee (f := 15) rfl ?_); refine goesL_ (some 10) rfl rfl Tryz.func15 (by kernel_rfl) rfl #[.int .u8 a0, .int .u8 a1, .slice none 0 0] rfl (am_ rfl) ?_; (refine (cutplaneref05_Opens.calls k a0 a1 _ _ ([] : List Int) t303 _ ?side1 ?side2 A4.out).mono ?_); (case side1 => exact Kd.C_nil _ _); (case side2 => exact Nat.le_refl _); rintro e w' ⟨rfl, ⟨nd, rfl⟩⟩; refine ⟨_, rfl, ?_⟩) | ((with_reducible refine gate_callee (f := 16) rfl ?_); refine goesL_ (some 16) rfl rfl Tryz.func16 (by kernel_rfl) rfl #[.int .u8 a0, .slice A2 l2.length c2] rfl (am_ rfl) ?_; (with_reducible refine (cutplaneref10_Good.calls k a0 _ _ l2 t304 _ ?side1 ?side2 A6.out).mono ?_); (case side1 => repeat (first | exact HR2.out | (with_reducible refine Kd.C_alloc ?_ _) | (with_reducible refine Kd.C_drewN ?_ _) | (with_reducible refine Kd.C_drew ?_))); (case side2 => exact HC2.out); rintro e w' ⟨rfl, ⟨nd, rfl⟩⟩; refine ⟨_, rfl, ?_⟩))
  go_ret
  exact ⟨by first | rfl | (simp; done) | (simp [*]; done), by repeat (first | exact Drawn0.refl _ | apply Drawn0.step)⟩
 ·rw [if_neg c5] at H
  have c5b0 : (t303 == 0) = false := beq_eq_false_iff_ne.mpr c5
  have c5b1 : (t303 != 0) = true := bne_iff_ne.mpr c5
  obtain rfl := Option.some.inj H
  go_enter Tryz.func5, Tryz.ntmps5
  go_wp2_with (first | ((with_reducible refine gate_callee (f := 15) rfl ?_); refine goesL_ (some 10) rfl rfl Tryz.func15 (by kernel_rfl) rfl #[.int .u8 a0, .int .u8 a1, .slice none 0 0] rfl (am_ rfl) ?_; (refine (cutplaneref05_Opens.calls k a0 a1 _ _ ([] : List Int) t303 _ ?side1 ?side2 A4.out).mono ?_); (case side1 => exact Kd.C_nil _ _); (case side2 => exact Nat.le_refl _); rintro e w' ⟨rfl, ⟨nd, rfl⟩⟩; refine ⟨_, rfl, ?_⟩))
  go_ret
  exact ⟨by first | rfl | (simp; done) | (simp [*]; done), by repeat (first | exact Drawn0.refl _ | apply Drawn0.step)⟩
end Go.Proofs.YtlgapmhjaaajfaaGreat.PA
end

section
namespace Go.Proofs.YtlgapmhjaaajfaaGreat.PA
open Go.RowKit Go.Proofs.YtlgapmhjaaajfaaGreatW.PrintWords Go.Proofs.YtlgapmhjaaajfaaGreatW.PrintLast Go.Proofs.YtlgapmhjaaajfaaGreatW.PrintMore
attribute [local go_sem] max2_int min2_int max_two min_two max_three min_three max_four min_four   -- for this text's walks alone
set_option linter.unusedVariables false
set_option linter.unusedSimpArgs false
mutual
def special_Mul.j0 : Nat → Int → Int → Int → Int → Int → Bool → Int → Int → Int → Int → Option (Int × Int × Int × Int × Bool × Int)
 | 0, _, _, _, _, _, _, _, _, _, _ => none
 | k + 1, x0, x1, x13, x14, x15, x42, x306000, x306001, x307000, x307001 => if x42 = true then (some (0, 0, 0, 0, false, 0)) else (if x13 = 4 then (special_Mul.j1 k x0 x1 x13 x14 x15 true x306000 x306001 x307000 x307001) else (special_Mul.j1 k x0 x1 x13 x14 x15 (x14 == 4) x306000 x306001 x307000 x307001))
def special_Mul.j1 : Nat → Int → Int → Int → Int → Int → Bool → Int → Int → Int → Int → Option (Int × Int × Int × Int × Bool × Int)
 | 0, _, _, _, _, _, _, _, _, _, _ => none
 | k + 1, x0, x1, x13, x14, x15, x50, x306000, x306001, x307000, x307001 => if x50 = true then ((special_none.f k x0 0).bind fun bt319 => (some (bt319.1, bt319.2.1, bt319.2.2.1, bt319.2.2.2, true, 0))) else (if x13 = 1 then ((special_none.f k x0 1).bind fun bt323 => (some (bt323.1, bt323.2.1, bt323.2.2.1, bt323.2.2.2, true, 0))) else (if x14 = 1 then ((special_none.f k x0 1).bind fun bt327 => (some (bt327.1, bt327.2.1, bt327.2.2.1, bt327.2.2.2, true, 0))) else ((special_boxOf.f k x0 x306000 x306001 x13).bind fun bt331 => ((special_boxOf.f k x0 x307000 x307001 x14).bind fun bt335 => ((special_box_times.f bt331.1 bt331.2.1 bt331.2.2.1 bt331.2.2.2 bt335.1 bt335.2.1 bt335.2.2.1 bt335.2.2.2 x1).bind fun bt339 => ((special_box_words.f k bt339.1 bt339.2.1 bt339.2.2.1 bt339.2.2.2 x0 x15).bind fun bt344 => (some (bt344.1, bt344.2, 0, 0, true, 0))))))))
end
def special_Mul.f (k : Nat) (a0 : Int) (a1 : Int) (a2_0 : Int) (a2_1 : Int) (a3_0 : Int) (a3_1 : Int) : Option (Int × Int × Int × Int × Bool × Int) := (special_open.f k a0 a1 (([(⟨a2_0, a2_1⟩ : S26), (⟨a3_0, a3_1⟩ : S26)] : List (S26)))).bind fun bt311 => (if bt311.2 = 0 then (if 0 < (bt311.1.length : Int) then (if 1 < (bt311.1.length : Int) then ((word_Inf.f k a0 false).bind fun bt317 => (if (rd bt311.1 0) ≤ 2 then (special_Mul.j0 k a0 a1 (rd bt311.1 0) (rd bt311.1 1) bt317.1 (decide ((rd bt311.1 1) ≤ 2)) a2_0 a2_1 a3_0 a3_1) else (special_Mul.j0 k a0 a1 (rd bt311.1 0) (rd bt311.1 1) bt317.1 false a2_0 a2_1 a3_0 a3_1))) else (none)) else (none)) else (some (0, 0, 0, 0, false, bt311.2)))
theorem special_Mul.mono_l : ∀ k, (∀ y0 y1 y2 y3 y4 y5 y6 y7 y8 y9, LeO (special_Mul.j0 k y0 y1 y2 y3 y4 y5 y6 y7 y8 y9) (special_Mul.j0 (k + 1) y0 y1 y2 y3 y4 y5 y6 y7 y8 y9)) ∧ (∀ y0 y1 y2 y3 y4 y5 y6 y7 y8 y9, LeO (special_Mul.j1 k y0 y1 y2 y3 y4 y5 y6 y7 y8 y9) (special_Mul.j1 (k + 1) y0 y1 y2 y3 y4 y5 y6 y7 y8 y9))
 | 0 => ⟨fun _ _ _ _ _ _ _ _ _ _ r h => by simp [special_Mul.j0] at h, fun _ _ _ _ _ _ _ _ _ _ r h => by simp [special_Mul.j1] at h⟩
 | k + 1 => by
  obtain ⟨ih0, ih1⟩ := special_Mul.mono_l k
  refine ⟨?_, ?_⟩
  ·intro y0 y1 y2 y3 y4 y5 y6 y7 y8 y9
   unfold special_Mul.j0
   repeat' first
   | (with_reducible exact ih0 _ _ _ _ _ _ _ _ _ _)
   | (with_reducible exact ih1 _ _ _ _ _ _ _ _ _ _)
   | (with_reducible exact special_boxOf.mono _ _ _ _ _)
   | (with_reducible exact special_box_words.mono _ _ _ _ _ _ _)
   | (with_reducible exact special_none.mono _ _ _)
   | (with_reducible exact special_open.mono _ _ _ _)
   | (with_reducible exact word_Inf.mono _ _ _)
   | (with_reducible exact LeO.refl _)
   | (with_reducible exact LeO.none _)
   | (with_reducible refine LeO.ite ?_ ?_)
   | (with_reducible refine LeO.bind ?_ (fun _ => ?_))
   | exact ih0 _ _ _ _ _ _ _ _ _ _
   | exact ih1 _ _ _ _ _ _ _ _ _ _
   | exact special_boxOf.mono _ _ _ _ _
   | exact special_box_words.mono _ _ _ _ _ _ _
   | exact special_none.mono _ _ _
   | exact special_open.mono _ _ _ _
   | exact word_Inf.mono _ _ _
   | exact LeO.none _
   | refine LeO.ite ?_ ?_
   | refine LeO.bind ?_ (fun _ => ?_)
  ·intro y0 y1 y2 y3 y4 y5 y6 y7 y8 y9
   unfold special_Mul.j1
   repeat' first
   | (with_reducible exact ih0 _ _ _ _ _ _ _ _ _ _)
   | (with_reducible exact ih1 _ _ _ _ _ _ _ _ _ _)
   | (with_reducible exact special_boxOf.mono _ _ _ _ _)
   | (with_reducible exact special_box_words.mono _ _ _ _ _ _ _)
   | (with_reducible exact special_none.mono _ _ _)
   | (with_reducible exact special_open.mono _ _ _ _)
   | (with_reducible exact word_Inf.mono _ _ _)
   | (with_reducible exact LeO.refl _)
   | (with_reducible exact LeO.none _)
   | (with_reducible refine LeO.ite ?_ ?_)
   | (with_reducible refine LeO.bind ?_ (fun _ => ?_))
   | exact ih0 _ _ _ _ _ _ _ _ _ _
   | exact ih1 _ _ _ _ _ _ _ _ _ _
   | exact special_boxOf.mono _ _ _ _ _
   | exact special_box_words.mono _ _ _ _ _ _ _
   | exact special_none.mono _ _ _
   | exact special_open.mono _ _ _ _
   | exact word_Inf.mono _ _ _
   | exact LeO.none _
   | refine LeO.ite ?_ ?_
   | refine LeO.bind ?_ (fun _ => ?_)
theorem special_Mul.mono : ∀ a0 a1 a2 a3 a4 a5 k, LeO (special_Mul.f k a0 a1 a2 a3 a4 a5) (special_Mul.f (k + 1) a0 a1 a2 a3 a4 a5) := by
 intro a0 a1 a2 a3 a4 a5 k
 obtain ⟨ih0, ih1⟩ := special_Mul.mono_l k
 unfold special_Mul.f
 repeat' first
   | (with_reducible exact ih0 _ _ _ _ _ _ _ _ _ _)
   | (with_reducible exact ih1 _ _ _ _ _ _ _ _ _ _)
   | (with_reducible exact special_boxOf.mono _ _ _ _ _)
   | (with_reducible exact special_box_words.mono _ _ _ _ _ _ _)
   | (with_reducible exact special_none.mono _ _ _)
   | (with_reducible exact special_open.mono _ _ _ _)
   | (with_reducible exact word_Inf.mono _ _ _)
   | (with_reducible exact LeO.refl _)
   | (with_reducible exact LeO.none _)
   | (with_reducible refine LeO.ite ?_ ?_)
   | (with_reducible refine LeO.bind ?_ (fun _ => ?_))
   | exact ih0 _ _ _ _ _ _ _ _ _ _
   | exact ih1 _ _ _ _ _ _ _ _ _ _
   | exact special_boxOf.mono _ _ _ _ _
   | exact special_box_words.mono _ _ _ _ _ _ _
   | exact special_none.mono _ _ _
   | exact special_open.mono _ _ _ _
   | exact word_Inf.mono _ _ _
   | exact LeO.none _
   | refine LeO.ite ?_ ?_
   | refine LeO.bind ?_ (fun _ => ?_)
def special_Mul.T4 : Bool × List (List Nat × List Nat) := (true, [([], []), ([0], [0]), ([1], [1]), ([], []), ([3], [3]), ([4], [4]), ([2, 0, 1, 2], [2]), ([5, 6, 0, 1, 2, 3, 4, 5, 6], [5])])
def special_Mul.B4 : List Nat := [0, 1, 3, 0, 8, 24, 7, 127]
theorem special_Mul.tab4 : rtab .any (opsOf Tryz.f17 4) = special_Mul.T4 := by kernel_rfl
theorem special_Mul.bits4 : waitsOk special_Mul.T4.2 special_Mul.B4 = true := by kernel_rfl
def special_Mul.T12 : Bool × List (List Nat × List Nat) := (true, [([], []), ([], []), ([], []), ([0, 1, 2], [0, 1, 2]), ([], []), ([], []), ([], []), ([4, 5, 6, 3], [4, 5, 6]), ([], []), ([3, 7, 8, 7], [3, 7, 8]), ([], []), ([10, 9, 9, 0, 1, 2, 3, 4, 5, 6, 7, 8, 9, 10], [9, 10])])
def special_Mul.B12 : List Nat := [0, 0, 0, 7, 0, 0, 0, 127, 0, 511, 0, 2047]
theorem special_Mul.tab12 : rtab .any (opsOf Tryz.f17 12) = special_Mul.T12 := by kernel_rfl
theorem special_Mul.bits12 : waitsOk special_Mul.T12.2 special_Mul.B12 = true := by kernel_rfl
theorem special_Mul.calls (k : Nat) (a0 : Int) (a1 : Int) (a2_0 : Int) (a2_1 : Int) (a3_0 : Int) (a3_1 : Int) (r1 : Int) (r2 : Int) (r3 : Int) (r4 : Int) (r5 : Bool) (r6 : Int) (w : World) (h : special_Mul.f k a0 a1 a2_0 a2_1 a3_0 a3_1 = some (r1, r2, r3, r4, r5, r6)) :
  Calls Tryz.prog 17 #[.int .u8 a0, .int .u8 a1, .agg #[.int .u64 a2_0, .int .u64 a2_1], .agg #[.int .u64 a3_0, .int .u64 a3_1]] w fun e w' => e = .returned (.tuple #[.agg #[.int .u64 r1, .int .u64 r2, .int .u8 r3, .int .u8 r4], .bool r5, .int .i64 r6]) ∧ Below w.heap.size w w' := by
 have hu26 := Tryz.underlying26
 have hu29 := Tryz.underlying29
 have hu48 := Tryz.underlying48
 have HB := A0_ (Below.refl w.heap.size w)
 have H := h
 clear h
 unfold special_Mul.f at H
 obtain ⟨y308, hy308⟩ : ∃ y_ : List (S26), y_ = (([(⟨a2_0, a2_1⟩ : S26), (⟨a3_0, a3_1⟩ : S26)] : List (S26))) := ⟨_, rfl⟩
 replace H : ((special_open.f k a0 a1 y308).bind fun bt311 => (if bt311.2 = 0 then (if 0 < (bt311.1.length : Int) then (if 1 < (bt311.1.length : Int) then ((word_Inf.f k a0 false).bind fun bt317 => (if (rd bt311.1 0) ≤ 2 then (special_Mul.j0 k a0 a1 (rd bt311.1 0) (rd bt311.1 1) bt317.1 (decide ((rd bt311.1 1) ≤ 2)) a2_0 a2_1 a3_0 a3_1) else (special_Mul.j0 k a0 a1 (rd bt311.1 0) (rd bt311.1 1) bt317.1 false a2_0 a2_1 a3_0 a3_1))) else (none)) else (none)) else (some (0, 0, 0, 0, false, bt311.2)))) = some (r1, r2, r3, r4, r5, r6) := by first | (rw [hy308]; with_reducible exact H) | (have H2_ := (Option.bind_some _ _).symm.trans H; rw [hy308]; with_reducible exact H2_) | (have H2_ := (Option.bind_some _ _).symm.trans H; with_reducible exact H2_) | with_reducible exact H | (rw [hy308]; exact H) | exact H
 have Ny308 := A0_ hy308
 clear hy308
 obtain ⟨⟨t311, t312⟩, A5, H⟩ := bs_ H
 try dsimp -simprocs only at H
 by_cases c6 : t312 = 0
 ·rw [if_pos c6] at H
  have c6b0 : (t312 == 0) = true := beq_iff_eq.mpr c6
  have c6b1 : (t312 != 0) = false := bne_eq_false_iff_eq.mpr c6
  clear c6
  obtain ⟨(c7 : 0 < (t311.length : Int)), H⟩ := ic_ H
  have c7b0 : decide (0 < (t311.length : Int)) = true := decide_eq_true c7
  have c7b1 : decide (0 < t311.length) = true := decide_eq_true (by omega)
  clear c7
  obtain ⟨(c8 : 1 < (t311.length : Int)), H⟩ := ic_ H
  have c8b0 : decide (1 < (t311.length : Int)) = true := decide_eq_true c8
  have c8b1 : decide (1 < t311.length) = true := decide_eq_true (by omega)
  clear c8
  obtain ⟨⟨t317, t318⟩, A9, H⟩ := bs_ H
  try dsimp -simprocs only at H
  have HC10 := A0_ H
  clear H
  go_enter Tryz.func17, Tryz.ntmps17
  try go_wp2_with (first | ((with_reducible refine gate_dst (N := 6) rfl ?_); refine box_event ?hg (N := 6) ?hd (cs := #[.int .u64 a2_0, .int .u64 a2_1]) (t := 26) ?hr ?_; (case hd => rfl); (case hg => rfl); (case hr => first | (go_simp; done) | (go_simp; rfl)); intro gb305 hg w11 hbox hb; have BK305 := A0_ (hbox); have GW305 := A0_ ((by rw [hg]; exact (below_size (qm_ HB.out)) : w.heap.size ≤ gb305)); have GE305 := GW305; replace HB := hs_ hb; clear hb hbox hg) | ((with_reducible refine gate_dst (N := 7) rfl ?_); refine box_event ?hg (N := 7) ?hd (cs := #[.int .u64 a3_0, .int .u64 a3_1]) (t := 26) ?hr ?_; (case hd => rfl); (case hg => rfl); (case hr => first | (go_simp; done) | (go_simp; rfl)); intro gb306 hg w12 hbox hb; have BK306 := A0_ (hbox); have GW306 := A0_ ((by rw [hg]; exact (below_size qz_) : w.heap.size ≤ gb306)); have GE306 := GW306; replace HB := hs_ hb; have NB305_306 := nl_ hg BK305; have NB306_305 := ng_ hg BK305; replace BK305 := bb_ BK305 hb; clear hb hbox hg) | ((with_reducible refine gate_dst (N := 8) rfl ?_); refine box_event ?hg (N := 8) ?hd (cs := #[.int .u64 0, .int .u64 0, .int .u8 0, .int .u8 0]) (t := 29) ?hr ?_; (case hd => rfl); (case hg => rfl); (case hr => first | (go_simp; done) | (go_simp; rfl)); intro gb307 hg w13 hbox hb; have BK307 := A0_ (hbox); have GW307 := A0_ ((by rw [hg]; exact (below_size qz_) : w.heap.size ≤ gb307)); have GE307 := GW307; replace HB := hs_ hb; have NB305_307 := nl_ hg BK305; have NB307_305 := ng_ hg BK305; replace BK305 := bb_ BK305 hb; have NB306_307 := nl_ hg BK306; have NB307_306 := ng_ hg BK306; replace BK306 := bb_ BK306 hb; clear hb hbox hg; have hnb14 := NB305_306.out; have hnc14 := NB306_305.out; have hnb15 := NB305_307.out; have hnc15 := NB307_305.out; have hcz16 := bc2_ BK305.out; have hfz16 := bf2_ BK305.out; have hnb17 := NB306_307.out; have hnc17 := NB307_306.out; have hcz18 := bc2_ BK306.out; have hfz18 := bf2_ BK306.out) | ((with_reducible refine gate_dst (N := 23) rfl ?_); refine Kd.R_lit k26 _ 26 ?hg (N := 23) ?hd (xs := ([(⟨a2_0, a2_1⟩ : S26), (⟨a3_0, a3_1⟩ : S26)] : List (S26))) (inner := [.int .u64 a2_0, .int .u64 a2_1, .int .u64 a3_0, .int .u64 a3_1]) (ok := fun _ => True) (okp := fun _ => True) ?hr ?hp (fun _ hk => hk) trivial (Below.refl _ _) (Nat.le_refl _) (by simp) ?_; (case hd => rfl); (case hg => rfl); (case hr => first | (go_simp; done) | (go_simp; rfl)); (case hp => exact (Reps.c2 (show Kd.M k26 _ _ _ (⟨a2_0, a2_1⟩ : S26) [.int .u64 a2_0, .int .u64 a2_1] from (k26_mkM _ _ _ (⟨a2_0, a2_1⟩ : S26) )) (Reps.c2 (show Kd.M k26 _ _ _ (⟨a3_0, a3_1⟩ : S26) [.int .u64 a3_0, .int .u64 a3_1] from (k26_mkM _ _ _ (⟨a3_0, a3_1⟩ : S26) )) (Reps.none _ _)))); intro v309 w19 ho20 hb hg_ hnew_; clear hg_ hnew_; (first | rw [← Ny308.out] at ho20 | (simp only [Int.reduceToNat] at ho20; rw [← Ny308.out] at ho20)); have HO310 := A0_ (Kd.R_lower (Kd.R_newB (Kd.R_newB ho20 (bm_ BK305.out)) (bm_ BK306.out)) (below_size qz_)); replace BK305 := bb_ BK305 hb; replace BK306 := bb_ BK306 hb; replace BK307 := bb_ BK307 hb; replace HB := hs_ hb; clear hb ho20; obtain ⟨Ao21, co21, eo21⟩ := Kd.R_slice HO310.out; subst eo21) | ((with_reducible refine gate_callee (f := 8) rfl ?_); refine goesL_ (some 24) rfl rfl Tryz.func8 (by kernel_rfl) rfl #[.int .u8 a0, .int .u8 a1, .slice Ao21 y308.length co21] rfl (am_ rfl) ?_; (with_reducible refine (special_open.calls k a0 a1 _ _ y308 t311 t312 _ ?side1 ?side2 A5.out).mono ?_); (case side1 => repeat (first | exact (Kd.R_reads' HO310.out).2.2 | (with_reducible refine Kd.C_alloc ?_ _) | (with_reducible refine Kd.C_drewN ?_ _) | (with_reducible refine Kd.C_drew ?_))); (case side2 => exact (Kd.R_reads' HO310.out).2.1); rintro e w22 ⟨v313, rfl, ho0, hb⟩; refine ⟨_, rfl, ?_⟩; replace HO310 := A0_ (Kd.R_below (by exact rm_ HO310.out) hb); have HO314 := A0_ (Kd.R_lower ho0 (below_size qz_)); replace BK305 := bb_ BK305 hb; replace BK306 := bb_ BK306 hb; replace BK307 := bb_ BK307 hb; replace HB := hs_ hb; (try clear hb); (try clear ho0)))
  replace HO310 := A0_ (Kd.R_drew HO310.out)
  replace HO314 := A0_ (Kd.R_drew HO314.out)
  replace BK305 := A0_ (blk_drew BK305.out)
  replace BK306 := A0_ (blk_drew BK306.out)
  replace BK307 := A0_ (blk_drew BK307.out)
  replace HB := A0_ (below_drew1 HB.out)
  obtain ⟨Ao24, co24, eo24⟩ := Kd.R_slice HO314.out
  (first | subst eo24 | (injection eo24 with f1_ f2_ f3_; have f4_ := f1_.symm; have f5_ := f3_.symm; clear f1_ f2_ f3_; subst f4_; subst f5_))
  have p315 : 0 ≤ (0 : Int) := (by omega)
  have q315 : 0 < (t311.length : Int) := of_decide_eq_true (by first | (with_reducible assumption) | assumption)
  obtain ⟨ad315, e315, hx315_0⟩ := Kd.at_int (Kd.R_reads' HO314.out).2.2 0 p315 q315
  cases e315
  have qi315 : (0 < t311.length) = True := eq_true (by omega)
  (try rw [show ((0 : Int)).toNat = 0 from rfl] at hx315_0)
  (try rw [Addr.add_zero'] at hx315_0)
  replace p315 := eq_true p315
  replace q315 := eq_true q315
  have p316 : 0 ≤ (1 : Int) := (by omega)
  have q316 : 1 < (t311.length : Int) := of_decide_eq_true (by first | (with_reducible assumption) | assumption)
  obtain ⟨ad316, e316, hx316_0⟩ := Kd.at_int (Kd.R_reads' HO314.out).2.2 1 p316 q316
  obtain rfl : ad315 = ad316 := (by injection e316)
  (try simp only [show (1 : Int).toNat = 1 from rfl, Nat.reduceMul, Nat.reduceEqDiff, Go.Addr.add, ↓reduceIte] at hx316_0)
  have qi316 : (1 < t311.length) = True := eq_true (by omega)
  (try rw [show ((1 : Int)).toNat = 1 from rfl] at hx316_0)
  replace p316 := eq_true p316
  replace q316 := eq_true q316
  refine start_ (n := 8) (S := fun w' => w'.cell? ad315 = some (.int .u8 (rd t311 0)) ∧ w'.cell? ⟨ad315.block, ad315.off + 1, none⟩ = some (.int .u8 (rd t311 1))) (ds := []) #[false, false, false, false, false, false, false, false] (by kernel_rfl) rfl rfl ⟨hx315_0, hx316_0⟩ (fun hHeld => ?_); refine with_tabW special_Mul.tab4 special_Mul.bits4 (fun HT_ HW_ => ?_)
  generalize w22.drew = w23 at HO310 HO314 BK305 BK306 BK307 HB hx315_0 hx316_0 hHeld ⊢
  refine pure_ (i := 0) (N := some 31) (v := ?_) (a' := ?_) #[true, false, false, false, false, false, false, false] rfl rfl (any_of HT_.out (by kernel_rfl)) (fun _ _ _ h => h) (Or.inl ⟨by rfl, ?_⟩) ?_ ?_
  rotate_left
  ·intro w'
   go_simp
   with_reducible rfl
  rotate_left
  ·simp only [Act.put, sp_, i64_w, i32_w]
   rfl
  refine pure_ (i := 1) (N := some 32) (v := ?_) (a' := ?_) #[true, true, false, false, false, false, false, false] rfl rfl (any_of HT_.out (by kernel_rfl)) (fun _ _ _ h => h) (Or.inl ⟨by rfl, ?_⟩) ?_ ?_
  rotate_left
  ·intro w'
   go_simp
   with_reducible rfl
  rotate_left
  ·simp only [Act.put, sp_, i64_w, i32_w]
   rfl
  refine pure_ (i := 3) (N := some 34) (v := ?_) (a' := ?_) #[true, true, false, true, false, false, false, false] rfl rfl (any_of HT_.out (by kernel_rfl)) (fun _ _ _ h => h) (Or.inl ⟨by rfl, ?_⟩) ?_ ?_
  rotate_left
  ·intro w'
   go_simp
   with_reducible rfl
  rotate_left
  ·simp only [Act.put, sp_, i64_w, i32_w]
   rfl
  refine pure_ (i := 4) (N := some 35) (v := ?_) (a' := ?_) #[true, true, false, true, true, false, false, false] rfl rfl (any_of HT_.out (by kernel_rfl)) (fun _ _ _ h => h) (Or.inl ⟨by rfl, ?_⟩) ?_ ?_
  rotate_left
  ·intro w'
   go_simp
   with_reducible rfl
  rotate_left
  ·simp only [Act.put, sp_, i64_w, i32_w]
   rfl
  refine take_ (i := 2) (N := some 33) (v := ?_) (a' := ?_) #[true, true, true, true, true, false, false, false] rfl rfl (take_ofW HT_.out HW_.out (by kernel_rfl)) (fun _ _ _ h => h) (Or.inl ⟨by rfl, ?_⟩) hHeld ?_ ?_
  rotate_left
  ·rintro w' ⟨s0, s1⟩
   go_simp
   with_reducible rfl
  rotate_left
  ·simp only [Act.put, sp_, i64_w, i32_w]
   rfl
  refine pure_ (i := 6) (N := some 13) (v := ?_) (a' := ?_) #[true, true, true, true, true, false, true, false] rfl rfl (any_of HT_.out (by kernel_rfl)) (fun _ _ _ h => h) (Or.inl ⟨by rfl, ?_⟩) ?_ ?_
  rotate_left
  ·intro w'
   go_simp
   with_reducible rfl
  rotate_left
  ·simp only [Act.put, sp_, i64_w, i32_w]
   rfl
  refine take_ (i := 5) (N := some 36) (v := ?_) (a' := ?_) #[true, true, true, true, true, true, true, false] rfl rfl (take_ofW HT_.out HW_.out (by kernel_rfl)) (fun _ _ _ h => h) (Or.inl ⟨by rfl, ?_⟩) hHeld ?_ ?_
  rotate_left
  ·rintro w' ⟨s0, s1⟩
   go_simp
   with_reducible rfl
  rotate_left
  ·simp only [Act.put, sp_, i64_w, i32_w]
   rfl
  refine pure_ (i := 7) (N := some 14) (v := ?_) (a' := ?_) #[true, true, true, true, true, true, true, true] rfl rfl (any_of HT_.out (by kernel_rfl)) (fun _ _ _ h => h) (Or.inl ⟨by rfl, ?_⟩) ?_ ?_
  rotate_left
  ·intro w'
   go_simp
   with_reducible rfl
  rotate_left
  ·simp only [Act.put, sp_, i64_w, i32_w]
   rfl
  refine done_ (done_of HT_.out (by kernel_rfl)) ?_
  go_upto_region 6 with (first | ((with_reducible refine gate_callee (f := 9) rfl ?_); refine goesL_ (some 39) rfl rfl Tryz.func9 (by kernel_rfl) rfl #[.int .u8 a0, .bool false] rfl (am_ rfl) ?_; (with_reducible refine (word_Inf.calls k a0 false t317 t318 _ A9.out).mono ?_); rintro e w25 ⟨rfl, hb⟩; refine ⟨_, rfl, ?_⟩; replace HO310 := A0_ (Kd.R_below (by exact rm_ HO310.out) hb); replace HO314 := A0_ (Kd.R_below (by exact rm_ HO314.out) hb); replace BK305 := bb_ BK305 hb; replace BK306 := bb_ BK306 hb; replace BK307 := bb_ BK307 hb; replace HB := hs_ hb; (try clear hb)))
  (try simp only [Act.put, sp_])
  go_cut [42] (fun v42 wc => ∃ (kq : Nat) (x42_9 : Bool), v42 = .bool x42_9 ∧ Aside0 (special_Mul.j0 kq a0 a1 (rd t311 0) (rd t311 1) t317 x42_9 a2_0 a2_1 a3_0 a3_1 = some (r1, r2, r3, r4, r5, r6)) ∧ Aside0 (kq ≤ k) ∧ Aside0 (wc.heap[gb305]? = some (.cells #[.int .u64 a2_0, .int .u64 a2_1] 26 (0, 0))) ∧ Aside0 (wc.heap[gb306]? = some (.cells #[.int .u64 a3_0, .int .u64 a3_1] 26 (0, 0))) ∧ Aside0 (wc.heap[gb307]? = some (.cells #[.int .u64 0, .int .u64 0, .int .u8 0, .int .u8 0] 29 (0, 0))) ∧ Aside0 (Below w.heap.size w wc))
  case first =>
   have H := HC10.out
   clear HC10
   by_cases c26 : (rd t311 0) ≤ 2
   ·rw [if_pos c26] at H
    have c26b0 : decide ((rd t311 0) ≤ 2) = true := decide_eq_true c26
    clear c26
    (first | rw [c26b0] | (simp only [i64_w, i32_w]; rw [c26b0]) | skip)
    have H' := A0_ H
    clear H
    go_wp2
    go_meet
    case rel => exact ⟨_, (decide ((rd t311 1) ≤ 2)), (by first | rfl | (simp; done) | (simp [*]; done)), H', ⟨by first | omega | exact Nat.le_refl _⟩, ⟨bm_ BK305.out⟩, ⟨bm_ BK306.out⟩, ⟨bm_ BK307.out⟩, ⟨qz_⟩⟩
   ·rw [if_neg c26] at H
    have c26b0 : decide ((rd t311 0) ≤ 2) = false := decide_eq_false c26
    clear c26
    (first | rw [c26b0] | (simp only [i64_w, i32_w]; rw [c26b0]) | skip)
    have H' := A0_ H
    clear H
    go_wp2
    go_meet
    case rel => exact ⟨_, (false), (by first | rfl | (simp; done) | (simp [*]; done)), H', ⟨by first | omega | exact Nat.le_refl _⟩, ⟨bm_ BK305.out⟩, ⟨bm_ BK306.out⟩, ⟨bm_ BK307.out⟩, ⟨qz_⟩⟩
  case rest =>
   clear HC10
   try clear c1
   try clear c2
   try clear p2
   try clear p3
   try clear q3
   try clear hx3
   try clear qi3
   try clear c6
   try clear c6b0
   try clear c6b1
   try clear c7
   try clear c7b0
   try clear c7b1
   try clear c8
   try clear c8b0
   try clear c8b1
   try clear c9
   try clear c14
   try clear c15
   try clear c17
   try clear c26
   try clear c26b0
   try clear hcz16
   try clear hcz18
   try clear hfz16
   try clear hfz18
   try clear hx315_0
   try clear hx316_0
   try clear p315
   try clear p316
   try clear q315
   try clear q316
   obtain ⟨kq, x42_9, rfl, HA, HJ9, BK305, BK306, BK307, HB⟩ := hcut
   cases kq with
   | zero => exact absurd HA.out (by simp [special_Mul.j0])
   | succ kj9 =>
    have H := HA.out
    clear HA
    simp only [special_Mul.j0] at H
    by_cases c27 : x42_9 = true
    ·subst c27
     rw [if_pos rfl] at H
     simp only [Option.some.injEq, Prod.mk.injEq] at H
     obtain ⟨rfl, rfl, rfl, rfl, rfl, rfl⟩ := H
     have hnb28 := NB307_305.out
     have hnc28 := NB305_307.out
     have hnb29 := NB307_306.out
     have hnc29 := NB306_307.out
     have hcz30 := bc4_ BK307.out
     have hfz30 := bf4_ BK307.out
     go_wp2
     refine bodyPost_ret (results_ctt rfl _ _ gb307 29 #[.int .u64 0, .int .u64 0, .int .u8 0, .int .u8 0] (0, 0) _ rfl (by (with_reducible repeat first | apply bN_ | apply bD_ | apply bA_); refine blk_put (cs := #[.int .u64 0, .int .u64 0, .int .u8 0, .int .u8 0]) ?_ 3 _ rfl; refine blk_put (cs := #[.int .u64 0, .int .u64 0, .int .u8 0, .int .u8 0]) ?_ 2 _ rfl; refine blk_put (cs := #[.int .u64 0, .int .u64 0, .int .u8 0, .int .u8 0]) ?_ 1 _ rfl; refine blk_put (cs := #[.int .u64 0, .int .u64 0, .int .u8 0, .int .u8 0]) ?_ 0 _ rfl; exact bm_ BK307.out) Tryz.underlying29 rfl (by kernel_rfl)) rfl ?_
     exact ⟨by first | rfl | (simp [errW_none, errW_some] <;> rfl) | (simp [*, errW_none, errW_some] <;> rfl), qz_⟩
    ·replace c27 := Bool.eq_false_iff.mpr c27
     subst c27
     rw [if_neg (show ¬ (false = true) by decide)] at H
     have HC31 := A0_ H
     clear H
     go_upto_region 8 with (fail)
     go_cut [50] (fun v50 wc => ∃ (kq : Nat) (x50_30 : Bool), v50 = .bool x50_30 ∧ Aside0 (special_Mul.j1 kq a0 a1 (rd t311 0) (rd t311 1) t317 x50_30 a2_0 a2_1 a3_0 a3_1 = some (r1, r2, r3, r4, r5, r6)) ∧ Aside0 (kq ≤ kj9) ∧ Aside0 (wc.heap[gb305]? = some (.cells #[.int .u64 a2_0, .int .u64 a2_1] 26 (0, 0))) ∧ Aside0 (wc.heap[gb306]? = some (.cells #[.int .u64 a3_0, .int .u64 a3_1] 26 (0, 0))) ∧ Aside0 (wc.heap[gb307]? = some (.cells #[.int .u64 0, .int .u64 0, .int .u8 0, .int .u8 0] 29 (0, 0))) ∧ Aside0 (Below w.heap.size w wc))
     case first =>
      have H := HC31.out
      clear HC31
      by_cases c32 : (rd t311 0) = 4
      ·rw [if_pos c32] at H
       have c32b0 : ((rd t311 0) == 4) = true := beq_iff_eq.mpr c32
       have c32b1 : ((rd t311 0) != 4) = false := bne_eq_false_iff_eq.mpr c32
       clear c32
       (first | rw [c32b0] | (simp only [i64_w, i32_w]; rw [c32b0]) | skip)
       have H' := A0_ H
       clear H
       go_wp2
       go_meet
       case rel => exact ⟨_, (true), (by first | rfl | (simp; done) | (simp [*]; done)), H', ⟨by have := HJ9.out; first | omega | exact Nat.le_refl _⟩, ⟨bm_ BK305.out⟩, ⟨bm_ BK306.out⟩, ⟨bm_ BK307.out⟩, ⟨qz_⟩⟩
      ·rw [if_neg c32] at H
       have c32b0 : ((rd t311 0) == 4) = false := beq_eq_false_iff_ne.mpr c32
       have c32b1 : ((rd t311 0) != 4) = true := bne_iff_ne.mpr c32
       (first | rw [c32b0] | (simp only [i64_w, i32_w]; rw [c32b0]) | skip)
       have H' := A0_ H
       clear H
       go_wp2
       go_meet
       case rel => exact ⟨_, (((rd t311 1) == 4)), (by first | rfl | (simp; done) | (simp [*]; done)), H', ⟨by have := HJ9.out; first | omega | exact Nat.le_refl _⟩, ⟨bm_ BK305.out⟩, ⟨bm_ BK306.out⟩, ⟨bm_ BK307.out⟩, ⟨qz_⟩⟩
     case rest =>
      clear HC31
      try clear c1
      try clear c2
      try clear p2
      try clear c3
      try clear p3
      try clear q3
      try clear hx3
      try clear qi3
      try clear c6
      try clear c6b0
      try clear c6b1
      try clear c7
      try clear c7b0
      try clear c7b1
      try clear c8
      try clear c8b0
      try clear c8b1
      try clear c9
      try clear c14
      try clear c15
      try clear c17
      try clear c26
      try clear c26b0
      try clear c27
      try clear c28
      try clear c29
      try clear p31
      try clear q31
      try clear hx31
      try clear qi31
      try clear c32
      try clear c32b0
      try clear c32b1
      try clear hcz16
      try clear hcz18
      try clear hcz30
      try clear hfz16
      try clear hfz18
      try clear hfz30
      try clear hx315_0
      try clear hx316_0
      try clear p2
      try clear p3
      try clear p315
      try clear p316
      try clear q3
      try clear q315
      try clear q316
      obtain ⟨kq, x50_30, rfl, HA, HJ30, BK305, BK306, BK307, HB⟩ := hcut
      cases kq with
      | zero => exact absurd HA.out (by simp [special_Mul.j1])
      | succ kj30 =>
       have H := HA.out
       clear HA
       simp only [special_Mul.j1] at H
       by_cases c33 : x50_30 = true
       ·subst c33
        rw [if_pos rfl] at H
        obtain ⟨⟨t319, t320, t321, t322⟩, A34, H⟩ := bs_ H
        try dsimp -simprocs only at H
        simp only [Option.some.injEq, Prod.mk.injEq] at H
        obtain ⟨rfl, rfl, rfl, rfl, rfl, rfl⟩ := H
        go_wp2_with (first | ((with_reducible refine gate_callee (f := 10) rfl ?_); refine goesL_ (some 58) rfl rfl Tryz.func10 (by kernel_rfl) rfl #[.int .u8 a0, .int .u8 0] rfl (am_ rfl) ?_; (with_reducible refine (special_none.calls kj30 a0 0 t319 t320 t321 t322 _ A34.out).mono ?_); rintro e w35 ⟨rfl, hb⟩; refine ⟨_, rfl, ?_⟩; replace BK305 := bb_ BK305 hb; replace BK306 := bb_ BK306 hb; replace BK307 := bb_ BK307 hb; replace HB := hs_ hb; (try clear hb); have hnb36 := NB307_305.out; have hnc36 := NB305_307.out; have hnb37 := NB307_306.out; have hnc37 := NB306_307.out; have hcz38 := bc4_ BK307.out; have hfz38 := bf4_ BK307.out))
        refine bodyPost_ret (results_ctt rfl _ _ gb307 29 #[.int .u64 t319, .int .u64 t320, .int .u8 t321, .int .u8 t322] (0, 0) _ rfl (by (with_reducible repeat first | apply bN_ | apply bD_ | apply bA_); refine blk_put (cs := #[.int .u64 t319, .int .u64 t320, .int .u8 t321, .int .u8 0]) ?_ 3 _ rfl; refine blk_put (cs := #[.int .u64 t319, .int .u64 t320, .int .u8 0, .int .u8 0]) ?_ 2 _ rfl; refine blk_put (cs := #[.int .u64 t319, .int .u64 0, .int .u8 0, .int .u8 0]) ?_ 1 _ rfl; refine blk_put (cs := #[.int .u64 0, .int .u64 0, .int .u8 0, .int .u8 0]) ?_ 0 _ rfl; exact bm_ BK307.out) Tryz.underlying29 rfl (by kernel_rfl)) rfl ?_
        exact ⟨by first | rfl | (simp [errW_none, errW_some] <;> rfl) | (simp [*, errW_none, errW_some] <;> rfl), qz_⟩
       ·replace c33 := Bool.eq_false_iff.mpr c33
        subst c33
        rw [if_neg (show ¬ (false = true) by decide)] at H
        by_cases c39 : (rd t311 0) = 1
        ·rw [if_pos c39] at H
         have c39b0 : ((rd t311 0) == 1) = true := beq_iff_eq.mpr c39
         have c39b1 : ((rd t311 0) != 1) = false := bne_eq_false_iff_eq.mpr c39
         clear c39
         obtain ⟨⟨t323, t324, t325, t326⟩, A40, H⟩ := bs_ H
         try dsimp -simprocs only at H
         simp only [Option.some.injEq, Prod.mk.injEq] at H
         obtain ⟨rfl, rfl, rfl, rfl, rfl, rfl⟩ := H
         go_wp2_with (first | ((with_reducible refine gate_callee (f := 10) rfl ?_); refine goesL_ (some 67) rfl rfl Tryz.func10 (by kernel_rfl) rfl #[.int .u8 a0, .int .u8 1] rfl (am_ rfl) ?_; (with_reducible refine (special_none.calls kj30 a0 1 t323 t324 t325 t326 _ A40.out).mono ?_); rintro e w41 ⟨rfl, hb⟩; refine ⟨_, rfl, ?_⟩; replace BK305 := bb_ BK305 hb; replace BK306 := bb_ BK306 hb; replace BK307 := bb_ BK307 hb; replace HB := hs_ hb; (try clear hb); have hnb42 := NB307_305.out; have hnc42 := NB305_307.out; have hnb43 := NB307_306.out; have hnc43 := NB306_307.out; have hcz44 := bc4_ BK307.out; have hfz44 := bf4_ BK307.out))
         refine bodyPost_ret (results_ctt rfl _ _ gb307 29 #[.int .u64 t323, .int .u64 t324, .int .u8 t325, .int .u8 t326] (0, 0) _ rfl (by (with_reducible repeat first | apply bN_ | apply bD_ | apply bA_); refine blk_put (cs := #[.int .u64 t323, .int .u64 t324, .int .u8 t325, .int .u8 0]) ?_ 3 _ rfl; refine blk_put (cs := #[.int .u64 t323, .int .u64 t324, .int .u8 0, .int .u8 0]) ?_ 2 _ rfl; refine blk_put (cs := #[.int .u64 t323, .int .u64 0, .int .u8 0, .int .u8 0]) ?_ 1 _ rfl; refine blk_put (cs := #[.int .u64 0, .int .u64 0, .int .u8 0, .int .u8 0]) ?_ 0 _ rfl; exact bm_ BK307.out) Tryz.underlying29 rfl (by kernel_rfl)) rfl ?_
         exact ⟨by first | rfl | (simp [errW_none, errW_some] <;> rfl) | (simp [*, errW_none, errW_some] <;> rfl), qz_⟩
        ·rw [if_neg c39] at H
         have c39b0 : ((rd t311 0) == 1) = false := beq_eq_false_iff_ne.mpr c39
         have c39b1 : ((rd t311 0) != 1) = true := bne_iff_ne.mpr c39
         by_cases c45 : (rd t311 1) = 1
         ·rw [if_pos c45] at H
          have c45b0 : ((rd t311 1) == 1) = true := beq_iff_eq.mpr c45
          have c45b1 : ((rd t311 1) != 1) = false := bne_eq_false_iff_eq.mpr c45
          clear c45
          obtain ⟨⟨t327, t328, t329, t330⟩, A46, H⟩ := bs_ H
          try dsimp -simprocs only at H
          simp only [Option.some.injEq, Prod.mk.injEq] at H
          obtain ⟨rfl, rfl, rfl, rfl, rfl, rfl⟩ := H
          go_wp2_with (first | ((with_reducible refine gate_callee (f := 10) rfl ?_); refine goesL_ (some 67) rfl rfl Tryz.func10 (by kernel_rfl) rfl #[.int .u8 a0, .int .u8 1] rfl (am_ rfl) ?_; (with_reducible refine (special_none.calls kj30 a0 1 t327 t328 t329 t330 _ A46.out).mono ?_); rintro e w47 ⟨rfl, hb⟩; refine ⟨_, rfl, ?_⟩; replace BK305 := bb_ BK305 hb; replace BK306 := bb_ BK306 hb; replace BK307 := bb_ BK307 hb; replace HB := hs_ hb; (try clear hb); have hnb48 := NB307_305.out; have hnc48 := NB305_307.out; have hnb49 := NB307_306.out; have hnc49 := NB306_307.out; have hcz50 := bc4_ BK307.out; have hfz50 := bf4_ BK307.out))
          refine bodyPost_ret (results_ctt rfl _ _ gb307 29 #[.int .u64 t327, .int .u64 t328, .int .u8 t329, .int .u8 t330] (0, 0) _ rfl (by (with_reducible repeat first | apply bN_ | apply bD_ | apply bA_); refine blk_put (cs := #[.int .u64 t327, .int .u64 t328, .int .u8 t329, .int .u8 0]) ?_ 3 _ rfl; refine blk_put (cs := #[.int .u64 t327, .int .u64 t328, .int .u8 0, .int .u8 0]) ?_ 2 _ rfl; refine blk_put (cs := #[.int .u64 t327, .int .u64 0, .int .u8 0, .int .u8 0]) ?_ 1 _ rfl; refine blk_put (cs := #[.int .u64 0, .int .u64 0, .int .u8 0, .int .u8 0]) ?_ 0 _ rfl; exact bm_ BK307.out) Tryz.underlying29 rfl (by kernel_rfl)) rfl ?_
          exact ⟨by first | rfl | (simp [errW_none, errW_some] <;> rfl) | (simp [*, errW_none, errW_some] <;> rfl), qz_⟩
         ·rw [if_neg c45] at H
          have c45b0 : ((rd t311 1) == 1) = false := beq_eq_false_iff_ne.mpr c45
          have c45b1 : ((rd t311 1) != 1) = true := bne_iff_ne.mpr c45
          obtain ⟨⟨t331, t332, t333, t334⟩, A51, H⟩ := bs_ H
          try dsimp -simprocs only at H
          obtain ⟨⟨t335, t336, t337, t338⟩, A52, H⟩ := bs_ H
          try dsimp -simprocs only at H
          obtain ⟨⟨t339, t340, t341, t342⟩, A53, H⟩ := bs_ H
          try dsimp -simprocs only at H
          obtain ⟨⟨t344, t345⟩, A54, H⟩ := bs_ H
          try dsimp -simprocs only at H
          simp only [Option.some.injEq, Prod.mk.injEq] at H
          obtain ⟨rfl, rfl, rfl, rfl, rfl, rfl⟩ := H
          try go_wp2
          replace BK305 := A0_ (blk_drew BK305.out)
          replace BK306 := A0_ (blk_drew BK306.out)
          replace BK307 := A0_ (blk_drew BK307.out)
          replace HB := A0_ (below_drew1 HB.out)
          refine start_ (n := 12) (S := fun w' => w'.cell? ⟨gb305, 0, none⟩ = some (.int .u64 a2_0) ∧ w'.cell? ⟨gb305, 1, none⟩ = some (.int .u64 a2_1) ∧ w'.cell? ⟨gb306, 0, none⟩ = some (.int .u64 a3_0) ∧ w'.cell? ⟨gb306, 1, none⟩ = some (.int .u64 a3_1)) (ds := []) #[false, false, false, false, false, false, false, false, false, false, false, false] (by kernel_rfl) rfl rfl ⟨bC_ BK305.out 0, bC_ BK305.out 1, bC_ BK306.out 0, bC_ BK306.out 1⟩ (fun hHeld => ?_); refine with_tabW special_Mul.tab12 special_Mul.bits12 (fun HT_ HW_ => ?_)
          generalize wc.drew = w55 at BK305 BK306 BK307 HB hHeld ⊢
          refine pure_ (i := 0) (N := some 68) (v := ?_) (a' := ?_) #[true, false, false, false, false, false, false, false, false, false, false, false] rfl rfl (any_of HT_.out (by kernel_rfl)) (fun _ _ _ h => h) (Or.inl ⟨by rfl, ?_⟩) ?_ ?_
          rotate_left
          ·intro w'
           go_simp
           with_reducible rfl
          rotate_left
          ·simp only [Act.put, sp_, i64_w, i32_w]
           rfl
          refine pure_ (i := 2) (N := some 70) (v := ?_) (a' := ?_) #[true, false, true, false, false, false, false, false, false, false, false, false] rfl rfl (any_of HT_.out (by kernel_rfl)) (fun _ _ _ h => h) (Or.inl ⟨by rfl, ?_⟩) ?_ ?_
          rotate_left
          ·intro w'
           go_simp
           with_reducible rfl
          rotate_left
          ·simp only [Act.put, sp_, i64_w, i32_w]
           rfl
          refine pure_ (i := 4) (N := some 72) (v := ?_) (a' := ?_) #[true, false, true, false, true, false, false, false, false, false, false, false] rfl rfl (any_of HT_.out (by kernel_rfl)) (fun _ _ _ h => h) (Or.inl ⟨by rfl, ?_⟩) ?_ ?_
          rotate_left
          ·intro w'
           go_simp
           with_reducible rfl
          rotate_left
          ·simp only [Act.put, sp_, i64_w, i32_w]
           rfl
          refine pure_ (i := 6) (N := some 74) (v := ?_) (a' := ?_) #[true, false, true, false, true, false, true, false, false, false, false, false] rfl rfl (any_of HT_.out (by kernel_rfl)) (fun _ _ _ h => h) (Or.inl ⟨by rfl, ?_⟩) ?_ ?_
          rotate_left
          ·intro w'
           go_simp
           with_reducible rfl
          rotate_left
          ·simp only [Act.put, sp_, i64_w, i32_w]
           rfl
          refine pure_ (i := 8) (N := some 76) (v := ?_) (a' := ?_) #[true, false, true, false, true, false, true, false, true, false, false, false] rfl rfl (any_of HT_.out (by kernel_rfl)) (fun _ _ _ h => h) (Or.inl ⟨by rfl, ?_⟩) ?_ ?_
          rotate_left
          ·intro w'
           go_simp
           with_reducible rfl
          rotate_left
          ·simp only [Act.put, sp_, i64_w, i32_w]
           rfl
          refine take_ (i := 1) (N := some 69) (v := ?_) (a' := ?_) #[true, true, true, false, true, false, true, false, true, false, false, false] rfl rfl (take_ofW HT_.out HW_.out (by kernel_rfl)) (fun _ _ _ h => h) (Or.inl ⟨by rfl, ?_⟩) hHeld ?_ ?_
          rotate_left
          ·rintro w' ⟨s0, s1, s2, s3⟩
           go_simp
           with_reducible rfl
          rotate_left
          ·simp only [Act.put, sp_, i64_w, i32_w]
           rfl
          refine take_ (i := 5) (N := some 73) (v := ?_) (a' := ?_) #[true, true, true, false, true, true, true, false, true, false, false, false] rfl rfl (take_ofW HT_.out HW_.out (by kernel_rfl)) (fun _ _ _ h => h) (Or.inl ⟨by rfl, ?_⟩) hHeld ?_ ?_
          rotate_left
          ·rintro w' ⟨s0, s1, s2, s3⟩
           go_simp
           with_reducible rfl
          rotate_left
          ·simp only [Act.put, sp_, i64_w, i32_w]
           rfl
          refine join_ (σ := Nat) 1 #[true, true, true, true, true, true, true, true, true, true, true, false] (fun s_ => [(71, .agg #[.int .i64 t331, .bool t332, .int .i64 t333, .bool t334]), (75, .agg #[.int .i64 t335, .bool t336, .int .i64 t337, .bool t338]), (77, .agg #[.int .i64 t339, .bool t340, .int .i64 t341, .bool t342]), (17, .pointer (some ⟨s_, 0, none⟩))]) (fun s_ w' => (w'.cell? ⟨gb305, 0, none⟩ = some (.int .u64 a2_0) ∧ w'.cell? ⟨gb305, 1, none⟩ = some (.int .u64 a2_1) ∧ w'.cell? ⟨gb306, 0, none⟩ = some (.int .u64 a3_0) ∧ w'.cell? ⟨gb306, 1, none⟩ = some (.int .u64 a3_1)) ∧ (w'.heap[gb305]? = some (.cells #[.int .u64 a2_0, .int .u64 a2_1] 26 (0, 0))) ∧ (w'.heap[gb306]? = some (.cells #[.int .u64 a3_0, .int .u64 a3_1] 26 (0, 0))) ∧ (w'.heap[gb307]? = some (.cells #[.int .u64 0, .int .u64 0, .int .u8 0, .int .u8 0] 29 (0, 0))) ∧ (w'.heap[s_]? = some (.cells #[.int .i64 0, .bool false, .int .i64 0, .bool false] 48 (0, 0))) ∧ (w.heap.size ≤ s_) ∧ (w.heap.size ≤ s_) ∧ (gb305 ≠ s_) ∧ (s_ ≠ gb305) ∧ (gb306 ≠ s_) ∧ (s_ ≠ gb306) ∧ (gb307 ≠ s_) ∧ (s_ ≠ gb307) ∧ (Below w.heap.size w w')) ?_ ?_
          rotate_left
          ·intro hCont
           refine two_ (i := 3) (j := 10) (Ni := some 71) (Nj := some 17) #[true, true, true, true, true, true, true, false, true, false, false, false] #[true, true, true, false, true, true, true, false, true, false, true, false] rfl rfl rfl rfl (two_of HT_.out (by kernel_rfl)) (by decide) (by decide) (fun K hK => ?_) (fun K hK => ?_)
           ·skip
            refine goes_ Tryz.func11 (by kernel_rfl) rfl #[.int .u8 a0, .agg #[.int .u64 a2_0, .int .u64 a2_1], .int .u8 (rd t311 0)] (by rfl) rfl rfl (am_ rfl) ?_
            with_reducible refine (special_boxOf.calls kj30 a0 a2_0 a2_1 (rd t311 0) t331 t332 t333 t334 _ A51.out).mono ?_
            rintro e w56 ⟨rfl, hb⟩
            refine ⟨_, rfl, ?_⟩
            replace BK305 := bb_ BK305 hb
            replace BK306 := bb_ BK306 hb
            replace BK307 := bb_ BK307 hb
            replace HB := hs_ hb
            (try clear hb)
            refine hK.out _ _ ⟨bC_ BK305.out 0, bC_ BK305.out 1, bC_ BK306.out 0, bC_ BK306.out 1⟩ (fun hHeld => ?_)
            clear hK K
            refine norm_ (a' := ?_) ?_ ?_
            rotate_left
            ·show Act.put _ (some 71) _ = _
             simp only [Act.put, sp_, i64_w, i32_w]
             rfl
            refine two_ (i := 7) (j := 10) (Ni := some 75) (Nj := some 17) #[true, true, true, true, true, true, true, true, true, false, false, false] #[true, true, true, true, true, true, true, false, true, false, true, false] rfl rfl rfl rfl (two_of HT_.out (by kernel_rfl)) (by decide) (by decide) (fun K hK => ?_) (fun K hK => ?_)
            ·skip
             refine goes_ Tryz.func11 (by kernel_rfl) rfl #[.int .u8 a0, .agg #[.int .u64 a3_0, .int .u64 a3_1], .int .u8 (rd t311 1)] (by rfl) rfl rfl (am_ rfl) ?_
             with_reducible refine (special_boxOf.calls kj30 a0 a3_0 a3_1 (rd t311 1) t335 t336 t337 t338 _ A52.out).mono ?_
             rintro e w57 ⟨rfl, hb⟩
             refine ⟨_, rfl, ?_⟩
             replace BK305 := bb_ BK305 hb
             replace BK306 := bb_ BK306 hb
             replace BK307 := bb_ BK307 hb
             replace HB := hs_ hb
             (try clear hb)
             refine hK.out _ _ ⟨bC_ BK305.out 0, bC_ BK305.out 1, bC_ BK306.out 0, bC_ BK306.out 1⟩ (fun hHeld => ?_)
             clear hK K
             refine norm_ (a' := ?_) ?_ ?_
             rotate_left
             ·show Act.put _ (some 75) _ = _
              simp only [Act.put, sp_, i64_w, i32_w]
              rfl
             refine two_ (i := 9) (j := 10) (Ni := some 77) (Nj := some 17) #[true, true, true, true, true, true, true, true, true, true, false, false] #[true, true, true, true, true, true, true, true, true, false, true, false] rfl rfl rfl rfl (two_of HT_.out (by kernel_rfl)) (by decide) (by decide) (fun K hK => ?_) (fun K hK => ?_)
             ·skip
              refine goes_ Tryz.func13 (by kernel_rfl) rfl #[.agg #[.int .i64 t331, .bool t332, .int .i64 t333, .bool t334], .agg #[.int .i64 t335, .bool t336, .int .i64 t337, .bool t338], .int .u8 a1] (by rfl) rfl rfl (am_ rfl) ?_
              with_reducible refine (special_box_times.calls t331 t332 t333 t334 t335 t336 t337 t338 a1 t339 t340 t341 t342 _ A53.out).mono ?_
              rintro e w58 ⟨rfl, hb⟩
              refine ⟨_, rfl, ?_⟩
              replace BK305 := bb_ BK305 hb
              replace BK306 := bb_ BK306 hb
              replace BK307 := bb_ BK307 hb
              replace HB := hs_ hb
              (try clear hb)
              refine hK.out _ _ ⟨bC_ BK305.out 0, bC_ BK305.out 1, bC_ BK306.out 0, bC_ BK306.out 1⟩ (fun hHeld => ?_)
              clear hK K
              refine norm_ (a' := ?_) ?_ ?_
              rotate_left
              ·show Act.put _ (some 77) _ = _
               simp only [Act.put, sp_, i64_w, i32_w]
               rfl
              refine one_ (i := 10) (N := some 17) #[true, true, true, true, true, true, true, true, true, true, true, false] rfl rfl (one_of HT_.out (by kernel_rfl)) (by decide) (fun K hK => ?_)
              refine box_step ?hg (N := 17) ?hd (cs := #[.int .i64 0, .bool false, .int .i64 0, .bool false]) (t := 48) ?hr ?_; (case hd => rfl); (case hg => rfl); (case hr => first | (go_simp; done) | (go_simp; rfl))
              intro gb343 hg w59 hbox hb
              have BK343 := A0_ (hbox)
              have GW343 := A0_ ((by rw [hg]; exact (below_size qz_) : w.heap.size ≤ gb343))
              have GE343 := GW343
              replace HB := hs_ hb
              have NB305_343 := nl_ hg BK305
              have NB343_305 := ng_ hg BK305
              replace BK305 := bb_ BK305 hb
              have NB306_343 := nl_ hg BK306
              have NB343_306 := ng_ hg BK306
              replace BK306 := bb_ BK306 hb
              have NB307_343 := nl_ hg BK307
              have NB343_307 := ng_ hg BK307
              replace BK307 := bb_ BK307 hb
              clear hb hbox hg
              refine hK.out _ _ ⟨bC_ BK305.out 0, bC_ BK305.out 1, bC_ BK306.out 0, bC_ BK306.out 1⟩ (fun hHeld => ?_)
              clear hK K
              refine norm_ (a' := ?_) ?_ ?_
              rotate_left
              ·show Act.put _ (some 17) _ = _
               simp only [Act.put, sp_, i64_w, i32_w]
               rfl
              exact norm_ (by simp only [putAll, Act.put, sp_]) (hCont (gb343) _ ⟨hHeld, (bm_ BK305.out), (bm_ BK306.out), (bm_ BK307.out), (bm_ BK343.out), GW343.out, GE343.out, NB305_343.out, NB343_305.out, NB306_343.out, NB343_306.out, NB307_343.out, NB343_307.out, qz_⟩)
             ·skip
              refine box_step ?hg (N := 17) ?hd (cs := #[.int .i64 0, .bool false, .int .i64 0, .bool false]) (t := 48) ?hr ?_; (case hd => rfl); (case hg => rfl); (case hr => first | (go_simp; done) | (go_simp; rfl))
              intro gb343 hg w58 hbox hb
              have BK343 := A0_ (hbox)
              have GW343 := A0_ ((by rw [hg]; exact (below_size qz_) : w.heap.size ≤ gb343))
              have GE343 := GW343
              replace HB := hs_ hb
              have NB305_343 := nl_ hg BK305
              have NB343_305 := ng_ hg BK305
              replace BK305 := bb_ BK305 hb
              have NB306_343 := nl_ hg BK306
              have NB343_306 := ng_ hg BK306
              replace BK306 := bb_ BK306 hb
              have NB307_343 := nl_ hg BK307
              have NB343_307 := ng_ hg BK307
              replace BK307 := bb_ BK307 hb
              clear hb hbox hg
              refine hK.out _ _ ⟨bC_ BK305.out 0, bC_ BK305.out 1, bC_ BK306.out 0, bC_ BK306.out 1⟩ (fun hHeld => ?_)
              clear hK K
              refine norm_ (a' := ?_) ?_ ?_
              rotate_left
              ·show Act.put _ (some 17) _ = _
               simp only [Act.put, sp_, i64_w, i32_w]
               rfl
              refine one_ (i := 9) (N := some 77) #[true, true, true, true, true, true, true, true, true, true, true, false] rfl rfl (one_of HT_.out (by kernel_rfl)) (by decide) (fun K hK => ?_)
              refine goes_ Tryz.func13 (by kernel_rfl) rfl #[.agg #[.int .i64 t331, .bool t332, .int .i64 t333, .bool t334], .agg #[.int .i64 t335, .bool t336, .int .i64 t337, .bool t338], .int .u8 a1] (by rfl) rfl rfl (am_ rfl) ?_
              with_reducible refine (special_box_times.calls t331 t332 t333 t334 t335 t336 t337 t338 a1 t339 t340 t341 t342 _ A53.out).mono ?_
              rintro e w59 ⟨rfl, hb⟩
              refine ⟨_, rfl, ?_⟩
              replace BK305 := bb_ BK305 hb
              replace BK306 := bb_ BK306 hb
              replace BK307 := bb_ BK307 hb
              replace BK343 := bb_ BK343 hb
              replace HB := hs_ hb
              (try clear hb)
              refine hK.out _ _ ⟨bC_ BK305.out 0, bC_ BK305.out 1, bC_ BK306.out 0, bC_ BK306.out 1⟩ (fun hHeld => ?_)
              clear hK K
              refine norm_ (a' := ?_) ?_ ?_
              rotate_left
              ·show Act.put _ (some 77) _ = _
               simp only [Act.put, sp_, i64_w, i32_w]
               rfl
              exact norm_ (by simp only [putAll, Act.put, sp_]) (hCont (gb343) _ ⟨hHeld, (bm_ BK305.out), (bm_ BK306.out), (bm_ BK307.out), (bm_ BK343.out), GW343.out, GE343.out, NB305_343.out, NB343_305.out, NB306_343.out, NB343_306.out, NB307_343.out, NB343_307.out, qz_⟩)
            ·skip
             refine box_step ?hg (N := 17) ?hd (cs := #[.int .i64 0, .bool false, .int .i64 0, .bool false]) (t := 48) ?hr ?_; (case hd => rfl); (case hg => rfl); (case hr => first | (go_simp; done) | (go_simp; rfl))
             intro gb343 hg w57 hbox hb
             have BK343 := A0_ (hbox)
             have GW343 := A0_ ((by rw [hg]; exact (below_size qz_) : w.heap.size ≤ gb343))
             have GE343 := GW343
             replace HB := hs_ hb
             have NB305_343 := nl_ hg BK305
             have NB343_305 := ng_ hg BK305
             replace BK305 := bb_ BK305 hb
             have NB306_343 := nl_ hg BK306
             have NB343_306 := ng_ hg BK306
             replace BK306 := bb_ BK306 hb
             have NB307_343 := nl_ hg BK307
             have NB343_307 := ng_ hg BK307
             replace BK307 := bb_ BK307 hb
             clear hb hbox hg
             refine hK.out _ _ ⟨bC_ BK305.out 0, bC_ BK305.out 1, bC_ BK306.out 0, bC_ BK306.out 1⟩ (fun hHeld => ?_)
             clear hK K
             refine norm_ (a' := ?_) ?_ ?_
             rotate_left
             ·show Act.put _ (some 17) _ = _
              simp only [Act.put, sp_, i64_w, i32_w]
              rfl
             refine one_ (i := 7) (N := some 75) #[true, true, true, true, true, true, true, true, true, false, true, false] rfl rfl (one_of HT_.out (by kernel_rfl)) (by decide) (fun K hK => ?_)
             refine goes_ Tryz.func11 (by kernel_rfl) rfl #[.int .u8 a0, .agg #[.int .u64 a3_0, .int .u64 a3_1], .int .u8 (rd t311 1)] (by rfl) rfl rfl (am_ rfl) ?_
             with_reducible refine (special_boxOf.calls kj30 a0 a3_0 a3_1 (rd t311 1) t335 t336 t337 t338 _ A52.out).mono ?_
             rintro e w58 ⟨rfl, hb⟩
             refine ⟨_, rfl, ?_⟩
             replace BK305 := bb_ BK305 hb
             replace BK306 := bb_ BK306 hb
             replace BK307 := bb_ BK307 hb
             replace BK343 := bb_ BK343 hb
             replace HB := hs_ hb
             (try clear hb)
             refine hK.out _ _ ⟨bC_ BK305.out 0, bC_ BK305.out 1, bC_ BK306.out 0, bC_ BK306.out 1⟩ (fun hHeld => ?_)
             clear hK K
             refine norm_ (a' := ?_) ?_ ?_
             rotate_left
             ·show Act.put _ (some 75) _ = _
              simp only [Act.put, sp_, i64_w, i32_w]
              rfl
             refine one_ (i := 9) (N := some 77) #[true, true, true, true, true, true, true, true, true, true, true, false] rfl rfl (one_of HT_.out (by kernel_rfl)) (by decide) (fun K hK => ?_)
             refine goes_ Tryz.func13 (by kernel_rfl) rfl #[.agg #[.int .i64 t331, .bool t332, .int .i64 t333, .bool t334], .agg #[.int .i64 t335, .bool t336, .int .i64 t337, .bool t338], .int .u8 a1] (by rfl) rfl rfl (am_ rfl) ?_
             with_reducible refine (special_box_times.calls t331 t332 t333 t334 t335 t336 t337 t338 a1 t339 t340 t341 t342 _ A53.out).mono ?_
             rintro e w59 ⟨rfl, hb⟩
             refine ⟨_, rfl, ?_⟩
             replace BK305 := bb_ BK305 hb
             replace BK306 := bb_ BK306 hb
             replace BK307 := bb_ BK307 hb
             replace BK343 := bb_ BK343 hb
             replace HB := hs_ hb
             (try clear hb)
             refine hK.out _ _ ⟨bC_ BK305.out 0, bC_ BK305.out 1, bC_ BK306.out 0, bC_ BK306.out 1⟩ (fun hHeld => ?_)
             clear hK K
             refine norm_ (a' := ?_) ?_ ?_
             rotate_left
             ·show Act.put _ (some 77) _ = _
              simp only [Act.put, sp_, i64_w, i32_w]
              rfl
             exact norm_ (by simp only [putAll, Act.put, sp_]) (hCont (gb343) _ ⟨hHeld, (bm_ BK305.out), (bm_ BK306.out), (bm_ BK307.out), (bm_ BK343.out), GW343.out, GE343.out, NB305_343.out, NB343_305.out, NB306_343.out, NB343_306.out, NB307_343.out, NB343_307.out, qz_⟩)
           ·skip
            refine box_step ?hg (N := 17) ?hd (cs := #[.int .i64 0, .bool false, .int .i64 0, .bool false]) (t := 48) ?hr ?_; (case hd => rfl); (case hg => rfl); (case hr => first | (go_simp; done) | (go_simp; rfl))
            intro gb343 hg w56 hbox hb
            have BK343 := A0_ (hbox)
            have GW343 := A0_ ((by rw [hg]; exact (below_size qz_) : w.heap.size ≤ gb343))
            have GE343 := GW343
            replace HB := hs_ hb
            have NB305_343 := nl_ hg BK305
            have NB343_305 := ng_ hg BK305
            replace BK305 := bb_ BK305 hb
            have NB306_343 := nl_ hg BK306
            have NB343_306 := ng_ hg BK306
            replace BK306 := bb_ BK306 hb
            have NB307_343 := nl_ hg BK307
            have NB343_307 := ng_ hg BK307
            replace BK307 := bb_ BK307 hb
            clear hb hbox hg
            refine hK.out _ _ ⟨bC_ BK305.out 0, bC_ BK305.out 1, bC_ BK306.out 0, bC_ BK306.out 1⟩ (fun hHeld => ?_)
            clear hK K
            refine norm_ (a' := ?_) ?_ ?_
            rotate_left
            ·show Act.put _ (some 17) _ = _
             simp only [Act.put, sp_, i64_w, i32_w]
             rfl
            refine one_ (i := 3) (N := some 71) #[true, true, true, true, true, true, true, false, true, false, true, false] rfl rfl (one_of HT_.out (by kernel_rfl)) (by decide) (fun K hK => ?_)
            refine goes_ Tryz.func11 (by kernel_rfl) rfl #[.int .u8 a0, .agg #[.int .u64 a2_0, .int .u64 a2_1], .int .u8 (rd t311 0)] (by rfl) rfl rfl (am_ rfl) ?_
            with_reducible refine (special_boxOf.calls kj30 a0 a2_0 a2_1 (rd t311 0) t331 t332 t333 t334 _ A51.out).mono ?_
            rintro e w57 ⟨rfl, hb⟩
            refine ⟨_, rfl, ?_⟩
            replace BK305 := bb_ BK305 hb
            replace BK306 := bb_ BK306 hb
            replace BK307 := bb_ BK307 hb
            replace BK343 := bb_ BK343 hb
            replace HB := hs_ hb
            (try clear hb)
            refine hK.out _ _ ⟨bC_ BK305.out 0, bC_ BK305.out 1, bC_ BK306.out 0, bC_ BK306.out 1⟩ (fun hHeld => ?_)
            clear hK K
            refine norm_ (a' := ?_) ?_ ?_
            rotate_left
            ·show Act.put _ (some 71) _ = _
             simp only [Act.put, sp_, i64_w, i32_w]
             rfl
            refine one_ (i := 7) (N := some 75) #[true, true, true, true, true, true, true, true, true, false, true, false] rfl rfl (one_of HT_.out (by kernel_rfl)) (by decide) (fun K hK => ?_)
            refine goes_ Tryz.func11 (by kernel_rfl) rfl #[.int .u8 a0, .agg #[.int .u64 a3_0, .int .u64 a3_1], .int .u8 (rd t311 1)] (by rfl) rfl rfl (am_ rfl) ?_
            with_reducible refine (special_boxOf.calls kj30 a0 a3_0 a3_1 (rd t311 1) t335 t336 t337 t338 _ A52.out).mono ?_
            rintro e w58 ⟨rfl, hb⟩
            refine ⟨_, rfl, ?_⟩
            replace BK305 := bb_ BK305 hb
            replace BK306 := bb_ BK306 hb
            replace BK307 := bb_ BK307 hb
            replace BK343 := bb_ BK343 hb
            replace HB := hs_ hb
            (try clear hb)
            refine hK.out _ _ ⟨bC_ BK305.out 0, bC_ BK305.out 1, bC_ BK306.out 0, bC_ BK306.out 1⟩ (fun hHeld => ?_)
            clear hK K
            refine norm_ (a' := ?_) ?_ ?_
            rotate_left
            ·show Act.put _ (some 75) _ = _
             simp only [Act.put, sp_, i64_w, i32_w]
             rfl
            refine one_ (i := 9) (N := some 77) #[true, true, true, true, true, true, true, true, true, true, true, false] rfl rfl (one_of HT_.out (by kernel_rfl)) (by decide) (fun K hK => ?_)
            refine goes_ Tryz.func13 (by kernel_rfl) rfl #[.agg #[.int .i64 t331, .bool t332, .int .i64 t333, .bool t334], .agg #[.int .i64 t335, .bool t336, .int .i64 t337, .bool t338], .int .u8 a1] (by rfl) rfl rfl (am_ rfl) ?_
            with_reducible refine (special_box_times.calls t331 t332 t333 t334 t335 t336 t337 t338 a1 t339 t340 t341 t342 _ A53.out).mono ?_
            rintro e w59 ⟨rfl, hb⟩
            refine ⟨_, rfl, ?_⟩
            replace BK305 := bb_ BK305 hb
            replace BK306 := bb_ BK306 hb
            replace BK307 := bb_ BK307 hb
            replace BK343 := bb_ BK343 hb
            replace HB := hs_ hb
            (try clear hb)
            refine hK.out _ _ ⟨bC_ BK305.out 0, bC_ BK305.out 1, bC_ BK306.out 0, bC_ BK306.out 1⟩ (fun hHeld => ?_)
            clear hK K
            refine norm_ (a' := ?_) ?_ ?_
            rotate_left
            ·show Act.put _ (some 77) _ = _
             simp only [Act.put, sp_, i64_w, i32_w]
             rfl
            exact norm_ (by simp only [putAll, Act.put, sp_]) (hCont (gb343) _ ⟨hHeld, (bm_ BK305.out), (bm_ BK306.out), (bm_ BK307.out), (bm_ BK343.out), GW343.out, GE343.out, NB305_343.out, NB343_305.out, NB306_343.out, NB343_306.out, NB307_343.out, NB343_307.out, qz_⟩)
          rintro gb343 w60 ⟨hS_, h0_, h1_, h2_, h3_, h4_, h5_, h6_, h7_, h8_, h9_, h10_, h11_, h12_⟩
          have n0_ : Aside0 (w60.heap[gb305]? = some (.cells #[.int .u64 a2_0, .int .u64 a2_1] 26 (0, 0))) := ⟨h0_⟩
          have n1_ : Aside0 (w60.heap[gb306]? = some (.cells #[.int .u64 a3_0, .int .u64 a3_1] 26 (0, 0))) := ⟨h1_⟩
          have n2_ : Aside0 (w60.heap[gb307]? = some (.cells #[.int .u64 0, .int .u64 0, .int .u8 0, .int .u8 0] 29 (0, 0))) := ⟨h2_⟩
          have n3_ : Aside0 (w60.heap[gb343]? = some (.cells #[.int .i64 0, .bool false, .int .i64 0, .bool false] 48 (0, 0))) := ⟨h3_⟩
          have n4_ : Aside0 (w.heap.size ≤ gb343) := ⟨h4_⟩
          have n5_ : Aside0 (w.heap.size ≤ gb343) := ⟨h5_⟩
          have n6_ : Aside0 (gb305 ≠ gb343) := ⟨h6_⟩
          have n7_ : Aside0 (gb343 ≠ gb305) := ⟨h7_⟩
          have n8_ : Aside0 (gb306 ≠ gb343) := ⟨h8_⟩
          have n9_ : Aside0 (gb343 ≠ gb306) := ⟨h9_⟩
          have n10_ : Aside0 (gb307 ≠ gb343) := ⟨h10_⟩
          have n11_ : Aside0 (gb343 ≠ gb307) := ⟨h11_⟩
          have n12_ : Aside0 (Below w.heap.size w w60) := ⟨h12_⟩
          clear BK305 BK306 BK307 HB h0_ h1_ h2_ h3_ h4_ h5_ h6_ h7_ h8_ h9_ h10_ h11_ h12_
          have BK305 := n0_
          have BK306 := n1_
          have BK307 := n2_
          have BK343 := n3_
          have GW343 := n4_
          have GE343 := n5_
          have NB305_343 := n6_
          have NB343_305 := n7_
          have NB306_343 := n8_
          have NB343_306 := n9_
          have NB307_343 := n10_
          have NB343_307 := n11_
          have HB := n12_
          clear n0_ n1_ n2_ n3_ n4_ n5_ n6_ n7_ n8_ n9_ n10_ n11_ n12_
          have hHeld : w60.cell? ⟨gb305, 0, none⟩ = some (.int .u64 a2_0) ∧ w60.cell? ⟨gb305, 1, none⟩ = some (.int .u64 a2_1) ∧ w60.cell? ⟨gb306, 0, none⟩ = some (.int .u64 a3_0) ∧ w60.cell? ⟨gb306, 1, none⟩ = some (.int .u64 a3_1) := hS_
          refine norm_ (a' := ?_) ?_ ?_
          rotate_left
          ·simp only [putAll, Act.put, sp_]
           rfl
          refine one_ (i := 11) (N := none) #[true, true, true, true, true, true, true, true, true, true, true, true] rfl rfl (one_of HT_.out (by kernel_rfl)) (by decide) (fun K hK => ?_)
          have hs61 : w60.cell? ⟨gb343, 0, none⟩ = some (.int .i64 0) := (blk_cell BK343.out 0).trans rfl
          have hfs61 := blk_frozen BK343.out 0
          have hns61_0 := NB305_343.out
          have hns61_1 := NB306_343.out
          have hns61_2 := NB307_343.out
          have hms61_0 := NB343_305.out
          have hms61_1 := NB343_306.out
          have hms61_2 := NB343_307.out
          have hs62 : w60.cell? ⟨gb343, 1, none⟩ = some (.bool false) := (blk_cell BK343.out 1).trans rfl
          have hfs62 := blk_frozen BK343.out 1
          have hns62_0 := NB305_343.out
          have hns62_1 := NB306_343.out
          have hns62_2 := NB307_343.out
          have hms62_0 := NB343_305.out
          have hms62_1 := NB343_306.out
          have hms62_2 := NB343_307.out
          have hs63 : w60.cell? ⟨gb343, 2, none⟩ = some (.int .i64 0) := (blk_cell BK343.out 2).trans rfl
          have hfs63 := blk_frozen BK343.out 2
          have hns63_0 := NB305_343.out
          have hns63_1 := NB306_343.out
          have hns63_2 := NB307_343.out
          have hms63_0 := NB343_305.out
          have hms63_1 := NB343_306.out
          have hms63_2 := NB343_307.out
          have hs64 : w60.cell? ⟨gb343, 3, none⟩ = some (.bool false) := (blk_cell BK343.out 3).trans rfl
          have hfs64 := blk_frozen BK343.out 3
          have hns64_0 := NB305_343.out
          have hns64_1 := NB306_343.out
          have hns64_2 := NB307_343.out
          have hms64_0 := NB343_305.out
          have hms64_1 := NB343_306.out
          have hms64_2 := NB343_307.out
          refine skip_ (w1 := ?_) (by rfl) rfl ?_ ?_
          rotate_left
          ·go_simp
           rfl
          refine hK.out _ _ ⟨((cell_far (p := ⟨gb343, _, none⟩) NB305_343.out _).trans (((cell_far (p := ⟨gb343, _, none⟩) NB305_343.out _).trans (((cell_far (p := ⟨gb343, _, none⟩) NB305_343.out _).trans (((cell_far (p := ⟨gb343, _, none⟩) NB305_343.out _).trans (hHeld.1)))))))), ((cell_far (p := ⟨gb343, _, none⟩) NB305_343.out _).trans (((cell_far (p := ⟨gb343, _, none⟩) NB305_343.out _).trans (((cell_far (p := ⟨gb343, _, none⟩) NB305_343.out _).trans (((cell_far (p := ⟨gb343, _, none⟩) NB305_343.out _).trans (hHeld.2.1)))))))), ((cell_far (p := ⟨gb343, _, none⟩) NB306_343.out _).trans (((cell_far (p := ⟨gb343, _, none⟩) NB306_343.out _).trans (((cell_far (p := ⟨gb343, _, none⟩) NB306_343.out _).trans (((cell_far (p := ⟨gb343, _, none⟩) NB306_343.out _).trans (hHeld.2.2.1)))))))), ((cell_far (p := ⟨gb343, _, none⟩) NB306_343.out _).trans (((cell_far (p := ⟨gb343, _, none⟩) NB306_343.out _).trans (((cell_far (p := ⟨gb343, _, none⟩) NB306_343.out _).trans (((cell_far (p := ⟨gb343, _, none⟩) NB306_343.out _).trans (hHeld.2.2.2))))))))⟩ (fun hHeld => ?_)
          clear hK K
          refine done_ (done_of HT_.out (by kernel_rfl)) ?_
          have hnb65 := NB343_305.out
          have hnc65 := NB305_343.out
          have hnb66 := NB343_306.out
          have hnc66 := NB306_343.out
          have hnb67 := NB343_307.out
          have hnc67 := NB307_343.out
          have hcz68 := bc4_ BK343.out
          have hfz68 := bf4_ BK343.out
          try go_wp2_with (first | ((with_reducible refine gate_callee (f := 14) rfl ?_); refine goesL_ (some 81) rfl rfl Tryz.func14 (by kernel_rfl) rfl #[.agg #[.int .i64 t339, .bool t340, .int .i64 t341, .bool t342], .int .u8 a0, .int .u64 t317] rfl (am_ rfl) ?_; (with_reducible refine (special_box_words.calls kj30 t339 t340 t341 t342 a0 t317 t344 t345 _ A54.out).mono ?_); rintro e w69 ⟨rfl, hb⟩; refine ⟨_, rfl, ?_⟩; replace BK305 := A0_ (blk_below (g := gb305) (o := .cells #[.int .u64 a2_0, .int .u64 a2_1] 26 (0, 0)) (by (with_reducible repeat first | apply bN_ | apply bD_ | apply bA_); refine blk_far ?_ NB305_343.out _; refine blk_far ?_ NB305_343.out _; refine blk_far ?_ NB305_343.out _; refine blk_far ?_ NB305_343.out _; exact bm_ BK305.out) hb); replace BK306 := A0_ (blk_below (g := gb306) (o := .cells #[.int .u64 a3_0, .int .u64 a3_1] 26 (0, 0)) (by (with_reducible repeat first | apply bN_ | apply bD_ | apply bA_); refine blk_far ?_ NB306_343.out _; refine blk_far ?_ NB306_343.out _; refine blk_far ?_ NB306_343.out _; refine blk_far ?_ NB306_343.out _; exact bm_ BK306.out) hb); replace BK307 := A0_ (blk_below (g := gb307) (o := .cells #[.int .u64 0, .int .u64 0, .int .u8 0, .int .u8 0] 29 (0, 0)) (by (with_reducible repeat first | apply bN_ | apply bD_ | apply bA_); refine blk_far ?_ NB307_343.out _; refine blk_far ?_ NB307_343.out _; refine blk_far ?_ NB307_343.out _; refine blk_far ?_ NB307_343.out _; exact bm_ BK307.out) hb); replace BK343 := A0_ (blk_below (g := gb343) (o := .cells #[.int .i64 t339, .bool t340, .int .i64 t341, .bool t342] 48 (0, 0)) (by (with_reducible repeat first | apply bN_ | apply bD_ | apply bA_); refine blk_put (cs := #[.int .i64 t339, .bool t340, .int .i64 t341, .bool false]) ?_ 3 _ rfl; refine blk_put (cs := #[.int .i64 t339, .bool t340, .int .i64 0, .bool false]) ?_ 2 _ rfl; refine blk_put (cs := #[.int .i64 t339, .bool false, .int .i64 0, .bool false]) ?_ 1 _ rfl; refine blk_put (cs := #[.int .i64 0, .bool false, .int .i64 0, .bool false]) ?_ 0 _ rfl; exact bm_ BK343.out) hb); replace HB := hs_ hb; (try clear hb); have hnb70 := NB307_305.out; have hnc70 := NB305_307.out; have hnb71 := NB307_306.out; have hnc71 := NB306_307.out; have hcz72 := bc4_ BK307.out; have hfz72 := bf4_ BK307.out))
          refine bodyPost_ret (results_ctt rfl _ _ gb307 29 #[.int .u64 t344, .int .u64 t345, .int .u8 0, .int .u8 0] (0, 0) _ rfl (by (with_reducible repeat first | apply bN_ | apply bD_ | apply bA_); refine blk_put (cs := #[.int .u64 t344, .int .u64 t345, .int .u8 0, .int .u8 0]) ?_ 3 _ rfl; refine blk_put (cs := #[.int .u64 t344, .int .u64 t345, .int .u8 0, .int .u8 0]) ?_ 2 _ rfl; refine blk_put (cs := #[.int .u64 t344, .int .u64 0, .int .u8 0, .int .u8 0]) ?_ 1 _ rfl; refine blk_put (cs := #[.int .u64 0, .int .u64 0, .int .u8 0, .int .u8 0]) ?_ 0 _ rfl; exact bm_ BK307.out) Tryz.underlying29 rfl (by kernel_rfl)) rfl ?_
          exact ⟨by first | rfl | (simp [errW_none, errW_some] <;> rfl) | (simp [*, errW_none, errW_some] <;> rfl), qz_⟩
 ·rw [if_neg c6] at H
  have c6b0 : (t312 == 0) = false := beq_eq_false_iff_ne.mpr c6
  have c6b1 : (t312 != 0) = true := bne_iff_ne.mpr c6
  simp only [Option.some.injEq, Prod.mk.injEq] at H
  obtain ⟨rfl, rfl, rfl, rfl, rfl, rfl⟩ := H
  go_enter Tryz.func17, Tryz.ntmps17
  go_wp2_with (first | ((with_reducible refine gate_dst (N := 6) rfl ?_); refine box_event ?hg (N := 6) ?hd (cs := #[.int .u64 a2_0, .int .u64 a2_1]) (t := 26) ?hr ?_; (case hd => rfl); (case hg => rfl); (case hr => first | (go_simp; done) | (go_simp; rfl)); intro gb305 hg w73 hbox hb; have BK305 := A0_ (hbox); have GW305 := A0_ ((by rw [hg]; exact (below_size (qm_ HB.out)) : w.heap.size ≤ gb305)); have GE305 := GW305; replace HB := hs_ hb; clear hb hbox hg) | ((with_reducible refine gate_dst (N := 7) rfl ?_); refine box_event ?hg (N := 7) ?hd (cs := #[.int .u64 a3_0, .int .u64 a3_1]) (t := 26) ?hr ?_; (case hd => rfl); (case hg => rfl); (case hr => first | (go_simp; done) | (go_simp; rfl)); intro gb306 hg w74 hbox hb; have BK306 := A0_ (hbox); have GW306 := A0_ ((by rw [hg]; exact (below_size qz_) : w.heap.size ≤ gb306)); have GE306 := GW306; replace HB := hs_ hb; have NB305_306 := nl_ hg BK305; have NB306_305 := ng_ hg BK305; replace BK305 := bb_ BK305 hb; clear hb hbox hg) | ((with_reducible refine gate_dst (N := 8) rfl ?_); refine box_event ?hg (N := 8) ?hd (cs := #[.int .u64 0, .int .u64 0, .int .u8 0, .int .u8 0]) (t := 29) ?hr ?_; (case hd => rfl); (case hg => rfl); (case hr => first | (go_simp; done) | (go_simp; rfl)); intro gb307 hg w75 hbox hb; have BK307 := A0_ (hbox); have GW307 := A0_ ((by rw [hg]; exact (below_size qz_) : w.heap.size ≤ gb307)); have GE307 := GW307; replace HB := hs_ hb; have NB305_307 := nl_ hg BK305; have NB307_305 := ng_ hg BK305; replace BK305 := bb_ BK305 hb; have NB306_307 := nl_ hg BK306; have NB307_306 := ng_ hg BK306; replace BK306 := bb_ BK306 hb; clear hb hbox hg; have hnb76 := NB305_306.out; have hnc76 := NB306_305.out; have hnb77 := NB305_307.out; have hnc77 := NB307_305.out; have hcz78 := bc2_ BK305.out; have hfz78 := bf2_ BK305.out; have hnb79 := NB306_307.out; have hnc79 := NB307_306.out; have hcz80 := bc2_ BK306.out; have hfz80 := bf2_ BK306.out) | ((with_reducible refine gate_dst (N := 23) rfl ?_); refine Kd.R_lit k26 _ 26 ?hg (N := 23) ?hd (xs := ([(⟨a2_0, a2_1⟩ : S26), (⟨a3_0, a3_1⟩ : S26)] : List (S26))) (inner := [.int .u64 a2_0, .int .u64 a2_1, .int .u64 a3_0, .int .u64 a3_1]) (ok := fun _ => True) (okp := fun _ => True) ?hr ?hp (fun _ hk => hk) trivial (Below.refl _ _) (Nat.le_refl _) (by simp) ?_; (case hd => rfl); (case hg => rfl); (case hr => first | (go_simp; done) | (go_simp; rfl)); (case hp => exact (Reps.c2 (show Kd.M k26 _ _ _ (⟨a2_0, a2_1⟩ : S26) [.int .u64 a2_0, .int .u64 a2_1] from (k26_mkM _ _ _ (⟨a2_0, a2_1⟩ : S26) )) (Reps.c2 (show Kd.M k26 _ _ _ (⟨a3_0, a3_1⟩ : S26) [.int .u64 a3_0, .int .u64 a3_1] from (k26_mkM _ _ _ (⟨a3_0, a3_1⟩ : S26) )) (Reps.none _ _)))); intro v309 w81 ho82 hb hg_ hnew_; clear hg_ hnew_; (first | rw [← Ny308.out] at ho82 | (simp only [Int.reduceToNat] at ho82; rw [← Ny308.out] at ho82)); have HO310 := A0_ (Kd.R_lower (Kd.R_newB (Kd.R_newB ho82 (bm_ BK305.out)) (bm_ BK306.out)) (below_size qz_)); replace BK305 := bb_ BK305 hb; replace BK306 := bb_ BK306 hb; replace BK307 := bb_ BK307 hb; replace HB := hs_ hb; clear hb ho82; obtain ⟨Ao83, co83, eo83⟩ := Kd.R_slice HO310.out; subst eo83) | ((with_reducible refine gate_callee (f := 8) rfl ?_); refine goesL_ (some 24) rfl rfl Tryz.func8 (by kernel_rfl) rfl #[.int .u8 a0, .int .u8 a1, .slice Ao83 y308.length co83] rfl (am_ rfl) ?_; (with_reducible refine (special_open.calls k a0 a1 _ _ y308 t311 t312 _ ?side1 ?side2 A5.out).mono ?_); (case side1 => repeat (first | exact (Kd.R_reads' HO310.out).2.2 | (with_reducible refine Kd.C_alloc ?_ _) | (with_reducible refine Kd.C_drewN ?_ _) | (with_reducible refine Kd.C_drew ?_))); (case side2 => exact (Kd.R_reads' HO310.out).2.1); rintro e w84 ⟨v313, rfl, ho0, hb⟩; refine ⟨_, rfl, ?_⟩; replace HO310 := A0_ (Kd.R_below (by exact rm_ HO310.out) hb); have HO314 := A0_ (Kd.R_lower ho0 (below_size qz_)); replace BK305 := bb_ BK305 hb; replace BK306 := bb_ BK306 hb; replace BK307 := bb_ BK307 hb; replace HB := hs_ hb; (try clear hb); (try clear ho0); have hcz85 := bc4_ BK307.out; have hfz85 := bf4_ BK307.out))
  refine bodyPost_ret (results_ctt rfl _ _ gb307 29 #[.int .u64 0, .int .u64 0, .int .u8 0, .int .u8 0] (0, 0) _ rfl (by (with_reducible repeat first | apply bN_ | apply bD_ | apply bA_); refine blk_put (cs := #[.int .u64 0, .int .u64 0, .int .u8 0, .int .u8 0]) ?_ 3 _ rfl; refine blk_put (cs := #[.int .u64 0, .int .u64 0, .int .u8 0, .int .u8 0]) ?_ 2 _ rfl; refine blk_put (cs := #[.int .u64 0, .int .u64 0, .int .u8 0, .int .u8 0]) ?_ 1 _ rfl; refine blk_put (cs := #[.int .u64 0, .int .u64 0, .int .u8 0, .int .u8 0]) ?_ 0 _ rfl; exact bm_ BK307.out) Tryz.underlying29 rfl (by kernel_rfl)) rfl ?_
  exact ⟨by first | rfl | (simp [errW_none, errW_some] <;> rfl) | (simp [*, errW_none, errW_some] <;> rfl), qz_⟩
end Go.Proofs.YtlgapmhjaaajfaaGreat.PA
end

section
namespace Go.Proofs.YtlgapmhjaaajfaaGreat.PA
open Go.RowKit Go.Proofs.YtlgapmhjaaajfaaGreatW.PrintWords Go.Proofs.YtlgapmhjaaajfaaGreatW.PrintLast Go.Proofs.YtlgapmhjaaajfaaGreatW.PrintMore
attribute [local go_sem] max2_int min2_int max_two min_two max_three min_three max_four min_four   -- for this text's walks alone
set_option linter.unusedVariables false
set_option linter.unusedSimpArgs false
attribute [local go_sem high] eqA29
def cutplanelaw11_known.f (k : Nat)  : Option (Bool) := (special_Mul.f k 1 1 2139095040 0 1073741824 1077936128).bind fun bt346 => (if ((bt346.1 == 2139095040 && (bt346.2.1 == 2139095040)) && (bt346.2.2.1 == 0 && (bt346.2.2.2.1 == 0))) = true then (if bt346.2.2.2.2.1 = true then (some (bt346.2.2.2.2.2 == 0)) else (some false)) else (some false))
theorem cutplanelaw11_known.mono : ∀ k, LeO (cutplanelaw11_known.f k ) (cutplanelaw11_known.f (k + 1) ) := by
 intro  k
 unfold cutplanelaw11_known.f
 repeat' first
   | (with_reducible exact special_Mul.mono _ _ _ _ _ _ _)
   | (with_reducible exact LeO.refl _)
   | (with_reducible exact LeO.none _)
   | (with_reducible refine LeO.ite ?_ ?_)
   | (with_reducible refine LeO.bind ?_ (fun _ => ?_))
   | exact special_Mul.mono _ _ _ _ _ _ _
   | exact LeO.none _
   | refine LeO.ite ?_ ?_
   | refine LeO.bind ?_ (fun _ => ?_)
theorem cutplanelaw11_known.calls (k : Nat)  (r : Bool) (w : World) (h : cutplanelaw11_known.f k  = some r) :
  Calls Tryz.prog 6 #[] w fun e w' => e = .returned (.bool r) ∧ Below w.heap.size w w' := by
 have hu26 := Tryz.underlying26
 have hu29 := Tryz.underlying29
 have HB := A0_ (Below.refl w.heap.size w)
 have H := h
 clear h
 unfold cutplanelaw11_known.f at H
 obtain ⟨⟨t346, t347, t348, t349, t350, t351⟩, A1, H⟩ := bs_ H
 try dsimp -simprocs only at H
 by_cases c2 : ((t346 == 2139095040 && (t347 == 2139095040)) && (t348 == 0 && (t349 == 0))) = true
 ·rw [if_pos c2] at H
  have c2b0 : ((t346 == 2139095040 && (t347 == 2139095040)) && (t348 == 0 && (t349 == 0))) = true := c2
  clear c2
  by_cases c3 : t350 = true
  ·subst c3
   rw [if_pos rfl] at H
   obtain rfl := Option.some.inj H
   go_enter Tryz.func6, Tryz.ntmps6
   go_wp2_with (first | ((with_reducible refine gate_callee (f := 17) rfl ?_); refine goesL_ (some 7) rfl rfl Tryz.func17 (by kernel_rfl) rfl #[.int .u8 1, .int .u8 1, .agg #[.int .u64 2139095040, .int .u64 0], .agg #[.int .u64 1073741824, .int .u64 1077936128]] rfl (am_ rfl) ?_; (with_reducible refine (special_Mul.calls k 1 1 2139095040 0 1073741824 1077936128 t346 t347 t348 t349 true t351 _ A1.out).mono ?_); rintro e w4 ⟨rfl, hb⟩; refine ⟨_, rfl, ?_⟩; replace HB := hs_ hb; (try clear hb)) | ((with_reducible refine gate_dst (N := 1) rfl ?_); refine box_event ?hg (N := 1) ?hd (cs := #[.int .u64 0, .int .u64 0, .int .u8 0, .int .u8 0]) (t := 29) ?hr ?_; (case hd => rfl); (case hg => rfl); (case hr => first | (go_simp; done) | (go_simp; rfl)); intro gb352 hg w5 hbox hb; have BK352 := A0_ (hbox); have GW352 := A0_ ((by rw [hg]; exact (below_size (qm_ HB.out)) : w.heap.size ≤ gb352)); have GE352 := GW352; replace HB := hs_ hb; clear hb hbox hg; have hcz6 := bc4_ BK352.out; have hfz6 := bf4_ BK352.out))
   go_ret
   exact ⟨by first | rfl | (simp [errW_none, errW_some] <;> rfl) | (simp [*, errW_none, errW_some] <;> rfl), qz_⟩
  ·replace c3 := Bool.eq_false_iff.mpr c3
   subst c3
   rw [if_neg (show ¬ (false = true) by decide)] at H
   obtain rfl := Option.some.inj H
   go_enter Tryz.func6, Tryz.ntmps6
   go_wp2_with (first | ((with_reducible refine gate_callee (f := 17) rfl ?_); refine goesL_ (some 7) rfl rfl Tryz.func17 (by kernel_rfl) rfl #[.int .u8 1, .int .u8 1, .agg #[.int .u64 2139095040, .int .u64 0], .agg #[.int .u64 1073741824, .int .u64 1077936128]] rfl (am_ rfl) ?_; (with_reducible refine (special_Mul.calls k 1 1 2139095040 0 1073741824 1077936128 t346 t347 t348 t349 false t351 _ A1.out).mono ?_); rintro e w7 ⟨rfl, hb⟩; refine ⟨_, rfl, ?_⟩; replace HB := hs_ hb; (try clear hb)) | ((with_reducible refine gate_dst (N := 1) rfl ?_); refine box_event ?hg (N := 1) ?hd (cs := #[.int .u64 0, .int .u64 0, .int .u8 0, .int .u8 0]) (t := 29) ?hr ?_; (case hd => rfl); (case hg => rfl); (case hr => first | (go_simp; done) | (go_simp; rfl)); intro gb352 hg w8 hbox hb; have BK352 := A0_ (hbox); have GW352 := A0_ ((by rw [hg]; exact (below_size (qm_ HB.out)) : w.heap.size ≤ gb352)); have GE352 := GW352; replace HB := hs_ hb; clear hb hbox hg; have hcz9 := bc4_ BK352.out; have hfz9 := bf4_ BK352.out))
   go_ret
   exact ⟨by first | rfl | (simp [errW_none, errW_some] <;> rfl) | (simp [*, errW_none, errW_some] <;> rfl), qz_⟩
 ·rw [if_neg c2] at H
  have c2b0 : ((t346 == 2139095040 && (t347 == 2139095040)) && (t348 == 0 && (t349 == 0))) = false := by simpa using c2
  clear c2
  obtain rfl := Option.some.inj H
  go_enter Tryz.func6, Tryz.ntmps6
  go_wp2_with (first | ((with_reducible refine gate_callee (f := 17) rfl ?_); refine goesL_ (some 7) rfl rfl Tryz.func17 (by kernel_rfl) rfl #[.int .u8 1, .int .u8 1, .agg #[.int .u64 2139095040, .int .u64 0], .agg #[.int .u64 1073741824, .int .u64 1077936128]] rfl (am_ rfl) ?_; (with_reducible refine (special_Mul.calls k 1 1 2139095040 0 1073741824 1077936128 t346 t347 t348 t349 t350 t351 _ A1.out).mono ?_); rintro e w10 ⟨rfl, hb⟩; refine ⟨_, rfl, ?_⟩; replace HB := hs_ hb; (try clear hb)) | ((with_reducible refine gate_dst (N := 1) rfl ?_); refine box_event ?hg (N := 1) ?hd (cs := #[.int .u64 0, .int .u64 0, .int .u8 0, .int .u8 0]) (t := 29) ?hr ?_; (case hd => rfl); (case hg => rfl); (case hr => first | (go_simp; done) | (go_simp; rfl)); intro gb352 hg w11 hbox hb; have BK352 := A0_ (hbox); have GW352 := A0_ ((by rw [hg]; exact (below_size (qm_ HB.out)) : w.heap.size ≤ gb352)); have GE352 := GW352; replace HB := hs_ hb; clear hb hbox hg; have hcz12 := bc4_ BK352.out; have hfz12 := bf4_ BK352.out))
  go_ret
  exact ⟨by first | rfl | (simp [errW_none, errW_some] <;> rfl) | (simp [*, errW_none, errW_some] <;> rfl), qz_⟩
def cutplaneref03_Sign.f (a0 : Int) : Option (Int) := if a0 = 1 then (some 2147483648) else (some 9223372036854775808)
theorem cutplaneref03_Sign.calls (a0 : Int) (r : Int) (w : World) (h : cutplaneref03_Sign.f a0 = some r) :
  Calls Tryz.prog 46 #[.int .u8 a0] w fun e w' => e = .returned (.int .u64 r) ∧ Drawn0 w w' := by
 have H := h
 clear h
 unfold cutplaneref03_Sign.f at H
 by_cases c2 : a0 = 1
 ·rw [if_pos c2] at H
  have c2b0 : (a0 == 1) = true := beq_iff_eq.mpr c2
  have c2b1 : (a0 != 1) = false := bne_eq_false_iff_eq.mpr c2
  clear c2
  obtain rfl := Option.some.inj H
  go_enter Tryz.func46, Tryz.ntmps46
  go_wp2
  go_ret
  exact ⟨by first | rfl | (simp; done) | (simp [*]; done), by repeat (first | exact Drawn0.refl _ | apply Drawn0.step)⟩
 ·rw [if_neg c2] at H
  have c2b0 : (a0 == 1) = false := beq_eq_false_iff_ne.mpr c2
  have c2b1 : (a0 != 1) = true := bne_iff_ne.mpr c2
  obtain rfl := Option.some.inj H
  go_enter Tryz.func46, Tryz.ntmps46
  go_wp2
  go_ret
  exact ⟨by first | rfl | (simp; done) | (simp [*]; done), by repeat (first | exact Drawn0.refl _ | apply Drawn0.step)⟩
def cutplaneref03_Frac.f (a0 : Int) : Option (Int) := if a0 = 1 then (some 23) else (some 52)
theorem cutplaneref03_Frac.calls (a0 : Int) (r : Int) (w : World) (h : cutplaneref03_Frac.f a0 = some r) :
  Calls Tryz.prog 47 #[.int .u8 a0] w fun e w' => e = .returned (.int .i64 r) ∧ Drawn0 w w' := by
 have H := h
 clear h
 unfold cutplaneref03_Frac.f at H
 by_cases c2 : a0 = 1
 ·rw [if_pos c2] at H
  have c2b0 : (a0 == 1) = true := beq_iff_eq.mpr c2
  have c2b1 : (a0 != 1) = false := bne_eq_false_iff_eq.mpr c2
  clear c2
  obtain rfl := Option.some.inj H
  go_enter Tryz.func47, Tryz.ntmps47
  go_wp2
  go_ret
  exact ⟨by first | rfl | (simp; done) | (simp [*]; done), by repeat (first | exact Drawn0.refl _ | apply Drawn0.step)⟩
 ·rw [if_neg c2] at H
  have c2b0 : (a0 == 1) = false := beq_eq_false_iff_ne.mpr c2
  have c2b1 : (a0 != 1) = true := bne_iff_ne.mpr c2
  obtain rfl := Option.some.inj H
  go_enter Tryz.func47, Tryz.ntmps47
  go_wp2
  go_ret
  exact ⟨by first | rfl | (simp; done) | (simp [*]; done), by repeat (first | exact Drawn0.refl _ | apply Drawn0.step)⟩
def cutplaneref03_Split.f (a0 a1 : Int) : Option (Bool × Int × Int) :=
 if 0 ≤ a1 ∧ a1 < 18446744073709551616 then (if a0 = 1 then some (decide (a1 ≥ 2147483648), a1 % 2147483648 / 8388608, a1 % 8388608) else some (decide (a1 ≥ 9223372036854775808), a1 % 9223372036854775808 / 4503599627370496, a1 % 4503599627370496)) else none
set_option maxHeartbeats 1000000 in
set_option maxRecDepth 100000 in
theorem cutplaneref03_Split.calls (a0 a1 : Int) (r1 : Bool) (r2 r3 : Int) (w : World) (h : cutplaneref03_Split.f a0 a1 = some (r1, r2, r3)) :
  Calls Tryz.prog 23 #[.int .u8 a0, .int .u64 a1] w fun e w' => e = .returned (.agg #[.bool r1, .int .i64 r2, .int .u64 r3]) ∧ Below w.heap.size w w' := by
 unfold cutplaneref03_Split.f at h
 by_cases hb : 0 ≤ a1 ∧ a1 < 18446744073709551616
 ·rw [if_pos hb] at h
  obtain ⟨hb0, hb1⟩ := hb
  by_cases c : a0 = 1
  ·subst c
   rw [if_pos rfl] at h
   simp only [Option.some.injEq, Prod.mk.injEq] at h
   obtain ⟨rfl, rfl, rfl⟩ := h
   go_enter Tryz.func23, Tryz.ntmps23
   go_wp2
   refine bodyPost_ret (v := .agg #[.bool (decide (a1 ≥ 2147483648)), .int .i64 (a1 % 2147483648 / 8388608), .int .u64 (a1 % 8388608)]) ?_ rfl ⟨rfl, ?_⟩
   ·simp [results, Tryz.results23, go_sem]
   ·repeat (first | exact Below.refl _ _ | apply below_alloc | (refine below_set ?_ (by simp)))
  ·rw [if_neg c] at h
   have cb : (a0 == 1) = false := beq_eq_false_iff_ne.mpr c
   simp only [Option.some.injEq, Prod.mk.injEq] at h
   obtain ⟨rfl, rfl, rfl⟩ := h
   go_enter Tryz.func23, Tryz.ntmps23
   go_wp2
   refine bodyPost_ret (v := .agg #[.bool (decide (a1 ≥ 9223372036854775808)), .int .i64 (a1 % 9223372036854775808 / 4503599627370496), .int .u64 (a1 % 4503599627370496)]) ?_ rfl ⟨rfl, ?_⟩
   ·simp [results, Tryz.results23, go_sem]
   ·repeat (first | exact Below.refl _ _ | apply below_alloc | (refine below_set ?_ (by simp)))
 ·rw [if_neg hb] at h
  exact absurd h (by simp)
def cutplaneref03_Most.f (a0 : Int) : Option (Int) := if a0 = 1 then (some 255) else (some 2047)
theorem cutplaneref03_Most.calls (a0 : Int) (r : Int) (w : World) (h : cutplaneref03_Most.f a0 = some r) :
  Calls Tryz.prog 45 #[.int .u8 a0] w fun e w' => e = .returned (.int .i64 r) ∧ Drawn0 w w' := by
 have H := h
 clear h
 unfold cutplaneref03_Most.f at H
 by_cases c2 : a0 = 1
 ·rw [if_pos c2] at H
  have c2b0 : (a0 == 1) = true := beq_iff_eq.mpr c2
  have c2b1 : (a0 != 1) = false := bne_eq_false_iff_eq.mpr c2
  clear c2
  obtain rfl := Option.some.inj H
  go_enter Tryz.func45, Tryz.ntmps45
  go_wp2
  go_ret
  exact ⟨by first | rfl | (simp; done) | (simp [*]; done), by repeat (first | exact Drawn0.refl _ | apply Drawn0.step)⟩
 ·rw [if_neg c2] at H
  have c2b0 : (a0 == 1) = false := beq_eq_false_iff_ne.mpr c2
  have c2b1 : (a0 != 1) = true := bne_iff_ne.mpr c2
  obtain rfl := Option.some.inj H
  go_enter Tryz.func45, Tryz.ntmps45
  go_wp2
  go_ret
  exact ⟨by first | rfl | (simp; done) | (simp [*]; done), by repeat (first | exact Drawn0.refl _ | apply Drawn0.step)⟩
end Go.Proofs.YtlgapmhjaaajfaaGreat.PA
end
