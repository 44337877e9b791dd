/- Steps of Go functions that the law SpecialProducts uses, told as plain Lean functions, each with the proof that its call comes to what it tells; words on memory; plain facts. No condition beyond those that each text names. -/
import Derived.Test.YtlgapmhjaaajfaaProg
import Derived.WalkMore
import Derived.Test.YtlgapmhjaaajfaaSSpecialProducts0
import Derived.Test.YtlgapmhjaaajfaaSSpecialProducts1
import Derived.Test.YtlgapmhjaaajfaaSSpecialProducts5
import Derived.Test.YtlgapmhjaaajfaaSSpecialProducts6
import Derived.Test.YtlgapmhjaaajfaaSSpecialProducts7
import Derived.Test.YtlgapmhjaaajfaaSSpecialProducts8
set_option maxHeartbeats 2000000
set_option maxRecDepth 100000
section
namespace Go.Proofs.Ytlgapmhjaaajfaa.PA
open Go.RowKit Go.Proofs.YtlgapmhjaaajfaaW.PrintWords Go.Proofs.YtlgapmhjaaajfaaW.PrintLast Go.Proofs.YtlgapmhjaaajfaaW.PrintMore
attribute [local go_sem] max2_int min2_int max_two min_two max_three min_three max_four min_four   -- for this text's walks alone
set_option linter.unusedVariables false
set_option linter.unusedSimpArgs false
mutual
def cutplaneref05_Mul.j0 : Nat → Int → Int → Int → Int → Bool → Option (Int × Int)
 | 0, _, _, _, _, _ => none
 | k + 1, x0, x1, x2, x3, x38 => if x38 = true then (none) else ((cutplaneref05_neg.f x0 x2).bind fun t662 => ((cutplaneref05_neg.f x0 x3).bind fun t663 => ((cutplaneref05_inf.f k x0 x2).bind fun t664 => (if t664 = true then (none) else ((cutplaneref05_inf.f k x0 x3).bind fun t665 => (if t665 = true then (none) else ((cutplaneref05_zero.f k x0 x2).bind fun t666 => (if t666 = true then (cutplaneref05_Mul.j1 k x0 x1 x2 x3 (t662 != t663) true) else ((cutplaneref05_zero.f k x0 x3).bind fun t667 => (cutplaneref05_Mul.j1 k x0 x1 x2 x3 (t662 != t663) t667))))))))))
def cutplaneref05_Mul.j1 : Nat → Int → Int → Int → Int → Bool → Bool → Option (Int × Int)
 | 0, _, _, _, _, _, _ => none
 | k + 1, x0, x1, x2, x3, x10, x66 => if x66 = true then ((cutplaneref03_Signed.f x0 0 x10).bind fun t668 => (some (t668, 0))) else ((cutplaneref03_Value.f k x0 x2).bind fun bt669 => ((cutplaneref03_Value.f k x0 x3).bind fun bt674 => ((cutplaneref02_Mul.f k bt669.1 bt669.2.1 bt669.2.2 bt674.1 bt674.2.1 bt674.2.2).bind fun bt679 => ((cutplaneref04_Round.f k x0 x1 bt679.1 bt679.2.1 bt679.2.2).bind fun bt684 => (some (bt684.1, bt684.2))))))
end
def cutplaneref05_Mul.f (k : Nat) (a0 : Int) (a1 : Int) (a2 : Int) (a3 : Int) : Option (Int × Int) := (cutplaneref05_nan.f k a0 a2).bind fun t654 => (if t654 = true then (none) else ((cutplaneref05_nan.f k a0 a3).bind fun t655 => (if t655 = true then (none) else ((cutplaneref05_inf.f k a0 a2).bind fun t656 => (if t656 = true then ((cutplaneref05_zero.f k a0 a3).bind fun t657 => (if t657 = true then (none) else ((cutplaneref05_zero.f k a0 a2).bind fun t658 => (if t658 = true then ((cutplaneref05_inf.f k a0 a3).bind fun t659 => (cutplaneref05_Mul.j0 k a0 a1 a2 a3 t659)) else (cutplaneref05_Mul.j0 k a0 a1 a2 a3 false))))) else ((cutplaneref05_zero.f k a0 a2).bind fun t660 => (if t660 = true then ((cutplaneref05_inf.f k a0 a3).bind fun t661 => (cutplaneref05_Mul.j0 k a0 a1 a2 a3 t661)) else (cutplaneref05_Mul.j0 k a0 a1 a2 a3 false))))))))
theorem cutplaneref05_Mul.mono_l : ∀ k, (∀ y0 y1 y2 y3 y4, LeO (cutplaneref05_Mul.j0 k y0 y1 y2 y3 y4) (cutplaneref05_Mul.j0 (k + 1) y0 y1 y2 y3 y4)) ∧ (∀ y0 y1 y2 y3 y4 y5, LeO (cutplaneref05_Mul.j1 k y0 y1 y2 y3 y4 y5) (cutplaneref05_Mul.j1 (k + 1) y0 y1 y2 y3 y4 y5))
 | 0 => ⟨fun _ _ _ _ _ r h => by simp [cutplaneref05_Mul.j0] at h, fun _ _ _ _ _ _ r h => by simp [cutplaneref05_Mul.j1] at h⟩
 | k + 1 => by
  obtain ⟨ih0, ih1⟩ := cutplaneref05_Mul.mono_l k
  refine ⟨?_, ?_⟩
  ·intro y0 y1 y2 y3 y4
   unfold cutplaneref05_Mul.j0
   repeat' first
   | (with_reducible exact ih0 _ _ _ _ _)
   | (with_reducible exact ih1 _ _ _ _ _ _)
   | (with_reducible exact cutplaneref02_Mul.mono _ _ _ _ _ _ _)
   | (with_reducible exact cutplaneref03_Value.mono _ _ _)
   | (with_reducible exact cutplaneref04_Round.mono _ _ _ _ _ _)
   | (with_reducible exact cutplaneref05_inf.mono _ _ _)
   | (with_reducible exact cutplaneref05_nan.mono _ _ _)
   | (with_reducible exact cutplaneref05_zero.mono _ _ _)
   | (with_reducible exact LeO.refl _)
   | (with_reducible exact LeO.none _)
   | (with_reducible refine LeO.ite ?_ ?_)
   | (with_reducible refine LeO.bind ?_ (fun _ => ?_))
   | exact ih0 _ _ _ _ _
   | exact ih1 _ _ _ _ _ _
   | exact cutplaneref02_Mul.mono _ _ _ _ _ _ _
   | exact cutplaneref03_Value.mono _ _ _
   | exact cutplaneref04_Round.mono _ _ _ _ _ _
   | exact cutplaneref05_inf.mono _ _ _
   | exact cutplaneref05_nan.mono _ _ _
   | exact cutplaneref05_zero.mono _ _ _
   | exact LeO.none _
   | refine LeO.ite ?_ ?_
   | refine LeO.bind ?_ (fun _ => ?_)
  ·intro y0 y1 y2 y3 y4 y5
   unfold cutplaneref05_Mul.j1
   repeat' first
   | (with_reducible exact ih0 _ _ _ _ _)
   | (with_reducible exact ih1 _ _ _ _ _ _)
   | (with_reducible exact cutplaneref02_Mul.mono _ _ _ _ _ _ _)
   | (with_reducible exact cutplaneref03_Value.mono _ _ _)
   | (with_reducible exact cutplaneref04_Round.mono _ _ _ _ _ _)
   | (with_reducible exact cutplaneref05_inf.mono _ _ _)
   | (with_reducible exact cutplaneref05_nan.mono _ _ _)
   | (with_reducible exact cutplaneref05_zero.mono _ _ _)
   | (with_reducible exact LeO.refl _)
   | (with_reducible exact LeO.none _)
   | (with_reducible refine LeO.ite ?_ ?_)
   | (with_reducible refine LeO.bind ?_ (fun _ => ?_))
   | exact ih0 _ _ _ _ _
   | exact ih1 _ _ _ _ _ _
   | exact cutplaneref02_Mul.mono _ _ _ _ _ _ _
   | exact cutplaneref03_Value.mono _ _ _
   | exact cutplaneref04_Round.mono _ _ _ _ _ _
   | exact cutplaneref05_inf.mono _ _ _
   | exact cutplaneref05_nan.mono _ _ _
   | exact cutplaneref05_zero.mono _ _ _
   | exact LeO.none _
   | refine LeO.ite ?_ ?_
   | refine LeO.bind ?_ (fun _ => ?_)
theorem cutplaneref05_Mul.mono : ∀ a0 a1 a2 a3 k, LeO (cutplaneref05_Mul.f k a0 a1 a2 a3) (cutplaneref05_Mul.f (k + 1) a0 a1 a2 a3) := by
 intro a0 a1 a2 a3 k
 obtain ⟨ih0, ih1⟩ := cutplaneref05_Mul.mono_l k
 unfold cutplaneref05_Mul.f
 repeat' first
   | (with_reducible exact ih0 _ _ _ _ _)
   | (with_reducible exact ih1 _ _ _ _ _ _)
   | (with_reducible exact cutplaneref02_Mul.mono _ _ _ _ _ _ _)
   | (with_reducible exact cutplaneref03_Value.mono _ _ _)
   | (with_reducible exact cutplaneref04_Round.mono _ _ _ _ _ _)
   | (with_reducible exact cutplaneref05_inf.mono _ _ _)
   | (with_reducible exact cutplaneref05_nan.mono _ _ _)
   | (with_reducible exact cutplaneref05_zero.mono _ _ _)
   | (with_reducible exact LeO.refl _)
   | (with_reducible exact LeO.none _)
   | (with_reducible refine LeO.ite ?_ ?_)
   | (with_reducible refine LeO.bind ?_ (fun _ => ?_))
   | exact ih0 _ _ _ _ _
   | exact ih1 _ _ _ _ _ _
   | exact cutplaneref02_Mul.mono _ _ _ _ _ _ _
   | exact cutplaneref03_Value.mono _ _ _
   | exact cutplaneref04_Round.mono _ _ _ _ _ _
   | exact cutplaneref05_inf.mono _ _ _
   | exact cutplaneref05_nan.mono _ _ _
   | exact cutplaneref05_zero.mono _ _ _
   | exact LeO.none _
   | refine LeO.ite ?_ ?_
   | refine LeO.bind ?_ (fun _ => ?_)
theorem cutplaneref05_Mul.calls (k : Nat) (a0 : Int) (a1 : Int) (a2 : Int) (a3 : Int) (r1 : Int) (r2 : Int) (w : World) (h : cutplaneref05_Mul.f k a0 a1 a2 a3 = some (r1, r2)) :
  Calls Try.prog 47 #[.int .u8 a0, .int .u8 a1, .int .u64 a2, .int .u64 a3] w fun e w' => e = .returned (.tuple #[.int .u64 r1, .int .u8 r2]) ∧ Below w.heap.size w w' := by
 have HB := A0_ (Below.refl w.heap.size w)
 have H := h
 clear h
 unfold cutplaneref05_Mul.f at H
 obtain ⟨t654, A5, H⟩ := bs_ H
 try dsimp -simprocs only at H
 by_cases c6 : t654 = true
 ·subst c6
  rw [if_pos rfl] at H
  exact absurd H (by simp)
 ·replace c6 := Bool.eq_false_iff.mpr c6
  subst c6
  rw [if_neg (show ¬ (false = true) by decide)] at H
  obtain ⟨t655, A7, H⟩ := bs_ H
  try dsimp -simprocs only at H
  by_cases c8 : t655 = true
  ·subst c8
   rw [if_pos rfl] at H
   exact absurd H (by simp)
  ·replace c8 := Bool.eq_false_iff.mpr c8
   subst c8
   rw [if_neg (show ¬ (false = true) by decide)] at H
   have HC9 := A0_ H
   clear H
   go_enter Try.func47, Try.ntmps47
   go_upto_region 3 with (first | ((with_reducible refine gate_callee (f := 68) rfl ?_); refine goesL_ (some 13) rfl rfl Try.func68 (by kernel_rfl) rfl #[.int .u8 a0, .int .u64 a2] rfl (am_ rfl) ?_; (with_reducible refine (cutplaneref05_nan.calls k a0 a2 false _ A5.out).mono ?_); rintro e w10 ⟨rfl, hb⟩; refine ⟨_, rfl, ?_⟩; replace HB := hs_ hb; (try clear hb)) | (go_at_call 68; (with_reducible refine (cutplaneref05_nan.calls k a0 a3 false _ A7.out).mono ?_); rintro e w11 ⟨rfl, hb⟩; replace HB := hs_ hb; (try clear hb)))
   (try simp only [Act.put, sp_])
   go_cut [38] (fun v38 wc => ∃ (kq : Nat) (x38_8 : Bool), v38 = .bool x38_8 ∧ Aside0 (cutplaneref05_Mul.j0 kq a0 a1 a2 a3 x38_8 = some (r1, r2)) ∧ Aside0 (kq ≤ k) ∧ Aside0 (Below w.heap.size w wc))
   case first =>
    have H := HC9.out
    clear HC9
    obtain ⟨t656, A12, H⟩ := bs_ H
    try dsimp -simprocs only at H
    by_cases c13 : t656 = true
    ·subst c13
     rw [if_pos rfl] at H
     obtain ⟨t657, A14, H⟩ := bs_ H
     try dsimp -simprocs only at H
     by_cases c15 : t657 = true
     ·subst c15
      rw [if_pos rfl] at H
      exact absurd H (by simp)
     ·replace c15 := Bool.eq_false_iff.mpr c15
      subst c15
      rw [if_neg (show ¬ (false = true) by decide)] at H
      obtain ⟨t658, A16, H⟩ := bs_ H
      try dsimp -simprocs only at H
      by_cases c17 : t658 = true
      ·subst c17
       rw [if_pos rfl] at H
       obtain ⟨t659, A18, H⟩ := bs_ H
       try dsimp -simprocs only at H
       have H' := A0_ H
       clear H
       go_wp2_with (first | ((with_reducible refine gate_callee (f := 69) rfl ?_); refine goesL_ (some 23) rfl rfl Try.func69 (by kernel_rfl) rfl #[.int .u8 a0, .int .u64 a2] rfl (am_ rfl) ?_; (with_reducible refine (cutplaneref05_inf.calls k a0 a2 true _ A12.out).mono ?_); rintro e w19 ⟨rfl, hb⟩; refine ⟨_, rfl, ?_⟩; replace HB := hs_ hb; (try clear hb)) | (go_at_call 70; (with_reducible refine (cutplaneref05_zero.calls k a0 a3 false _ A14.out).mono ?_); rintro e w20 ⟨rfl, hb⟩; replace HB := hs_ hb; (try clear hb)) | (go_at_call 70; (with_reducible refine (cutplaneref05_zero.calls k a0 a2 true _ A16.out).mono ?_); rintro e w21 ⟨rfl, hb⟩; replace HB := hs_ hb; (try clear hb)) | (go_at_call 69; (with_reducible refine (cutplaneref05_inf.calls k a0 a3 t659 _ A18.out).mono ?_); rintro e w22 ⟨rfl, hb⟩; replace HB := hs_ hb; (try clear hb)))
       go_meet
       case rel => exact ⟨_, (t659), (by first | rfl | (simp; done) | (simp [*]; done)), H', ⟨by first | omega | exact Nat.le_refl _⟩, ⟨qm_ HB.out⟩⟩
      ·replace c17 := Bool.eq_false_iff.mpr c17
       subst c17
       rw [if_neg (show ¬ (false = true) by decide)] at H
       have H' := A0_ H
       clear H
       go_wp2_with (first | ((with_reducible refine gate_callee (f := 69) rfl ?_); refine goesL_ (some 23) rfl rfl Try.func69 (by kernel_rfl) rfl #[.int .u8 a0, .int .u64 a2] rfl (am_ rfl) ?_; (with_reducible refine (cutplaneref05_inf.calls k a0 a2 true _ A12.out).mono ?_); rintro e w23 ⟨rfl, hb⟩; refine ⟨_, rfl, ?_⟩; replace HB := hs_ hb; (try clear hb)) | (go_at_call 70; (with_reducible refine (cutplaneref05_zero.calls k a0 a3 false _ A14.out).mono ?_); rintro e w24 ⟨rfl, hb⟩; replace HB := hs_ hb; (try clear hb)) | (go_at_call 70; (with_reducible refine (cutplaneref05_zero.calls k a0 a2 false _ A16.out).mono ?_); rintro e w25 ⟨rfl, hb⟩; replace HB := hs_ hb; (try clear hb)))
       go_meet
       case rel => exact ⟨_, (false), (by first | rfl | (simp; done) | (simp [*]; done)), H', ⟨by first | omega | exact Nat.le_refl _⟩, ⟨qm_ HB.out⟩⟩
    ·replace c13 := Bool.eq_false_iff.mpr c13
     subst c13
     rw [if_neg (show ¬ (false = true) by decide)] at H
     obtain ⟨t660, A26, H⟩ := bs_ H
     try dsimp -simprocs only at H
     by_cases c27 : t660 = true
     ·subst c27
      rw [if_pos rfl] at H
      obtain ⟨t661, A28, H⟩ := bs_ H
      try dsimp -simprocs only at H
      have H' := A0_ H
      clear H
      go_wp2_with (first | ((with_reducible refine gate_callee (f := 69) rfl ?_); refine goesL_ (some 23) rfl rfl Try.func69 (by kernel_rfl) rfl #[.int .u8 a0, .int .u64 a2] rfl (am_ rfl) ?_; (with_reducible refine (cutplaneref05_inf.calls k a0 a2 false _ A12.out).mono ?_); rintro e w29 ⟨rfl, hb⟩; refine ⟨_, rfl, ?_⟩; replace HB := hs_ hb; (try clear hb)) | (go_at_call 70; (with_reducible refine (cutplaneref05_zero.calls k a0 a2 true _ A26.out).mono ?_); rintro e w30 ⟨rfl, hb⟩; replace HB := hs_ hb; (try clear hb)) | (go_at_call 69; (with_reducible refine (cutplaneref05_inf.calls k a0 a3 t661 _ A28.out).mono ?_); rintro e w31 ⟨rfl, hb⟩; replace HB := hs_ hb; (try clear hb)))
      go_meet
      case rel => exact ⟨_, (t661), (by first | rfl | (simp; done) | (simp [*]; done)), H', ⟨by first | omega | exact Nat.le_refl _⟩, ⟨qm_ HB.out⟩⟩
     ·replace c27 := Bool.eq_false_iff.mpr c27
      subst c27
      rw [if_neg (show ¬ (false = true) by decide)] at H
      have H' := A0_ H
      clear H
      go_wp2_with (first | ((with_reducible refine gate_callee (f := 69) rfl ?_); refine goesL_ (some 23) rfl rfl Try.func69 (by kernel_rfl) rfl #[.int .u8 a0, .int .u64 a2] rfl (am_ rfl) ?_; (with_reducible refine (cutplaneref05_inf.calls k a0 a2 false _ A12.out).mono ?_); rintro e w32 ⟨rfl, hb⟩; refine ⟨_, rfl, ?_⟩; replace HB := hs_ hb; (try clear hb)) | (go_at_call 70; (with_reducible refine (cutplaneref05_zero.calls k a0 a2 false _ A26.out).mono ?_); rintro e w33 ⟨rfl, hb⟩; replace HB := hs_ hb; (try clear hb)))
      go_meet
      case rel => exact ⟨_, (false), (by first | rfl | (simp; done) | (simp [*]; done)), H', ⟨by first | omega | exact Nat.le_refl _⟩, ⟨qm_ HB.out⟩⟩
   case rest =>
    clear HC9
    try clear c1
    try clear c2
    try clear p2
    try clear c4
    try clear c6
    try clear c8
    try clear c13
    try clear c15
    try clear c17
    try clear c27
    obtain ⟨kq, x38_8, rfl, HA, HJ8, HB⟩ := hcut
    cases kq with
    | zero => exact absurd HA.out (by simp [cutplaneref05_Mul.j0])
    | succ kj8 =>
     have H := HA.out
     clear HA
     simp only [cutplaneref05_Mul.j0] at H
     by_cases c34 : x38_8 = true
     ·subst c34
      rw [if_pos rfl] at H
      exact absurd H (by simp)
     ·replace c34 := Bool.eq_false_iff.mpr c34
      subst c34
      rw [if_neg (show ¬ (false = true) by decide)] at H
      obtain ⟨t662, A35, H⟩ := bs_ H
      try dsimp -simprocs only at H
      obtain ⟨t663, A36, H⟩ := bs_ H
      try dsimp -simprocs only at H
      obtain ⟨t664, A37, H⟩ := bs_ H
      try dsimp -simprocs only at H
      by_cases c38 : t664 = true
      ·subst c38
       rw [if_pos rfl] at H
       exact absurd H (by simp)
      ·replace c38 := Bool.eq_false_iff.mpr c38
       subst c38
       rw [if_neg (show ¬ (false = true) by decide)] at H
       obtain ⟨t665, A39, H⟩ := bs_ H
       try dsimp -simprocs only at H
       by_cases c40 : t665 = true
       ·subst c40
        rw [if_pos rfl] at H
        exact absurd H (by simp)
       ·replace c40 := Bool.eq_false_iff.mpr c40
        subst c40
        rw [if_neg (show ¬ (false = true) by decide)] at H
        have HC41 := A0_ H
        clear H
        go_upto_region 8 with (first | ((with_reducible refine gate_callee (f := 71) rfl ?_); refine goesL_ (some 43) rfl rfl Try.func71 (by kernel_rfl) rfl #[.int .u8 a0, .int .u64 a2] rfl (am_ rfl) ?_; (with_reducible refine (cutplaneref05_neg.calls a0 a2 t662 _ A35.out).mono ?_); rintro e w' ⟨rfl, ⟨nd, rfl⟩⟩; refine ⟨_, rfl, ?_⟩) | ((with_reducible refine gate_callee (f := 71) rfl ?_); refine goesL_ (some 46) rfl rfl Try.func71 (by kernel_rfl) rfl #[.int .u8 a0, .int .u64 a3] rfl (am_ rfl) ?_; (with_reducible refine (cutplaneref05_neg.calls a0 a3 t663 _ A36.out).mono ?_); rintro e w' ⟨rfl, ⟨nd, rfl⟩⟩; refine ⟨_, rfl, ?_⟩) | ((with_reducible refine gate_callee (f := 69) rfl ?_); refine goesL_ (some 50) rfl rfl Try.func69 (by kernel_rfl) rfl #[.int .u8 a0, .int .u64 a2] rfl (am_ rfl) ?_; (with_reducible refine (cutplaneref05_inf.calls kj8 a0 a2 false _ A37.out).mono ?_); rintro e w42 ⟨rfl, hb⟩; refine ⟨_, rfl, ?_⟩; replace HB := hs_ hb; (try clear hb)) | (go_at_call 69; (with_reducible refine (cutplaneref05_inf.calls kj8 a0 a3 false _ A39.out).mono ?_); rintro e w43 ⟨rfl, hb⟩; replace HB := hs_ hb; (try clear hb)))
        (try simp only [Act.put, sp_])
        go_cut [66] (fun v66 wc => ∃ (kq : Nat) (x66_40 : Bool), v66 = .bool x66_40 ∧ Aside0 (cutplaneref05_Mul.j1 kq a0 a1 a2 a3 (t662 != t663) x66_40 = some (r1, r2)) ∧ Aside0 (kq ≤ kj8) ∧ Aside0 (Below w.heap.size w wc))
        case first =>
         have H := HC41.out
         clear HC41
         obtain ⟨t666, A44, H⟩ := bs_ H
         try dsimp -simprocs only at H
         by_cases c45 : t666 = true
         ·subst c45
          rw [if_pos rfl] at H
          have H' := A0_ H
          clear H
          go_wp2_with (first | ((with_reducible refine gate_callee (f := 70) rfl ?_); refine goesL_ (some 61) rfl rfl Try.func70 (by kernel_rfl) rfl #[.int .u8 a0, .int .u64 a2] rfl (am_ rfl) ?_; (with_reducible refine (cutplaneref05_zero.calls kj8 a0 a2 true _ A44.out).mono ?_); rintro e w46 ⟨rfl, hb⟩; refine ⟨_, rfl, ?_⟩; replace HB := hs_ hb; (try clear hb)))
          go_meet
          case rel => exact ⟨_, (true), (by first | rfl | (simp; done) | (simp [*]; done)), H', ⟨by have := HJ8.out; first | omega | exact Nat.le_refl _⟩, ⟨qm_ HB.out⟩⟩
         ·replace c45 := Bool.eq_false_iff.mpr c45
          subst c45
          rw [if_neg (show ¬ (false = true) by decide)] at H
          obtain ⟨t667, A47, H⟩ := bs_ H
          try dsimp -simprocs only at H
          have H' := A0_ H
          clear H
          go_wp2_with (first | ((with_reducible refine gate_callee (f := 70) rfl ?_); refine goesL_ (some 61) rfl rfl Try.func70 (by kernel_rfl) rfl #[.int .u8 a0, .int .u64 a2] rfl (am_ rfl) ?_; (with_reducible refine (cutplaneref05_zero.calls kj8 a0 a2 false _ A44.out).mono ?_); rintro e w48 ⟨rfl, hb⟩; refine ⟨_, rfl, ?_⟩; replace HB := hs_ hb; (try clear hb)) | (go_at_call 70; (with_reducible refine (cutplaneref05_zero.calls kj8 a0 a3 t667 _ A47.out).mono ?_); rintro e w49 ⟨rfl, hb⟩; replace HB := hs_ hb; (try clear hb)))
          go_meet
          case rel => exact ⟨_, (t667), (by first | rfl | (simp; done) | (simp [*]; done)), H', ⟨by have := HJ8.out; first | omega | exact Nat.le_refl _⟩, ⟨qm_ HB.out⟩⟩
        case rest =>
         clear HC41
         try clear c1
         try clear c2
         try clear p2
         try clear c3
         try clear c4
         try clear c6
         try clear c7
         try clear c8
         try clear c13
         try clear c15
         try clear c17
         try clear c27
         try clear c34
         try clear c38
         try clear c40
         try clear c45
         try clear c47
         try clear p2
         obtain ⟨kq, x66_40, rfl, HA, HJ40, HB⟩ := hcut
         cases kq with
         | zero => exact absurd HA.out (by simp [cutplaneref05_Mul.j1])
         | succ kj40 =>
          have H := HA.out
          clear HA
          simp only [cutplaneref05_Mul.j1] at H
          by_cases c50 : x66_40 = true
          ·subst c50
           rw [if_pos rfl] at H
           obtain ⟨t668, A51, H⟩ := bs_ H
           try dsimp -simprocs only at H
           simp only [Option.some.injEq, Prod.mk.injEq] at H
           obtain ⟨rfl, rfl⟩ := H
           go_wp2_with (first | ((with_reducible refine gate_callee (f := 45) rfl ?_); refine goesL_ (some 69) rfl rfl Try.func45 (by kernel_rfl) rfl #[.int .u8 a0, .int .u64 0, .bool (t662 != t663)] rfl (am_ rfl) ?_; (with_reducible refine (cutplaneref03_Signed.calls a0 0 (t662 != t663) t668 _ A51.out).mono ?_); rintro e w' ⟨rfl, ⟨nd, rfl⟩⟩; refine ⟨_, rfl, ?_⟩))
           go_ret2
           exact ⟨by first | rfl | (simp [errW_none, errW_some] <;> rfl) | (simp [*, errW_none, errW_some] <;> rfl), qm_ HB.out⟩
          ·replace c50 := Bool.eq_false_iff.mpr c50
           subst c50
           rw [if_neg (show ¬ (false = true) by decide)] at H
           obtain ⟨⟨t669, t670, t673⟩, A52, H⟩ := bs_ H
           try dsimp -simprocs only at H
           obtain ⟨⟨t674, t675, t678⟩, A53, H⟩ := bs_ H
           try dsimp -simprocs only at H
           obtain ⟨⟨t679, t680, t683⟩, A54, H⟩ := bs_ H
           try dsimp -simprocs only at H
           obtain ⟨⟨t684, t685⟩, A55, H⟩ := bs_ H
           try dsimp -simprocs only at H
           simp only [Option.some.injEq, Prod.mk.injEq] at H
           obtain ⟨rfl, rfl⟩ := H
           go_wp2_with (first | ((with_reducible refine gate_callee (f := 74) rfl ?_); refine goesL_ (some 74) rfl rfl Try.func74 (by kernel_rfl) rfl #[.int .u8 a0, .int .u64 a2] rfl (am_ rfl) ?_; (with_reducible refine (cutplaneref03_Value.calls kj40 a0 a2 t669 t670 t673 _ A52.out).mono ?_); rintro e w56 ⟨v671, rfl, ho0, hb⟩; refine ⟨_, rfl, ?_⟩; have HO672 := A0_ (Kd.V_lower (Kd.V_mono (ok' := fun k_ => True) ho0 (fun k_ hk_ => trivial)) (below_size (qm_ HB.out))); replace HB := hs_ hb; (try clear hb); (try clear ho0)) | ((with_reducible refine gate_callee (f := 74) rfl ?_); refine goesL_ (some 77) rfl rfl Try.func74 (by kernel_rfl) rfl #[.int .u8 a0, .int .u64 a3] rfl (am_ rfl) ?_; (with_reducible refine (cutplaneref03_Value.calls kj40 a0 a3 t674 t675 t678 _ A53.out).mono ?_); rintro e w57 ⟨v676, rfl, ho0, hb⟩; refine ⟨_, rfl, ?_⟩; replace HO672 := A0_ (Kd.V_below (by exact vm_ HO672.out) hb); have HO677 := A0_ (Kd.V_lower (Kd.V_mono (ok' := fun k_ => True) ho0 (fun k_ hk_ => trivial)) (below_size (qm_ HB.out))); replace HB := hs_ hb; (try clear hb); (try clear ho0); obtain ⟨Ao58, co58, eo58⟩ := Kd.V_slice HO672.out; subst eo58; obtain ⟨Ao59, co59, eo59⟩ := Kd.V_slice HO677.out; subst eo59) | ((with_reducible refine gate_callee (f := 73) rfl ?_); refine goesL_ (some 78) rfl rfl Try.func73 (by kernel_rfl) rfl #[.agg #[.bool t669, .slice Ao58 t670.length co58, .int .i64 t673], .agg #[.bool t674, .slice Ao59 t675.length co59, .int .i64 t678]] rfl (am_ rfl) ?_; (with_reducible refine (cutplaneref02_Mul.calls kj40 t669 _ _ t670 t673 t674 _ _ t675 t678 t679 t680 t683 _ ?side1 ?side2 ?side3 ?side4 A54.out).mono ?_); (case side1 => repeat (first | exact (Kd.V_reads' HO672.out).2.2 | (with_reducible refine Kd.C_alloc ?_ _) | (with_reducible refine Kd.C_drewN ?_ _) | (with_reducible refine Kd.C_drew ?_))); (case side2 => exact (Kd.V_reads' HO672.out).2.1); (case side3 => repeat (first | exact (Kd.V_reads' HO677.out).2.2 | (with_reducible refine Kd.C_alloc ?_ _) | (with_reducible refine Kd.C_drewN ?_ _) | (with_reducible refine Kd.C_drew ?_))); (case side4 => exact (Kd.V_reads' HO677.out).2.1); rintro e w60 ⟨v681, rfl, ho0, hb⟩; refine ⟨_, rfl, ?_⟩; replace HO672 := A0_ (Kd.V_below (by exact vm_ HO672.out) hb); replace HO677 := A0_ (Kd.V_below (by exact vm_ HO677.out) hb); have HO682 := A0_ (Kd.V_lower (Kd.V_mono (ok' := fun k_ => True) ho0 (fun k_ hk_ => trivial)) (below_size (qm_ HB.out))); replace HB := hs_ hb; (try clear hb); (try clear ho0); obtain ⟨Ao61, co61, eo61⟩ := Kd.V_slice HO682.out; subst eo61) | ((with_reducible refine gate_callee (f := 72) rfl ?_); refine goesL_ (some 79) rfl rfl Try.func72 (by kernel_rfl) rfl #[.int .u8 a0, .int .u8 a1, .agg #[.bool t679, .slice Ao61 t680.length co61, .int .i64 t683]] rfl (am_ rfl) ?_; (with_reducible refine (cutplaneref04_Round.calls kj40 a0 a1 t679 _ _ t680 t683 t684 t685 _ ?side1 ?side2 A55.out).mono ?_); (case side1 => repeat (first | exact (Kd.V_reads' HO682.out).2.2 | (with_reducible refine Kd.C_alloc ?_ _) | (with_reducible refine Kd.C_drewN ?_ _) | (with_reducible refine Kd.C_drew ?_))); (case side2 => exact (Kd.V_reads' HO682.out).2.1); rintro e w62 ⟨rfl, hb⟩; refine ⟨_, rfl, ?_⟩; replace HO672 := A0_ (Kd.V_below (by exact vm_ HO672.out) hb); replace HO677 := A0_ (Kd.V_below (by exact vm_ HO677.out) hb); replace HO682 := A0_ (Kd.V_below (by exact vm_ HO682.out) hb); replace HB := hs_ hb; (try clear hb)))
           go_ret2
           exact ⟨by first | rfl | (simp [errW_none, errW_some] <;> rfl) | (simp [*, errW_none, errW_some] <;> rfl), qm_ HB.out⟩
end Go.Proofs.Ytlgapmhjaaajfaa.PA
end

section
namespace Go.Proofs.Ytlgapmhjaaajfaa.PA
open Go.RowKit Go.Proofs.YtlgapmhjaaajfaaW.PrintWords Go.Proofs.YtlgapmhjaaajfaaW.PrintLast Go.Proofs.YtlgapmhjaaajfaaW.PrintMore
attribute [local go_sem] max2_int min2_int max_two min_two max_three min_three max_four min_four   -- for this text's walks alone
set_option linter.unusedVariables false
set_option linter.unusedSimpArgs false
mutual
def cutplaneref01_Add.l0 : Nat → List Int → List Int → List Int → Int → Int → Option (List Int)
 | 0, _, _, _, _, _ => none
 | k + 1, x0, x1, x5, x6, x7 => if x7 < (x0.length : Int) then (cutplaneref01_Add.j1 k x0 x1 x5 x6 x7 true) else (cutplaneref01_Add.j1 k x0 x1 x5 x6 x7 (decide (x7 < (x1.length : Int))))
def cutplaneref01_Add.j1 : Nat → List Int → List Int → List Int → Int → Int → Bool → Option (List Int)
 | 0, _, _, _, _, _, _ => none
 | k + 1, x0, x1, x5, x6, x7, x17 => if x17 = true then (if x7 < (x0.length : Int) then (if 0 ≤ x7 then (if x7 < (x1.length : Int) then (if x5.length < 35184372088832 then (cutplaneref01_Add.l0 k x0 x1 (x5 ++ [(IntKind.u64.wrap ((IntKind.u64.wrap (x6 + (IntKind.u64.wrap (rd x0 x7)))) + (IntKind.u64.wrap (rd x1 x7)))) % 4294967296]) ((IntKind.u64.wrap ((IntKind.u64.wrap (x6 + (IntKind.u64.wrap (rd x0 x7)))) + (IntKind.u64.wrap (rd x1 x7)))) / 4294967296) (wrap64 (x7 + 1))) else (none)) else (if x5.length < 35184372088832 then (cutplaneref01_Add.l0 k x0 x1 (x5 ++ [(IntKind.u64.wrap (x6 + (IntKind.u64.wrap (rd x0 x7)))) % 4294967296]) ((IntKind.u64.wrap (x6 + (IntKind.u64.wrap (rd x0 x7)))) / 4294967296) (wrap64 (x7 + 1))) else (none))) else (none)) else (if x7 < (x1.length : Int) then (if 0 ≤ x7 then (if x5.length < 35184372088832 then (cutplaneref01_Add.l0 k x0 x1 (x5 ++ [(IntKind.u64.wrap (x6 + (IntKind.u64.wrap (rd x1 x7)))) % 4294967296]) ((IntKind.u64.wrap (x6 + (IntKind.u64.wrap (rd x1 x7)))) / 4294967296) (wrap64 (x7 + 1))) else (none)) else (none)) else (if x5.length < 35184372088832 then (cutplaneref01_Add.l0 k x0 x1 (x5 ++ [(x6) % 4294967296]) (x6 / 4294967296) (wrap64 (x7 + 1))) else (none)))) else (if x5.length < 35184372088832 then ((cutplaneref01_Trim.f k (x5 ++ [(x6) % 4294967296])).bind fun t425 => (some t425)) else (none))
end
def cutplaneref01_Add.f (k : Nat) (l0 : List Int) (l1 : List Int) : Option (List Int) := cutplaneref01_Add.l0 k l0 l1 ([] : List Int) 0 0
theorem cutplaneref01_Add.mono_l : ∀ k, (∀ y0 y1 y2 y3 y4, LeO (cutplaneref01_Add.l0 k y0 y1 y2 y3 y4) (cutplaneref01_Add.l0 (k + 1) y0 y1 y2 y3 y4)) ∧ (∀ y0 y1 y2 y3 y4 y5, LeO (cutplaneref01_Add.j1 k y0 y1 y2 y3 y4 y5) (cutplaneref01_Add.j1 (k + 1) y0 y1 y2 y3 y4 y5))
 | 0 => ⟨fun _ _ _ _ _ r h => by simp [cutplaneref01_Add.l0] at h, fun _ _ _ _ _ _ r h => by simp [cutplaneref01_Add.j1] at h⟩
 | k + 1 => by
  obtain ⟨ih0, ih1⟩ := cutplaneref01_Add.mono_l k
  refine ⟨?_, ?_⟩
  ·intro y0 y1 y2 y3 y4
   unfold cutplaneref01_Add.l0
   repeat' first
   | (with_reducible exact ih0 _ _ _ _ _)
   | (with_reducible exact ih1 _ _ _ _ _ _)
   | (with_reducible exact cutplaneref01_Trim.mono _ _)
   | (with_reducible exact LeO.refl _)
   | (with_reducible exact LeO.none _)
   | (with_reducible refine LeO.ite ?_ ?_)
   | (with_reducible refine LeO.bind ?_ (fun _ => ?_))
   | exact ih0 _ _ _ _ _
   | exact ih1 _ _ _ _ _ _
   | exact cutplaneref01_Trim.mono _ _
   | exact LeO.none _
   | refine LeO.ite ?_ ?_
   | refine LeO.bind ?_ (fun _ => ?_)
  ·intro y0 y1 y2 y3 y4 y5
   unfold cutplaneref01_Add.j1
   repeat' first
   | (with_reducible exact ih0 _ _ _ _ _)
   | (with_reducible exact ih1 _ _ _ _ _ _)
   | (with_reducible exact cutplaneref01_Trim.mono _ _)
   | (with_reducible exact LeO.refl _)
   | (with_reducible exact LeO.none _)
   | (with_reducible refine LeO.ite ?_ ?_)
   | (with_reducible refine LeO.bind ?_ (fun _ => ?_))
   | exact ih0 _ _ _ _ _
   | exact ih1 _ _ _ _ _ _
   | exact cutplaneref01_Trim.mono _ _
   | exact LeO.none _
   | refine LeO.ite ?_ ?_
   | refine LeO.bind ?_ (fun _ => ?_)
theorem cutplaneref01_Add.mono : ∀ a0 a1 k, LeO (cutplaneref01_Add.f k a0 a1) (cutplaneref01_Add.f (k + 1) a0 a1) := by
 intro a0 a1 k
 obtain ⟨ih0, ih1⟩ := cutplaneref01_Add.mono_l k
 unfold cutplaneref01_Add.f
 repeat' first
   | (with_reducible exact ih0 _ _ _ _ _)
   | (with_reducible exact ih1 _ _ _ _ _ _)
   | (with_reducible exact cutplaneref01_Trim.mono _ _)
   | (with_reducible exact LeO.refl _)
   | (with_reducible exact LeO.none _)
   | (with_reducible refine LeO.ite ?_ ?_)
   | (with_reducible refine LeO.bind ?_ (fun _ => ?_))
   | exact ih0 _ _ _ _ _
   | exact ih1 _ _ _ _ _ _
   | exact cutplaneref01_Trim.mono _ _
   | exact LeO.none _
   | refine LeO.ite ?_ ?_
   | refine LeO.bind ?_ (fun _ => ?_)
theorem cutplaneref01_Add.calls (k : Nat) (A0 : Option Addr) (c0 : Nat) (l0 : List Int) (A1 : Option Addr) (c1 : Nat) (l1 : List Int) (r : List Int) (w : World) (hr0 : Kd.C (Kd.int .u32) w A0 l0.length l0) (hc0 : l0.length ≤ c0) (hr1 : Kd.C (Kd.int .u32) w A1 l1.length l1) (hc1 : l1.length ≤ c1) (h : cutplaneref01_Add.f k l0 l1 = some r) :
  Calls Try.prog 97 #[.slice A0 l0.length c0, .slice A1 l1.length c1] w fun e w' => ∃ v0_ : Value, e = .returned (v0_) ∧ Kd.V (Kd.int .u32) 66 w' w.heap.size (fun k_ => (w.heap.size ≤ k_)) v0_ r ∧ Below w.heap.size w w' := by
 have HR0 := A0_ hr0
 have HC0 := A0_ hc0
 clear hr0 hc0
 have HR1 := A0_ hr1
 have HC1 := A0_ hc1
 clear hr1 hc1
 have HB := A0_ (Below.refl w.heap.size w)
 have H := h
 clear h
 unfold cutplaneref01_Add.f at H
 have H' := A0_ H
 clear H
 go_enter Try.func97, Try.ntmps97
 go_wp2
 go_loopg [5, 6, 7] k (fun kq v5 v6 v7 w' => ∃ (x5_1 : List Int) (x6_1 : Int) (x7_1 : Int), v6 = .int .u64 x6_1 ∧ v7 = .int .i64 x7_1 ∧ Aside0 (cutplaneref01_Add.l0 kq l0 l1 x5_1 x6_1 x7_1 = some r) ∧ Aside0 (kq ≤ k) ∧ Aside0 (Kd.R (Kd.int .u32) 66 w' w.heap.size (fun k_ => (w.heap.size ≤ k_)) v5 x5_1) ∧ Aside0 (Below w.heap.size w w'))
 case atStart => exact ⟨(([] : List Int)), (0), (0), (by first | rfl | (simp; done) | (simp [*]; done)), (by first | rfl | (simp; done) | (simp [*]; done)), H', ⟨Nat.le_refl _⟩, ⟨by first | exact Kd.R_nil _ _ _ _ _ | exact Kd.N_nil _ _ _ _ _ | exact Kd.V_nil _ _ _ _ _ | exact Kd.Q_nil _ _ _ _ _ | exact Kd.S_nil _ _ _ _ _⟩, ⟨qm_ HB.out⟩⟩
 case round =>
  clear H'
  try clear c1
  try clear p2
  obtain ⟨x5_1, x6_1, x7_1, rfl, rfl, HA, HK1, HO_5, HB⟩ := hrel
  cases gk with
  | zero => exact absurd HA.out (by simp [cutplaneref01_Add.l0])
  | succ k1 =>
   have H := HA.out
   clear HA
   simp only [cutplaneref01_Add.l0] at H
   have HC3 := A0_ H
   clear H
   go_upto_region 4 with (fail)
   go_cut [17] (fun v17 wc => ∃ (kq : Nat) (x17_2 : Bool), v17 = .bool x17_2 ∧ Aside0 (cutplaneref01_Add.j1 kq l0 l1 x5_1 x6_1 x7_1 x17_2 = some r) ∧ Aside0 (kq ≤ k1) ∧ Aside0 (Kd.R (Kd.int .u32) 66 wc w.heap.size (fun k_ => (w.heap.size ≤ k_)) u5 x5_1) ∧ Aside0 (Below w.heap.size w wc))
   case first =>
    have H := HC3.out
    clear HC3
    by_cases c4 : x7_1 < (l0.length : Int)
    ·rw [if_pos c4] at H
     have c4b0 : decide (x7_1 < (l0.length : Int)) = true := decide_eq_true c4
     clear c4
     (first | rw [c4b0] | (simp only [i64_w, i32_w]; rw [c4b0]) | skip)
     have H' := A0_ H
     clear H
     go_wp2
     go_meet
     case rel => exact ⟨_, (true), (by first | rfl | (simp; done) | (simp [*]; done)), H', ⟨by have := HK1.out; first | omega | exact Nat.le_refl _⟩, ⟨by exact rm_ HO_5.out⟩, ⟨qm_ HB.out⟩⟩
    ·rw [if_neg c4] at H
     have c4b0 : decide (x7_1 < (l0.length : Int)) = false := decide_eq_false c4
     clear c4
     (first | rw [c4b0] | (simp only [i64_w, i32_w]; rw [c4b0]) | skip)
     have H' := A0_ H
     clear H
     go_wp2
     go_meet
     case rel => exact ⟨_, (decide (x7_1 < (l1.length : Int))), (by first | rfl | (simp; done) | (simp [*]; done)), H', ⟨by have := HK1.out; first | omega | exact Nat.le_refl _⟩, ⟨by exact rm_ HO_5.out⟩, ⟨qm_ HB.out⟩⟩
   case rest =>
    clear HC3
    try clear c1
    try clear p2
    try clear c4
    try clear c4b0
    try clear p2
    obtain ⟨kq, x17_2, rfl, HA, HJ2, HO_5, HB⟩ := hcut
    cases kq with
    | zero => exact absurd HA.out (by simp [cutplaneref01_Add.j1])
    | succ kj2 =>
     have H := HA.out
     clear HA
     simp only [cutplaneref01_Add.j1] at H
     by_cases c5 : x17_2 = true
     ·subst c5
      rw [if_pos rfl] at H
      by_cases c6 : x7_1 < (l0.length : Int)
      ·rw [if_pos c6] at H
       have c6b0 : decide (x7_1 < (l0.length : Int)) = true := decide_eq_true c6
       clear c6
       obtain ⟨c7, H⟩ := ic_ H
       have c7b0 : decide (0 ≤ x7_1) = true := decide_eq_true c7
       clear c7
       by_cases c8 : x7_1 < (l1.length : Int)
       ·rw [if_pos c8] at H
        have c8b0 : decide (x7_1 < (l1.length : Int)) = true := decide_eq_true c8
        clear c8
        obtain ⟨c9, H⟩ := ic_ H
        have LMc9 := A0_ c9
        clear c9
        obtain ⟨y430, hy430⟩ : ∃ y_ : List Int, y_ = (x5_1 ++ [(IntKind.u64.wrap ((IntKind.u64.wrap (x6_1 + (IntKind.u64.wrap (rd l0 x7_1)))) + (IntKind.u64.wrap (rd l1 x7_1)))) % 4294967296]) := ⟨_, rfl⟩
        replace H : (cutplaneref01_Add.l0 kj2 l0 l1 y430 ((IntKind.u64.wrap ((IntKind.u64.wrap (x6_1 + (IntKind.u64.wrap (rd l0 x7_1)))) + (IntKind.u64.wrap (rd l1 x7_1)))) / 4294967296) (wrap64 (x7_1 + 1))) = some r := by first | (rw [hy430]; with_reducible exact H) | (have H2_ := (Option.bind_some _ _).symm.trans H; rw [hy430]; with_reducible exact H2_) | (have H2_ := (Option.bind_some _ _).symm.trans H; with_reducible exact H2_) | with_reducible exact H | (rw [hy430]; exact H) | exact H
        have Ny430 := A0_ hy430
        clear hy430
        have H' := A0_ H
        clear H
        have p428 : 0 ≤ (x7_1 : Int) := of_decide_eq_true (by first | (with_reducible assumption) | assumption)
        have q428 : x7_1 < (l0.length : Int) := of_decide_eq_true (by first | (with_reducible assumption) | assumption)
        obtain ⟨ad428, e428, hx428_0⟩ := Kd.at_int HR0.out x7_1 p428 q428
        cases e428
        replace hx428_0 := (HB.out.cell (World.block_lt_of_cell? w _ hx428_0)).trans hx428_0
        replace p428 := eq_true p428
        replace q428 := eq_true q428
        have p429 : 0 ≤ (x7_1 : Int) := of_decide_eq_true (by first | (with_reducible assumption) | assumption)
        have q429 : x7_1 < (l1.length : Int) := of_decide_eq_true (by first | (with_reducible assumption) | assumption)
        obtain ⟨ad429, e429, hx429_0⟩ := Kd.at_int HR1.out x7_1 p429 q429
        cases e429
        replace hx429_0 := (HB.out.cell (World.block_lt_of_cell? w _ hx429_0)).trans hx429_0
        replace p429 := eq_true p429
        replace q429 := eq_true q429
        go_wp2_with (first | ((with_reducible refine gate_builtin (b := .append) (xs := #[.tmp 42, .tmp 45]) rfl ?_); at_builtin; refine Kd.R_append (Kd.int .u32) (w0 := w) w.heap.size rfl (.tmp 42) (.tmp 45) 67 66 (.int .u32 0) 4 rfl Try.underlying67 info66 rfl (by decide) (by omega) u5 x5_1 ((IntKind.u64.wrap ((IntKind.u64.wrap (x6_1 + (IntKind.u64.wrap (rd l0 x7_1)))) + (IntKind.u64.wrap (rd l1 x7_1)))) % 4294967296) [.int .u32 ((IntKind.u64.wrap ((IntKind.u64.wrap (x6_1 + (IntKind.u64.wrap (rd l0 x7_1)))) + (IntKind.u64.wrap (rd l1 x7_1)))) % 4294967296)] (fun k_ => (w.heap.size ≤ k_)) (fun _ => False) rfl rfl ?aP (fun _ hk => hk.elim) ?aF ?aO ?aB ?aS ?aL ?_; (case aP => exact rfl); (case aB => exact (qm_ HB.out)); (case aF => exact (fun k_ hk => (Nat.le_trans (below_size (qm_ HB.out)) hk))); (case aO => exact (by exact rm_ HO_5.out)); (case aS => exact (below_size (qm_ HB.out))); (case aL => have := LMc9.out; omega); intro v431 w10 ho hb hg hat; rw [← Ny430.out] at ho; replace HB := A0_ (hb); have HO432 := A0_ (ho); clear HO_5 ho hb hg hat))
        go_roundg kj2
        case measure => have := HK1.out; have := HJ2.out; omega
        case rel => exact ⟨(y430), ((IntKind.u64.wrap ((IntKind.u64.wrap (x6_1 + (IntKind.u64.wrap (rd l0 x7_1)))) + (IntKind.u64.wrap (rd l1 x7_1)))) / 4294967296), (wrap64 (x7_1 + 1)), (by first | rfl | (simp; done) | (simp [*]; done)), (by first | rfl | (simp; done) | (simp [*]; done)), H', ⟨by have := HK1.out; have := HJ2.out; omega⟩, ⟨by exact rm_ HO432.out⟩, ⟨qm_ HB.out⟩⟩
       ·rw [if_neg c8] at H
        have c8b0 : decide (x7_1 < (l1.length : Int)) = false := decide_eq_false c8
        clear c8
        obtain ⟨c11, H⟩ := ic_ H
        have LMc11 := A0_ c11
        clear c11
        obtain ⟨y433, hy433⟩ : ∃ y_ : List Int, y_ = (x5_1 ++ [(IntKind.u64.wrap (x6_1 + (IntKind.u64.wrap (rd l0 x7_1)))) % 4294967296]) := ⟨_, rfl⟩
        replace H : (cutplaneref01_Add.l0 kj2 l0 l1 y433 ((IntKind.u64.wrap (x6_1 + (IntKind.u64.wrap (rd l0 x7_1)))) / 4294967296) (wrap64 (x7_1 + 1))) = some r := by first | (rw [hy433]; with_reducible exact H) | (have H2_ := (Option.bind_some _ _).symm.trans H; rw [hy433]; with_reducible exact H2_) | (have H2_ := (Option.bind_some _ _).symm.trans H; with_reducible exact H2_) | with_reducible exact H | (rw [hy433]; exact H) | exact H
        have Ny433 := A0_ hy433
        clear hy433
        have H' := A0_ H
        clear H
        have p428 : 0 ≤ (x7_1 : Int) := of_decide_eq_true (by first | (with_reducible assumption) | assumption)
        have q428 : x7_1 < (l0.length : Int) := of_decide_eq_true (by first | (with_reducible assumption) | assumption)
        obtain ⟨ad428, e428, hx428_0⟩ := Kd.at_int HR0.out x7_1 p428 q428
        cases e428
        replace hx428_0 := (HB.out.cell (World.block_lt_of_cell? w _ hx428_0)).trans hx428_0
        replace p428 := eq_true p428
        replace q428 := eq_true q428
        go_wp2_with (first | ((with_reducible refine gate_builtin (b := .append) (xs := #[.tmp 42, .tmp 45]) rfl ?_); at_builtin; refine Kd.R_append (Kd.int .u32) (w0 := w) w.heap.size rfl (.tmp 42) (.tmp 45) 67 66 (.int .u32 0) 4 rfl Try.underlying67 info66 rfl (by decide) (by omega) u5 x5_1 ((IntKind.u64.wrap (x6_1 + (IntKind.u64.wrap (rd l0 x7_1)))) % 4294967296) [.int .u32 ((IntKind.u64.wrap (x6_1 + (IntKind.u64.wrap (rd l0 x7_1)))) % 4294967296)] (fun k_ => (w.heap.size ≤ k_)) (fun _ => False) rfl rfl ?aP (fun _ hk => hk.elim) ?aF ?aO ?aB ?aS ?aL ?_; (case aP => exact rfl); (case aB => exact (qm_ HB.out)); (case aF => exact (fun k_ hk => (Nat.le_trans (below_size (qm_ HB.out)) hk))); (case aO => exact (by exact rm_ HO_5.out)); (case aS => exact (below_size (qm_ HB.out))); (case aL => have := LMc11.out; omega); intro v434 w12 ho hb hg hat; rw [← Ny433.out] at ho; replace HB := A0_ (hb); have HO435 := A0_ (ho); clear HO_5 ho hb hg hat))
        go_roundg kj2
        case measure => have := HK1.out; have := HJ2.out; omega
        case rel => exact ⟨(y433), ((IntKind.u64.wrap (x6_1 + (IntKind.u64.wrap (rd l0 x7_1)))) / 4294967296), (wrap64 (x7_1 + 1)), (by first | rfl | (simp; done) | (simp [*]; done)), (by first | rfl | (simp; done) | (simp [*]; done)), H', ⟨by have := HK1.out; have := HJ2.out; omega⟩, ⟨by exact rm_ HO435.out⟩, ⟨qm_ HB.out⟩⟩
      ·rw [if_neg c6] at H
       have c6b0 : decide (x7_1 < (l0.length : Int)) = false := decide_eq_false c6
       clear c6
       by_cases c13 : x7_1 < (l1.length : Int)
       ·rw [if_pos c13] at H
        have c13b0 : decide (x7_1 < (l1.length : Int)) = true := decide_eq_true c13
        clear c13
        obtain ⟨c14, H⟩ := ic_ H
        have c14b0 : decide (0 ≤ x7_1) = true := decide_eq_true c14
        clear c14
        obtain ⟨c15, H⟩ := ic_ H
        have LMc15 := A0_ c15
        clear c15
        obtain ⟨y437, hy437⟩ : ∃ y_ : List Int, y_ = (x5_1 ++ [(IntKind.u64.wrap (x6_1 + (IntKind.u64.wrap (rd l1 x7_1)))) % 4294967296]) := ⟨_, rfl⟩
        replace H : (cutplaneref01_Add.l0 kj2 l0 l1 y437 ((IntKind.u64.wrap (x6_1 + (IntKind.u64.wrap (rd l1 x7_1)))) / 4294967296) (wrap64 (x7_1 + 1))) = some r := by first | (rw [hy437]; with_reducible exact H) | (have H2_ := (Option.bind_some _ _).symm.trans H; rw [hy437]; with_reducible exact H2_) | (have H2_ := (Option.bind_some _ _).symm.trans H; with_reducible exact H2_) | with_reducible exact H | (rw [hy437]; exact H) | exact H
        have Ny437 := A0_ hy437
        clear hy437
        have H' := A0_ H
        clear H
        have p436 : 0 ≤ (x7_1 : Int) := of_decide_eq_true (by first | (with_reducible assumption) | assumption)
        have q436 : x7_1 < (l1.length : Int) := of_decide_eq_true (by first | (with_reducible assumption) | assumption)
        obtain ⟨ad436, e436, hx436_0⟩ := Kd.at_int HR1.out x7_1 p436 q436
        cases e436
        replace hx436_0 := (HB.out.cell (World.block_lt_of_cell? w _ hx436_0)).trans hx436_0
        replace p436 := eq_true p436
        replace q436 := eq_true q436
        go_wp2_with (first | ((with_reducible refine gate_builtin (b := .append) (xs := #[.tmp 42, .tmp 45]) rfl ?_); at_builtin; refine Kd.R_append (Kd.int .u32) (w0 := w) w.heap.size rfl (.tmp 42) (.tmp 45) 67 66 (.int .u32 0) 4 rfl Try.underlying67 info66 rfl (by decide) (by omega) u5 x5_1 ((IntKind.u64.wrap (x6_1 + (IntKind.u64.wrap (rd l1 x7_1)))) % 4294967296) [.int .u32 ((IntKind.u64.wrap (x6_1 + (IntKind.u64.wrap (rd l1 x7_1)))) % 4294967296)] (fun k_ => (w.heap.size ≤ k_)) (fun _ => False) rfl rfl ?aP (fun _ hk => hk.elim) ?aF ?aO ?aB ?aS ?aL ?_; (case aP => exact rfl); (case aB => exact (qm_ HB.out)); (case aF => exact (fun k_ hk => (Nat.le_trans (below_size (qm_ HB.out)) hk))); (case aO => exact (by exact rm_ HO_5.out)); (case aS => exact (below_size (qm_ HB.out))); (case aL => have := LMc15.out; omega); intro v438 w16 ho hb hg hat; rw [← Ny437.out] at ho; replace HB := A0_ (hb); have HO439 := A0_ (ho); clear HO_5 ho hb hg hat))
        go_roundg kj2
        case measure => have := HK1.out; have := HJ2.out; omega
        case rel => exact ⟨(y437), ((IntKind.u64.wrap (x6_1 + (IntKind.u64.wrap (rd l1 x7_1)))) / 4294967296), (wrap64 (x7_1 + 1)), (by first | rfl | (simp; done) | (simp [*]; done)), (by first | rfl | (simp; done) | (simp [*]; done)), H', ⟨by have := HK1.out; have := HJ2.out; omega⟩, ⟨by exact rm_ HO439.out⟩, ⟨qm_ HB.out⟩⟩
       ·rw [if_neg c13] at H
        have c13b0 : decide (x7_1 < (l1.length : Int)) = false := decide_eq_false c13
        clear c13
        obtain ⟨c17, H⟩ := ic_ H
        have LMc17 := A0_ c17
        clear c17
        obtain ⟨y440, hy440⟩ : ∃ y_ : List Int, y_ = (x5_1 ++ [(x6_1) % 4294967296]) := ⟨_, rfl⟩
        replace H : (cutplaneref01_Add.l0 kj2 l0 l1 y440 (x6_1 / 4294967296) (wrap64 (x7_1 + 1))) = some r := by first | (rw [hy440]; with_reducible exact H) | (have H2_ := (Option.bind_some _ _).symm.trans H; rw [hy440]; with_reducible exact H2_) | (have H2_ := (Option.bind_some _ _).symm.trans H; with_reducible exact H2_) | with_reducible exact H | (rw [hy440]; exact H) | exact H
        have Ny440 := A0_ hy440
        clear hy440
        have H' := A0_ H
        clear H
        go_wp2_with (first | ((with_reducible refine gate_builtin (b := .append) (xs := #[.tmp 42, .tmp 45]) rfl ?_); at_builtin; refine Kd.R_append (Kd.int .u32) (w0 := w) w.heap.size rfl (.tmp 42) (.tmp 45) 67 66 (.int .u32 0) 4 rfl Try.underlying67 info66 rfl (by decide) (by omega) u5 x5_1 ((x6_1) % 4294967296) [.int .u32 ((x6_1) % 4294967296)] (fun k_ => (w.heap.size ≤ k_)) (fun _ => False) rfl rfl ?aP (fun _ hk => hk.elim) ?aF ?aO ?aB ?aS ?aL ?_; (case aP => exact rfl); (case aB => exact (qm_ HB.out)); (case aF => exact (fun k_ hk => (Nat.le_trans (below_size (qm_ HB.out)) hk))); (case aO => exact (by exact rm_ HO_5.out)); (case aS => exact (below_size (qm_ HB.out))); (case aL => have := LMc17.out; omega); intro v441 w18 ho hb hg hat; rw [← Ny440.out] at ho; replace HB := A0_ (hb); have HO442 := A0_ (ho); clear HO_5 ho hb hg hat))
        go_roundg kj2
        case measure => have := HK1.out; have := HJ2.out; omega
        case rel => exact ⟨(y440), (x6_1 / 4294967296), (wrap64 (x7_1 + 1)), (by first | rfl | (simp; done) | (simp [*]; done)), (by first | rfl | (simp; done) | (simp [*]; done)), H', ⟨by have := HK1.out; have := HJ2.out; omega⟩, ⟨by exact rm_ HO442.out⟩, ⟨qm_ HB.out⟩⟩
     ·replace c5 := Bool.eq_false_iff.mpr c5
      subst c5
      rw [if_neg (show ¬ (false = true) by decide)] at H
      obtain ⟨c19, H⟩ := ic_ H
      have LMc19 := A0_ c19
      clear c19
      obtain ⟨y422, hy422⟩ : ∃ y_ : List Int, y_ = (x5_1 ++ [(x6_1) % 4294967296]) := ⟨_, rfl⟩
      replace H : ((cutplaneref01_Trim.f kj2 y422).bind fun t425 => (some t425)) = some r := by first | (rw [hy422]; with_reducible exact H) | (have H2_ := (Option.bind_some _ _).symm.trans H; rw [hy422]; with_reducible exact H2_) | (have H2_ := (Option.bind_some _ _).symm.trans H; with_reducible exact H2_) | with_reducible exact H | (rw [hy422]; exact H) | exact H
      have Ny422 := A0_ hy422
      clear hy422
      obtain ⟨t425, A20, H⟩ := bs_ H
      try dsimp -simprocs only at H
      obtain rfl := Option.some.inj H
      go_wp2_with (first | ((with_reducible refine gate_builtin (b := .append) (xs := #[.tmp 49, .tmp 52]) rfl ?_); at_builtin; refine Kd.R_append (Kd.int .u32) (w0 := w) w.heap.size rfl (.tmp 49) (.tmp 52) 67 66 (.int .u32 0) 4 rfl Try.underlying67 info66 rfl (by decide) (by omega) u5 x5_1 ((x6_1) % 4294967296) [.int .u32 ((x6_1) % 4294967296)] (fun k_ => (w.heap.size ≤ k_)) (fun _ => False) rfl rfl ?aP (fun _ hk => hk.elim) ?aF ?aO ?aB ?aS ?aL ?_; (case aP => exact rfl); (case aB => exact (qm_ HB.out)); (case aF => exact (fun k_ hk => (Nat.le_trans (below_size (qm_ HB.out)) hk))); (case aO => exact (by exact rm_ HO_5.out)); (case aS => exact (below_size (qm_ HB.out))); (case aL => have := LMc19.out; omega); intro v423 w21 ho hb hg hat; rw [← Ny422.out] at ho; replace HB := A0_ (hb); have HO424 := A0_ (ho); clear HO_5 ho hb hg hat; obtain ⟨Ao22, co22, eo22⟩ := Kd.R_slice HO424.out; subst eo22) | ((with_reducible refine gate_callee (f := 110) rfl ?_); refine goesL_ (some 54) rfl rfl Try.func110 (by kernel_rfl) rfl #[.slice Ao22 y422.length co22] rfl (am_ rfl) ?_; (with_reducible refine (cutplaneref01_Trim.calls kj2 (fun k_ => some k_ = (.slice Ao22 y422.length co22 : Value).ownBlock) _ _ y422 t425 _ ?side1 A20.out).mono ?_); (case side1 => exact Kd.R_V (Kd.R_tight rfl (HO424.out))); rintro e w23 ⟨v426, rfl, ho0, hb⟩; refine ⟨_, rfl, ?_⟩; have HO427 := A0_ (Kd.V_lower (Kd.V_mono (ok' := fun k_ => (w.heap.size ≤ k_)) ho0 (fun k_ hk_ => Or.elim hk_ (fun hs_ => ((HO424.out).1 k_ hs_.symm)) (fun hn_ => (Nat.le_trans (below_size (qm_ HB.out)) hn_)))) (below_size (qm_ HB.out))); replace HO424 := A0_ (Kd.R_below (by exact rm_ HO424.out) hb); replace HB := hs_ hb; (try clear hb); (try clear ho0)))
      go_ret
      exact ⟨_, by first | rfl | (simp [errW_none, errW_some] <;> rfl) | (simp [*, errW_none, errW_some] <;> rfl), by (with_reducible repeat (first | apply Kd.V_alloc | apply Kd.V_drewN | apply Kd.V_drew)); exact HO427.out, qm_ HB.out⟩
end Go.Proofs.Ytlgapmhjaaajfaa.PA
end

section
namespace Go.Proofs.Ytlgapmhjaaajfaa.PA
open Go.RowKit Go.Proofs.YtlgapmhjaaajfaaW.PrintWords Go.Proofs.YtlgapmhjaaajfaaW.PrintLast Go.Proofs.YtlgapmhjaaajfaaW.PrintMore
attribute [local go_sem] max2_int min2_int max_two min_two max_three min_three max_four min_four   -- for this text's walks alone
set_option linter.unusedVariables false
set_option linter.unusedSimpArgs false
def cutplaneref01_Cmp.l0 : Nat → List Int → List Int → Int → Option (Int)
 | 0, _, _, _ => none
 | k + 1, x0, x1, x5 => if x5 ≥ 0 then (if 0 ≤ x5 then (if x5 < (x0.length : Int) then (if x5 < (x1.length : Int) then (if (rd x0 x5) < (rd x1 x5) then (some (-1)) else (if (rd x0 x5) > (rd x1 x5) then (some 1) else (cutplaneref01_Cmp.l0 k x0 x1 (wrap64 (x5 - 1))))) else (none)) else (none)) else (none)) else (some 0)
def cutplaneref01_Cmp.f (k : Nat) (l0 : List Int) (l1 : List Int) : Option (Int) := if (l0.length : Int) = (l1.length : Int) then (cutplaneref01_Cmp.l0 k l0 l1 (wrap64 ((l0.length : Int) - 1))) else (if (l0.length : Int) < (l1.length : Int) then (some (-1)) else (some 1))
theorem cutplaneref01_Cmp.mono_l : ∀ k, (∀ y0 y1 y2, LeO (cutplaneref01_Cmp.l0 k y0 y1 y2) (cutplaneref01_Cmp.l0 (k + 1) y0 y1 y2))
 | 0 => fun _ _ _ r h => by simp [cutplaneref01_Cmp.l0] at h
 | k + 1 => by
  have ih0 := cutplaneref01_Cmp.mono_l k
  ·intro y0 y1 y2
   unfold cutplaneref01_Cmp.l0
   repeat' first
   | (with_reducible exact ih0 _ _ _)
   | (with_reducible exact LeO.refl _)
   | (with_reducible exact LeO.none _)
   | (with_reducible refine LeO.ite ?_ ?_)
   | (with_reducible refine LeO.bind ?_ (fun _ => ?_))
   | exact ih0 _ _ _
   | exact LeO.none _
   | refine LeO.ite ?_ ?_
   | refine LeO.bind ?_ (fun _ => ?_)
theorem cutplaneref01_Cmp.mono : ∀ a0 a1 k, LeO (cutplaneref01_Cmp.f k a0 a1) (cutplaneref01_Cmp.f (k + 1) a0 a1) := by
 intro a0 a1 k
 have ih0 := cutplaneref01_Cmp.mono_l k
 unfold cutplaneref01_Cmp.f
 repeat' first
   | (with_reducible exact ih0 _ _ _)
   | (with_reducible exact LeO.refl _)
   | (with_reducible exact LeO.none _)
   | (with_reducible refine LeO.ite ?_ ?_)
   | (with_reducible refine LeO.bind ?_ (fun _ => ?_))
   | exact ih0 _ _ _
   | exact LeO.none _
   | refine LeO.ite ?_ ?_
   | refine LeO.bind ?_ (fun _ => ?_)
theorem cutplaneref01_Cmp.calls (k : Nat) (A0 : Option Addr) (c0 : Nat) (l0 : List Int) (A1 : Option Addr) (c1 : Nat) (l1 : List Int) (r : Int) (w : World) (hr0 : Kd.C (Kd.int .u32) w A0 l0.length l0) (hc0 : l0.length ≤ c0) (hr1 : Kd.C (Kd.int .u32) w A1 l1.length l1) (hc1 : l1.length ≤ c1) (h : cutplaneref01_Cmp.f k l0 l1 = some r) :
  Calls Try.prog 98 #[.slice A0 l0.length c0, .slice A1 l1.length c1] w fun e w' => e = .returned (.int .i64 r) ∧ Drawn0 w w' := by
 have HR0 := A0_ hr0
 have HC0 := A0_ hc0
 clear hr0 hc0
 have HR1 := A0_ hr1
 have HC1 := A0_ hc1
 clear hr1 hc1
 have H := h
 clear h
 unfold cutplaneref01_Cmp.f at H
 by_cases c3 : (l0.length : Int) = (l1.length : Int)
 ·rw [if_pos c3] at H
  have c3b0 : ((l0.length : Int) == (l1.length : Int)) = true := beq_iff_eq.mpr c3
  have c3b1 : ((l0.length : Int) != (l1.length : Int)) = false := bne_eq_false_iff_eq.mpr c3
  have c3b2 : (l0.length == l1.length) = true := by first | simpa using c3 | (simp at c3 ⊢; omega)
  clear c3
  have H' := A0_ H
  clear H
  go_enter Try.func98, Try.ntmps98
  go_wp2
  repeat (go_quiet (fail); try go_wp2)
  go_loopg [5] k (fun kq v5 w' => ∃ (x5_1 : Int), v5 = .int .i64 x5_1 ∧ Aside0 (cutplaneref01_Cmp.l0 kq l0 l1 x5_1 = some r) ∧ Aside0 (kq ≤ k) ∧ Drawn0 w w')
  case atStart => exact ⟨(wrap64 ((l0.length : Int) - 1)), (by first | rfl | (simp; done) | (simp [*]; done)), H', ⟨Nat.le_refl _⟩, by repeat (first | exact Drawn0.refl _ | apply Drawn0.step)⟩
  case round =>
   clear H'
   try clear c1
   try clear p2
   try clear c3
   try clear c3b0
   try clear c3b1
   try clear c3b2
   obtain ⟨x5_1, rfl, HA, HK1, ⟨m1, rfl⟩⟩ := hrel
   cases gk with
   | zero => exact absurd HA.out (by simp [cutplaneref01_Cmp.l0])
   | succ k1 =>
    have H := HA.out
    clear HA
    simp only [cutplaneref01_Cmp.l0] at H
    by_cases c4 : x5_1 ≥ 0
    ·rw [if_pos c4] at H
     have c4b0 : decide (0 ≤ x5_1) = true := decide_eq_true c4
     clear c4
     obtain ⟨c5, H⟩ := ic_ H
     have c5b0 : decide (0 ≤ x5_1) = true := decide_eq_true c5
     clear c5
     obtain ⟨c6, H⟩ := ic_ H
     have c6b0 : decide (x5_1 < (l0.length : Int)) = true := decide_eq_true c6
     clear c6
     obtain ⟨c7, H⟩ := ic_ H
     have c7b0 : decide (x5_1 < (l1.length : Int)) = true := decide_eq_true c7
     clear c7
     by_cases c8 : (rd l0 x5_1) < (rd l1 x5_1)
     ·rw [if_pos c8] at H
      have c8b0 : decide ((rd l0 x5_1) < (rd l1 x5_1)) = true := decide_eq_true c8
      clear c8
      obtain rfl := Option.some.inj H
      have p443 : 0 ≤ (x5_1 : Int) := of_decide_eq_true (by first | (with_reducible assumption) | assumption)
      have q443 : x5_1 < (l0.length : Int) := of_decide_eq_true (by first | (with_reducible assumption) | assumption)
      obtain ⟨ad443, e443, hx443_0⟩ := Kd.at_int HR0.out x5_1 p443 q443
      cases e443
      replace p443 := eq_true p443
      replace q443 := eq_true q443
      have p444 : 0 ≤ (x5_1 : Int) := of_decide_eq_true (by first | (with_reducible assumption) | assumption)
      have q444 : x5_1 < (l1.length : Int) := of_decide_eq_true (by first | (with_reducible assumption) | assumption)
      obtain ⟨ad444, e444, hx444_0⟩ := Kd.at_int HR1.out x5_1 p444 q444
      cases e444
      replace p444 := eq_true p444
      replace q444 := eq_true q444
      go_wp2
      repeat (go_quiet (fail); try go_wp2)
      go_ret
      exact ⟨by first | rfl | (simp; done) | (simp [*]; done), by repeat (first | exact Drawn0.refl _ | apply Drawn0.step)⟩
     ·rw [if_neg c8] at H
      have c8b0 : decide ((rd l0 x5_1) < (rd l1 x5_1)) = false := decide_eq_false c8
      clear c8
      by_cases c9 : (rd l0 x5_1) > (rd l1 x5_1)
      ·rw [if_pos c9] at H
       have c9b0 : decide ((rd l1 x5_1) < (rd l0 x5_1)) = true := decide_eq_true c9
       clear c9
       obtain rfl := Option.some.inj H
       have p443 : 0 ≤ (x5_1 : Int) := of_decide_eq_true (by first | (with_reducible assumption) | assumption)
       have q443 : x5_1 < (l0.length : Int) := of_decide_eq_true (by first | (with_reducible assumption) | assumption)
       obtain ⟨ad443, e443, hx443_0⟩ := Kd.at_int HR0.out x5_1 p443 q443
       cases e443
       replace p443 := eq_true p443
       replace q443 := eq_true q443
       have p444 : 0 ≤ (x5_1 : Int) := of_decide_eq_true (by first | (with_reducible assumption) | assumption)
       have q444 : x5_1 < (l1.length : Int) := of_decide_eq_true (by first | (with_reducible assumption) | assumption)
       obtain ⟨ad444, e444, hx444_0⟩ := Kd.at_int HR1.out x5_1 p444 q444
       cases e444
       replace p444 := eq_true p444
       replace q444 := eq_true q444
       have p445 : 0 ≤ (x5_1 : Int) := of_decide_eq_true (by first | (with_reducible assumption) | assumption)
       have q445 : x5_1 < (l0.length : Int) := of_decide_eq_true (by first | (with_reducible assumption) | assumption)
       obtain ⟨ad445, e445, hx445_0⟩ := Kd.at_int HR0.out x5_1 p445 q445
       obtain rfl : ad443 = ad445 := (by injection e445)
       replace p445 := eq_true p445
       replace q445 := eq_true q445
       have p446 : 0 ≤ (x5_1 : Int) := of_decide_eq_true (by first | (with_reducible assumption) | assumption)
       have q446 : x5_1 < (l1.length : Int) := of_decide_eq_true (by first | (with_reducible assumption) | assumption)
       obtain ⟨ad446, e446, hx446_0⟩ := Kd.at_int HR1.out x5_1 p446 q446
       obtain rfl : ad444 = ad446 := (by injection e446)
       replace p446 := eq_true p446
       replace q446 := eq_true q446
       go_wp2
       repeat (go_quiet (fail); try go_wp2)
       go_ret
       exact ⟨by first | rfl | (simp; done) | (simp [*]; done), by repeat (first | exact Drawn0.refl _ | apply Drawn0.step)⟩
      ·rw [if_neg c9] at H
       have c9b0 : decide ((rd l1 x5_1) < (rd l0 x5_1)) = false := decide_eq_false c9
       clear c9
       have H' := A0_ H
       clear H
       have p443 : 0 ≤ (x5_1 : Int) := of_decide_eq_true (by first | (with_reducible assumption) | assumption)
       have q443 : x5_1 < (l0.length : Int) := of_decide_eq_true (by first | (with_reducible assumption) | assumption)
       obtain ⟨ad443, e443, hx443_0⟩ := Kd.at_int HR0.out x5_1 p443 q443
       cases e443
       replace p443 := eq_true p443
       replace q443 := eq_true q443
       have p444 : 0 ≤ (x5_1 : Int) := of_decide_eq_true (by first | (with_reducible assumption) | assumption)
       have q444 : x5_1 < (l1.length : Int) := of_decide_eq_true (by first | (with_reducible assumption) | assumption)
       obtain ⟨ad444, e444, hx444_0⟩ := Kd.at_int HR1.out x5_1 p444 q444
       cases e444
       replace p444 := eq_true p444
       replace q444 := eq_true q444
       have p445 : 0 ≤ (x5_1 : Int) := of_decide_eq_true (by first | (with_reducible assumption) | assumption)
       have q445 : x5_1 < (l0.length : Int) := of_decide_eq_true (by first | (with_reducible assumption) | assumption)
       obtain ⟨ad445, e445, hx445_0⟩ := Kd.at_int HR0.out x5_1 p445 q445
       obtain rfl : ad443 = ad445 := (by injection e445)
       replace p445 := eq_true p445
       replace q445 := eq_true q445
       have p446 : 0 ≤ (x5_1 : Int) := of_decide_eq_true (by first | (with_reducible assumption) | assumption)
       have q446 : x5_1 < (l1.length : Int) := of_decide_eq_true (by first | (with_reducible assumption) | assumption)
       obtain ⟨ad446, e446, hx446_0⟩ := Kd.at_int HR1.out x5_1 p446 q446
       obtain rfl : ad444 = ad446 := (by injection e446)
       replace p446 := eq_true p446
       replace q446 := eq_true q446
       go_wp2
       repeat (go_quiet (fail); try go_wp2)
       go_roundg k1
       case measure => have := HK1.out; omega
       case rel => exact ⟨(wrap64 (x5_1 - 1)), (by first | rfl | (simp; done) | (simp [*]; done)), H', ⟨by have := HK1.out; omega⟩, by repeat (first | exact Drawn0.refl _ | apply Drawn0.step)⟩
    ·rw [if_neg c4] at H
     have c4b0 : decide (0 ≤ x5_1) = false := decide_eq_false c4
     clear c4
     obtain rfl := Option.some.inj H
     go_wp2
     repeat (go_quiet (fail); try go_wp2)
     go_ret
     exact ⟨by first | rfl | (simp; done) | (simp [*]; done), by repeat (first | exact Drawn0.refl _ | apply Drawn0.step)⟩
 ·rw [if_neg c3] at H
  have c3b0 : ((l0.length : Int) == (l1.length : Int)) = false := beq_eq_false_iff_ne.mpr c3
  have c3b1 : ((l0.length : Int) != (l1.length : Int)) = true := bne_iff_ne.mpr c3
  have c3b2 : (l0.length == l1.length) = false := by first | simpa using c3 | (simp at c3 ⊢; omega)
  by_cases c10 : (l0.length : Int) < (l1.length : Int)
  ·rw [if_pos c10] at H
   have c10b0 : decide ((l0.length : Int) < (l1.length : Int)) = true := decide_eq_true c10
   have c10b1 : decide (l0.length < l1.length) = true := decide_eq_true (Int.ofNat_lt.mp c10)
   clear c10
   obtain rfl := Option.some.inj H
   go_enter Try.func98, Try.ntmps98
   go_wp2
   repeat (go_quiet (fail); try go_wp2)
   go_ret
   exact ⟨by first | rfl | (simp; done) | (simp [*]; done), by repeat (first | exact Drawn0.refl _ | apply Drawn0.step)⟩
  ·rw [if_neg c10] at H
   have c10b0 : decide ((l0.length : Int) < (l1.length : Int)) = false := decide_eq_false c10
   have c10b1 : decide (l0.length < l1.length) = false := decide_eq_false (fun h => c10 (Int.ofNat_lt.mpr h))
   clear c10
   obtain rfl := Option.some.inj H
   go_enter Try.func98, Try.ntmps98
   go_wp2
   repeat (go_quiet (fail); try go_wp2)
   go_ret
   exact ⟨by first | rfl | (simp; done) | (simp [*]; done), by repeat (first | exact Drawn0.refl _ | apply Drawn0.step)⟩
end Go.Proofs.Ytlgapmhjaaajfaa.PA
end

section
namespace Go.Proofs.Ytlgapmhjaaajfaa.PA
open Go.RowKit Go.Proofs.YtlgapmhjaaajfaaW.PrintWords Go.Proofs.YtlgapmhjaaajfaaW.PrintLast Go.Proofs.YtlgapmhjaaajfaaW.PrintMore
attribute [local go_sem] max2_int min2_int max_two min_two max_three min_three max_four min_four   -- for this text's walks alone
set_option linter.unusedVariables false
set_option linter.unusedSimpArgs false
def cutplaneref01_Sub.l0 : Nat → List Int → List Int → List Int → Int → Int → Option (List Int)
 | 0, _, _, _, _, _ => none
 | k + 1, x0, x1, x5, x6, x7 => if x7 < (x0.length : Int) then (if x7 < (x1.length : Int) then (if 0 ≤ x7 then (if (IntKind.u64.wrap (rd x0 x7)) < (IntKind.u64.wrap (x6 + (IntKind.u64.wrap (rd x1 x7)))) then (if x5.length < 35184372088832 then (cutplaneref01_Sub.l0 k x0 x1 (x5 ++ [(IntKind.u64.wrap ((IntKind.u64.wrap ((IntKind.u64.wrap (rd x0 x7)) + 4294967296)) - (IntKind.u64.wrap (x6 + (IntKind.u64.wrap (rd x1 x7)))))) % 4294967296]) 1 (wrap64 (x7 + 1))) else (none)) else (if x5.length < 35184372088832 then (cutplaneref01_Sub.l0 k x0 x1 (x5 ++ [(IntKind.u64.wrap ((IntKind.u64.wrap (rd x0 x7)) - (IntKind.u64.wrap (x6 + (IntKind.u64.wrap (rd x1 x7)))))) % 4294967296]) 0 (wrap64 (x7 + 1))) else (none))) else (none)) else (if 0 ≤ x7 then (if (IntKind.u64.wrap (rd x0 x7)) < x6 then (if x5.length < 35184372088832 then (cutplaneref01_Sub.l0 k x0 x1 (x5 ++ [(IntKind.u64.wrap ((IntKind.u64.wrap ((IntKind.u64.wrap (rd x0 x7)) + 4294967296)) - x6)) % 4294967296]) 1 (wrap64 (x7 + 1))) else (none)) else (if x5.length < 35184372088832 then (cutplaneref01_Sub.l0 k x0 x1 (x5 ++ [(IntKind.u64.wrap ((IntKind.u64.wrap (rd x0 x7)) - x6)) % 4294967296]) 0 (wrap64 (x7 + 1))) else (none))) else (none))) else ((cutplaneref01_Trim.f k x5).bind fun t447 => (some t447))
def cutplaneref01_Sub.f (k : Nat) (l0 : List Int) (l1 : List Int) : Option (List Int) := cutplaneref01_Sub.l0 k l0 l1 ([] : List Int) 0 0
theorem cutplaneref01_Sub.mono_l : ∀ k, (∀ y0 y1 y2 y3 y4, LeO (cutplaneref01_Sub.l0 k y0 y1 y2 y3 y4) (cutplaneref01_Sub.l0 (k + 1) y0 y1 y2 y3 y4))
 | 0 => fun _ _ _ _ _ r h => by simp [cutplaneref01_Sub.l0] at h
 | k + 1 => by
  have ih0 := cutplaneref01_Sub.mono_l k
  ·intro y0 y1 y2 y3 y4
   unfold cutplaneref01_Sub.l0
   repeat' first
   | (with_reducible exact ih0 _ _ _ _ _)
   | (with_reducible exact cutplaneref01_Trim.mono _ _)
   | (with_reducible exact LeO.refl _)
   | (with_reducible exact LeO.none _)
   | (with_reducible refine LeO.ite ?_ ?_)
   | (with_reducible refine LeO.bind ?_ (fun _ => ?_))
   | exact ih0 _ _ _ _ _
   | exact cutplaneref01_Trim.mono _ _
   | exact LeO.none _
   | refine LeO.ite ?_ ?_
   | refine LeO.bind ?_ (fun _ => ?_)
theorem cutplaneref01_Sub.mono : ∀ a0 a1 k, LeO (cutplaneref01_Sub.f k a0 a1) (cutplaneref01_Sub.f (k + 1) a0 a1) := by
 intro a0 a1 k
 have ih0 := cutplaneref01_Sub.mono_l k
 unfold cutplaneref01_Sub.f
 repeat' first
   | (with_reducible exact ih0 _ _ _ _ _)
   | (with_reducible exact cutplaneref01_Trim.mono _ _)
   | (with_reducible exact LeO.refl _)
   | (with_reducible exact LeO.none _)
   | (with_reducible refine LeO.ite ?_ ?_)
   | (with_reducible refine LeO.bind ?_ (fun _ => ?_))
   | exact ih0 _ _ _ _ _
   | exact cutplaneref01_Trim.mono _ _
   | exact LeO.none _
   | refine LeO.ite ?_ ?_
   | refine LeO.bind ?_ (fun _ => ?_)
theorem cutplaneref01_Sub.calls (k : Nat) (A0 : Option Addr) (c0 : Nat) (l0 : List Int) (A1 : Option Addr) (c1 : Nat) (l1 : List Int) (r : List Int) (w : World) (hr0 : Kd.C (Kd.int .u32) w A0 l0.length l0) (hc0 : l0.length ≤ c0) (hr1 : Kd.C (Kd.int .u32) w A1 l1.length l1) (hc1 : l1.length ≤ c1) (h : cutplaneref01_Sub.f k l0 l1 = some r) :
  Calls Try.prog 99 #[.slice A0 l0.length c0, .slice A1 l1.length c1] w fun e w' => ∃ v0_ : Value, e = .returned (v0_) ∧ Kd.V (Kd.int .u32) 66 w' w.heap.size (fun k_ => (w.heap.size ≤ k_)) v0_ r ∧ Below w.heap.size w w' := by
 have HR0 := A0_ hr0
 have HC0 := A0_ hc0
 clear hr0 hc0
 have HR1 := A0_ hr1
 have HC1 := A0_ hc1
 clear hr1 hc1
 have HB := A0_ (Below.refl w.heap.size w)
 have H := h
 clear h
 unfold cutplaneref01_Sub.f at H
 have H' := A0_ H
 clear H
 go_enter Try.func99, Try.ntmps99
 go_wp2
 go_loopg [5, 6, 7] k (fun kq v5 v6 v7 w' => ∃ (x5_1 : List Int) (x6_1 : Int) (x7_1 : Int), v6 = .int .u64 x6_1 ∧ v7 = .int .i64 x7_1 ∧ Aside0 (cutplaneref01_Sub.l0 kq l0 l1 x5_1 x6_1 x7_1 = some r) ∧ Aside0 (kq ≤ k) ∧ Aside0 (Kd.R (Kd.int .u32) 66 w' w.heap.size (fun k_ => (w.heap.size ≤ k_)) v5 x5_1) ∧ Aside0 (Below w.heap.size w w'))
 case atStart => exact ⟨(([] : List Int)), (0), (0), (by first | rfl | (simp; done) | (simp [*]; done)), (by first | rfl | (simp; done) | (simp [*]; done)), H', ⟨Nat.le_refl _⟩, ⟨by first | exact Kd.R_nil _ _ _ _ _ | exact Kd.N_nil _ _ _ _ _ | exact Kd.V_nil _ _ _ _ _ | exact Kd.Q_nil _ _ _ _ _ | exact Kd.S_nil _ _ _ _ _⟩, ⟨qm_ HB.out⟩⟩
 case round =>
  clear H'
  try clear c1
  try clear p2
  obtain ⟨x5_1, x6_1, x7_1, rfl, rfl, HA, HK1, HO_5, HB⟩ := hrel
  cases gk with
  | zero => exact absurd HA.out (by simp [cutplaneref01_Sub.l0])
  | succ k1 =>
   have H := HA.out
   clear HA
   simp only [cutplaneref01_Sub.l0] at H
   by_cases c3 : x7_1 < (l0.length : Int)
   ·rw [if_pos c3] at H
    have c3b0 : decide (x7_1 < (l0.length : Int)) = true := decide_eq_true c3
    clear c3
    by_cases c4 : x7_1 < (l1.length : Int)
    ·rw [if_pos c4] at H
     have c4b0 : decide (x7_1 < (l1.length : Int)) = true := decide_eq_true c4
     clear c4
     obtain ⟨c5, H⟩ := ic_ H
     have c5b0 : decide (0 ≤ x7_1) = true := decide_eq_true c5
     clear c5
     by_cases c6 : (IntKind.u64.wrap (rd l0 x7_1)) < (IntKind.u64.wrap (x6_1 + (IntKind.u64.wrap (rd l1 x7_1))))
     ·rw [if_pos c6] at H
      have c6b0 : decide ((IntKind.u64.wrap (rd l0 x7_1)) < (IntKind.u64.wrap (x6_1 + (IntKind.u64.wrap (rd l1 x7_1))))) = true := decide_eq_true c6
      clear c6
      obtain ⟨c7, H⟩ := ic_ H
      have LMc7 := A0_ c7
      clear c7
      obtain ⟨y452, hy452⟩ : ∃ y_ : List Int, y_ = (x5_1 ++ [(IntKind.u64.wrap ((IntKind.u64.wrap ((IntKind.u64.wrap (rd l0 x7_1)) + 4294967296)) - (IntKind.u64.wrap (x6_1 + (IntKind.u64.wrap (rd l1 x7_1)))))) % 4294967296]) := ⟨_, rfl⟩
      replace H : (cutplaneref01_Sub.l0 k1 l0 l1 y452 1 (wrap64 (x7_1 + 1))) = some r := by first | (rw [hy452]; with_reducible exact H) | (have H2_ := (Option.bind_some _ _).symm.trans H; rw [hy452]; with_reducible exact H2_) | (have H2_ := (Option.bind_some _ _).symm.trans H; with_reducible exact H2_) | with_reducible exact H | (rw [hy452]; exact H) | exact H
      have Ny452 := A0_ hy452
      clear hy452
      have H' := A0_ H
      clear H
      have p450 : 0 ≤ (x7_1 : Int) := of_decide_eq_true (by first | (with_reducible assumption) | assumption)
      have q450 : x7_1 < (l1.length : Int) := of_decide_eq_true (by first | (with_reducible assumption) | assumption)
      obtain ⟨ad450, e450, hx450_0⟩ := Kd.at_int HR1.out x7_1 p450 q450
      cases e450
      replace hx450_0 := (HB.out.cell (World.block_lt_of_cell? w _ hx450_0)).trans hx450_0
      replace p450 := eq_true p450
      replace q450 := eq_true q450
      have p451 : 0 ≤ (x7_1 : Int) := of_decide_eq_true (by first | (with_reducible assumption) | assumption)
      have q451 : x7_1 < (l0.length : Int) := of_decide_eq_true (by first | (with_reducible assumption) | assumption)
      obtain ⟨ad451, e451, hx451_0⟩ := Kd.at_int HR0.out x7_1 p451 q451
      cases e451
      replace hx451_0 := (HB.out.cell (World.block_lt_of_cell? w _ hx451_0)).trans hx451_0
      replace p451 := eq_true p451
      replace q451 := eq_true q451
      go_wp2_with (first | ((with_reducible refine gate_builtin (b := .append) (xs := #[.tmp 38, .tmp 43]) rfl ?_); at_builtin; refine Kd.R_append (Kd.int .u32) (w0 := w) w.heap.size rfl (.tmp 38) (.tmp 43) 67 66 (.int .u32 0) 4 rfl Try.underlying67 info66 rfl (by decide) (by omega) u5 x5_1 ((IntKind.u64.wrap ((IntKind.u64.wrap ((IntKind.u64.wrap (rd l0 x7_1)) + 4294967296)) - (IntKind.u64.wrap (x6_1 + (IntKind.u64.wrap (rd l1 x7_1)))))) % 4294967296) [.int .u32 ((IntKind.u64.wrap ((IntKind.u64.wrap ((IntKind.u64.wrap (rd l0 x7_1)) + 4294967296)) - (IntKind.u64.wrap (x6_1 + (IntKind.u64.wrap (rd l1 x7_1)))))) % 4294967296)] (fun k_ => (w.heap.size ≤ k_)) (fun _ => False) rfl rfl ?aP (fun _ hk => hk.elim) ?aF ?aO ?aB ?aS ?aL ?_; (case aP => exact rfl); (case aB => exact (qm_ HB.out)); (case aF => exact (fun k_ hk => (Nat.le_trans (below_size (qm_ HB.out)) hk))); (case aO => exact (by exact rm_ HO_5.out)); (case aS => exact (below_size (qm_ HB.out))); (case aL => have := LMc7.out; omega); intro v453 w8 ho hb hg hat; rw [← Ny452.out] at ho; replace HB := A0_ (hb); have HO454 := A0_ (ho); clear HO_5 ho hb hg hat))
      go_roundg k1
      case measure => have := HK1.out; omega
      case rel => exact ⟨(y452), (1), (wrap64 (x7_1 + 1)), (by first | rfl | (simp; done) | (simp [*]; done)), (by first | rfl | (simp; done) | (simp [*]; done)), H', ⟨by have := HK1.out; omega⟩, ⟨by exact rm_ HO454.out⟩, ⟨qm_ HB.out⟩⟩
     ·rw [if_neg c6] at H
      have c6b0 : decide ((IntKind.u64.wrap (rd l0 x7_1)) < (IntKind.u64.wrap (x6_1 + (IntKind.u64.wrap (rd l1 x7_1))))) = false := decide_eq_false c6
      clear c6
      obtain ⟨c9, H⟩ := ic_ H
      have LMc9 := A0_ c9
      clear c9
      obtain ⟨y455, hy455⟩ : ∃ y_ : List Int, y_ = (x5_1 ++ [(IntKind.u64.wrap ((IntKind.u64.wrap (rd l0 x7_1)) - (IntKind.u64.wrap (x6_1 + (IntKind.u64.wrap (rd l1 x7_1)))))) % 4294967296]) := ⟨_, rfl⟩
      replace H : (cutplaneref01_Sub.l0 k1 l0 l1 y455 0 (wrap64 (x7_1 + 1))) = some r := by first | (rw [hy455]; with_reducible exact H) | (have H2_ := (Option.bind_some _ _).symm.trans H; rw [hy455]; with_reducible exact H2_) | (have H2_ := (Option.bind_some _ _).symm.trans H; with_reducible exact H2_) | with_reducible exact H | (rw [hy455]; exact H) | exact H
      have Ny455 := A0_ hy455
      clear hy455
      have H' := A0_ H
      clear H
      have p450 : 0 ≤ (x7_1 : Int) := of_decide_eq_true (by first | (with_reducible assumption) | assumption)
      have q450 : x7_1 < (l1.length : Int) := of_decide_eq_true (by first | (with_reducible assumption) | assumption)
      obtain ⟨ad450, e450, hx450_0⟩ := Kd.at_int HR1.out x7_1 p450 q450
      cases e450
      replace hx450_0 := (HB.out.cell (World.block_lt_of_cell? w _ hx450_0)).trans hx450_0
      replace p450 := eq_true p450
      replace q450 := eq_true q450
      have p451 : 0 ≤ (x7_1 : Int) := of_decide_eq_true (by first | (with_reducible assumption) | assumption)
      have q451 : x7_1 < (l0.length : Int) := of_decide_eq_true (by first | (with_reducible assumption) | assumption)
      obtain ⟨ad451, e451, hx451_0⟩ := Kd.at_int HR0.out x7_1 p451 q451
      cases e451
      replace hx451_0 := (HB.out.cell (World.block_lt_of_cell? w _ hx451_0)).trans hx451_0
      replace p451 := eq_true p451
      replace q451 := eq_true q451
      go_wp2_with (first | ((with_reducible refine gate_builtin (b := .append) (xs := #[.tmp 38, .tmp 43]) rfl ?_); at_builtin; refine Kd.R_append (Kd.int .u32) (w0 := w) w.heap.size rfl (.tmp 38) (.tmp 43) 67 66 (.int .u32 0) 4 rfl Try.underlying67 info66 rfl (by decide) (by omega) u5 x5_1 ((IntKind.u64.wrap ((IntKind.u64.wrap (rd l0 x7_1)) - (IntKind.u64.wrap (x6_1 + (IntKind.u64.wrap (rd l1 x7_1)))))) % 4294967296) [.int .u32 ((IntKind.u64.wrap ((IntKind.u64.wrap (rd l0 x7_1)) - (IntKind.u64.wrap (x6_1 + (IntKind.u64.wrap (rd l1 x7_1)))))) % 4294967296)] (fun k_ => (w.heap.size ≤ k_)) (fun _ => False) rfl rfl ?aP (fun _ hk => hk.elim) ?aF ?aO ?aB ?aS ?aL ?_; (case aP => exact rfl); (case aB => exact (qm_ HB.out)); (case aF => exact (fun k_ hk => (Nat.le_trans (below_size (qm_ HB.out)) hk))); (case aO => exact (by exact rm_ HO_5.out)); (case aS => exact (below_size (qm_ HB.out))); (case aL => have := LMc9.out; omega); intro v456 w10 ho hb hg hat; rw [← Ny455.out] at ho; replace HB := A0_ (hb); have HO457 := A0_ (ho); clear HO_5 ho hb hg hat))
      go_roundg k1
      case measure => have := HK1.out; omega
      case rel => exact ⟨(y455), (0), (wrap64 (x7_1 + 1)), (by first | rfl | (simp; done) | (simp [*]; done)), (by first | rfl | (simp; done) | (simp [*]; done)), H', ⟨by have := HK1.out; omega⟩, ⟨by exact rm_ HO457.out⟩, ⟨qm_ HB.out⟩⟩
    ·rw [if_neg c4] at H
     have c4b0 : decide (x7_1 < (l1.length : Int)) = false := decide_eq_false c4
     clear c4
     obtain ⟨c11, H⟩ := ic_ H
     have c11b0 : decide (0 ≤ x7_1) = true := decide_eq_true c11
     clear c11
     by_cases c12 : (IntKind.u64.wrap (rd l0 x7_1)) < x6_1
     ·rw [if_pos c12] at H
      have c12b0 : decide ((IntKind.u64.wrap (rd l0 x7_1)) < x6_1) = true := decide_eq_true c12
      clear c12
      obtain ⟨c13, H⟩ := ic_ H
      have LMc13 := A0_ c13
      clear c13
      obtain ⟨y459, hy459⟩ : ∃ y_ : List Int, y_ = (x5_1 ++ [(IntKind.u64.wrap ((IntKind.u64.wrap ((IntKind.u64.wrap (rd l0 x7_1)) + 4294967296)) - x6_1)) % 4294967296]) := ⟨_, rfl⟩
      replace H : (cutplaneref01_Sub.l0 k1 l0 l1 y459 1 (wrap64 (x7_1 + 1))) = some r := by first | (rw [hy459]; with_reducible exact H) | (have H2_ := (Option.bind_some _ _).symm.trans H; rw [hy459]; with_reducible exact H2_) | (have H2_ := (Option.bind_some _ _).symm.trans H; with_reducible exact H2_) | with_reducible exact H | (rw [hy459]; exact H) | exact H
      have Ny459 := A0_ hy459
      clear hy459
      have H' := A0_ H
      clear H
      have p458 : 0 ≤ (x7_1 : Int) := of_decide_eq_true (by first | (with_reducible assumption) | assumption)
      have q458 : x7_1 < (l0.length : Int) := of_decide_eq_true (by first | (with_reducible assumption) | assumption)
      obtain ⟨ad458, e458, hx458_0⟩ := Kd.at_int HR0.out x7_1 p458 q458
      cases e458
      replace hx458_0 := (HB.out.cell (World.block_lt_of_cell? w _ hx458_0)).trans hx458_0
      replace p458 := eq_true p458
      replace q458 := eq_true q458
      go_wp2_with (first | ((with_reducible refine gate_builtin (b := .append) (xs := #[.tmp 38, .tmp 43]) rfl ?_); at_builtin; refine Kd.R_append (Kd.int .u32) (w0 := w) w.heap.size rfl (.tmp 38) (.tmp 43) 67 66 (.int .u32 0) 4 rfl Try.underlying67 info66 rfl (by decide) (by omega) u5 x5_1 ((IntKind.u64.wrap ((IntKind.u64.wrap ((IntKind.u64.wrap (rd l0 x7_1)) + 4294967296)) - x6_1)) % 4294967296) [.int .u32 ((IntKind.u64.wrap ((IntKind.u64.wrap ((IntKind.u64.wrap (rd l0 x7_1)) + 4294967296)) - x6_1)) % 4294967296)] (fun k_ => (w.heap.size ≤ k_)) (fun _ => False) rfl rfl ?aP (fun _ hk => hk.elim) ?aF ?aO ?aB ?aS ?aL ?_; (case aP => exact rfl); (case aB => exact (qm_ HB.out)); (case aF => exact (fun k_ hk => (Nat.le_trans (below_size (qm_ HB.out)) hk))); (case aO => exact (by exact rm_ HO_5.out)); (case aS => exact (below_size (qm_ HB.out))); (case aL => have := LMc13.out; omega); intro v460 w14 ho hb hg hat; rw [← Ny459.out] at ho; replace HB := A0_ (hb); have HO461 := A0_ (ho); clear HO_5 ho hb hg hat))
      go_roundg k1
      case measure => have := HK1.out; omega
      case rel => exact ⟨(y459), (1), (wrap64 (x7_1 + 1)), (by first | rfl | (simp; done) | (simp [*]; done)), (by first | rfl | (simp; done) | (simp [*]; done)), H', ⟨by have := HK1.out; omega⟩, ⟨by exact rm_ HO461.out⟩, ⟨qm_ HB.out⟩⟩
     ·rw [if_neg c12] at H
      have c12b0 : decide ((IntKind.u64.wrap (rd l0 x7_1)) < x6_1) = false := decide_eq_false c12
      clear c12
      obtain ⟨c15, H⟩ := ic_ H
      have LMc15 := A0_ c15
      clear c15
      obtain ⟨y462, hy462⟩ : ∃ y_ : List Int, y_ = (x5_1 ++ [(IntKind.u64.wrap ((IntKind.u64.wrap (rd l0 x7_1)) - x6_1)) % 4294967296]) := ⟨_, rfl⟩
      replace H : (cutplaneref01_Sub.l0 k1 l0 l1 y462 0 (wrap64 (x7_1 + 1))) = some r := by first | (rw [hy462]; with_reducible exact H) | (have H2_ := (Option.bind_some _ _).symm.trans H; rw [hy462]; with_reducible exact H2_) | (have H2_ := (Option.bind_some _ _).symm.trans H; with_reducible exact H2_) | with_reducible exact H | (rw [hy462]; exact H) | exact H
      have Ny462 := A0_ hy462
      clear hy462
      have H' := A0_ H
      clear H
      have p458 : 0 ≤ (x7_1 : Int) := of_decide_eq_true (by first | (with_reducible assumption) | assumption)
      have q458 : x7_1 < (l0.length : Int) := of_decide_eq_true (by first | (with_reducible assumption) | assumption)
      obtain ⟨ad458, e458, hx458_0⟩ := Kd.at_int HR0.out x7_1 p458 q458
      cases e458
      replace hx458_0 := (HB.out.cell (World.block_lt_of_cell? w _ hx458_0)).trans hx458_0
      replace p458 := eq_true p458
      replace q458 := eq_true q458
      go_wp2_with (first | ((with_reducible refine gate_builtin (b := .append) (xs := #[.tmp 38, .tmp 43]) rfl ?_); at_builtin; refine Kd.R_append (Kd.int .u32) (w0 := w) w.heap.size rfl (.tmp 38) (.tmp 43) 67 66 (.int .u32 0) 4 rfl Try.underlying67 info66 rfl (by decide) (by omega) u5 x5_1 ((IntKind.u64.wrap ((IntKind.u64.wrap (rd l0 x7_1)) - x6_1)) % 4294967296) [.int .u32 ((IntKind.u64.wrap ((IntKind.u64.wrap (rd l0 x7_1)) - x6_1)) % 4294967296)] (fun k_ => (w.heap.size ≤ k_)) (fun _ => False) rfl rfl ?aP (fun _ hk => hk.elim) ?aF ?aO ?aB ?aS ?aL ?_; (case aP => exact rfl); (case aB => exact (qm_ HB.out)); (case aF => exact (fun k_ hk => (Nat.le_trans (below_size (qm_ HB.out)) hk))); (case aO => exact (by exact rm_ HO_5.out)); (case aS => exact (below_size (qm_ HB.out))); (case aL => have := LMc15.out; omega); intro v463 w16 ho hb hg hat; rw [← Ny462.out] at ho; replace HB := A0_ (hb); have HO464 := A0_ (ho); clear HO_5 ho hb hg hat))
      go_roundg k1
      case measure => have := HK1.out; omega
      case rel => exact ⟨(y462), (0), (wrap64 (x7_1 + 1)), (by first | rfl | (simp; done) | (simp [*]; done)), (by first | rfl | (simp; done) | (simp [*]; done)), H', ⟨by have := HK1.out; omega⟩, ⟨by exact rm_ HO464.out⟩, ⟨qm_ HB.out⟩⟩
   ·rw [if_neg c3] at H
    have c3b0 : decide (x7_1 < (l0.length : Int)) = false := decide_eq_false c3
    clear c3
    obtain ⟨t447, A17, H⟩ := bs_ H
    try dsimp -simprocs only at H
    obtain rfl := Option.some.inj H
    obtain ⟨Ao18, co18, eo18⟩ := Kd.R_slice HO_5.out
    subst eo18
    go_wp2_with (first | ((with_reducible refine gate_callee (f := 110) rfl ?_); refine goesL_ (some 46) rfl rfl Try.func110 (by kernel_rfl) rfl #[.slice Ao18 x5_1.length co18] rfl (am_ rfl) ?_; (with_reducible refine (cutplaneref01_Trim.calls k1 (fun k_ => some k_ = (.slice Ao18 x5_1.length co18 : Value).ownBlock) _ _ x5_1 t447 _ ?side1 A17.out).mono ?_); (case side1 => exact Kd.R_V (Kd.R_tight rfl (HO_5.out))); rintro e w19 ⟨v448, rfl, ho0, hb⟩; refine ⟨_, rfl, ?_⟩; have HO449 := A0_ (Kd.V_lower (Kd.V_mono (ok' := fun k_ => (w.heap.size ≤ k_)) ho0 (fun k_ hk_ => Or.elim hk_ (fun hs_ => ((HO_5.out).1 k_ hs_.symm)) (fun hn_ => (Nat.le_trans (below_size (qm_ HB.out)) hn_)))) (below_size (qm_ HB.out))); replace HO_5 := A0_ (Kd.R_below (by exact rm_ HO_5.out) hb); replace HB := hs_ hb; (try clear hb); (try clear ho0)))
    go_ret
    exact ⟨_, by first | rfl | (simp [errW_none, errW_some] <;> rfl) | (simp [*, errW_none, errW_some] <;> rfl), by (with_reducible repeat (first | apply Kd.V_alloc | apply Kd.V_drewN | apply Kd.V_drew)); exact HO449.out, qm_ HB.out⟩
end Go.Proofs.Ytlgapmhjaaajfaa.PA
end
