/- Steps of Go functions that the law CutsTable uses, told as plain Lean functions, each with the proof that its call comes to what it tells; words on memory; plain facts. No condition beyond those that each text names. -/
import Derived.Test.YtgaabjjenlbmhaaProg
import Derived.WalkMore
import Derived.Below
import Derived.Deep.Draws
import Derived.Deep.AppendLies
import Derived.Maps.AppendAt
import Derived.OwnWalk
import Derived.Laws.BytesArg
import Derived.Laws.MakeOwn
import Derived.Laws.OwnMore
import Derived.Deep.OwnRows
import Derived.Tactics
import Derived.Lib.ConvBytes
import Derived.Laws.Slices
import Derived.WalkKit
import Derived.KernelRfl
import Derived.RowKit3
import Derived.Deep.LoopGhost
import Derived.Deep.QuietTactic
import Derived.BigQuiet
import Derived.WideLaws
import Derived.Deep.DeepCutAuto
import Derived.Deep.CutBlock
import Derived.Deep.RegionHeld3
import Derived.Laws.Rows
import Derived.Lib.AppendStr
import Derived.ArgAppend
import Derived.Laws.IdiomCopy
import Derived.OrdersHeld
import Derived.Laws.BitsLemmas
import Derived.RowKit
import Derived.Laws.StructEq
import Derived.Laws.BitsAllLaws
import Derived.OpenShut
import Derived.Lib.EndianBits
import Derived.Test.YtgaabjjenlbmhaaSCutsTable0
import Derived.Test.YtgaabjjenlbmhaaSCutsTable1
import Derived.Test.YtgaabjjenlbmhaaSCutsTable2
import Derived.Test.YtgaabjjenlbmhaaSCutsTable3
import Derived.Test.YtgaabjjenlbmhaaSCutsTable4
import Derived.Test.YtgaabjjenlbmhaaSCutsTable5
import Derived.Test.YtgaabjjenlbmhaaSCutsTable6
import Derived.Test.YtgaabjjenlbmhaaSCutsTable7
import Derived.Test.YtgaabjjenlbmhaaSCutsTable8
section
namespace Go.Proofs.Ytgaabjjenlbmhaa.PA
open Go.RowKit Go.Proofs.YtgaabjjenlbmhaaW.PrintWords Go.Proofs.YtgaabjjenlbmhaaW.PrintLast Go.Proofs.YtgaabjjenlbmhaaW.PrintMore
attribute [local go_sem] max2_int min2_int max_two min_two max_three min_three max_four min_four   -- for this text's walks alone
set_option linter.unusedVariables false
set_option linter.unusedSimpArgs false
def cutplaneref20_Parity.j0 : Nat → Int → Bool → Option (Int)
  | 0, _, _ => none
  | k + 1, x3, x4 => if x4 = true then (some 1) else (if x3 = 5 then (some 2) else (if x3 = 8 then (some 2) else (some 0)))
def cutplaneref20_Parity.f (k : Nat) (a0 : Int) : Option (Int) := if a0 = 4 then (cutplaneref20_Parity.j0 k a0 (a0 == 4)) else (if a0 = 6 then (cutplaneref20_Parity.j0 k a0 (a0 == 6)) else (if a0 = 7 then (cutplaneref20_Parity.j0 k a0 (a0 == 7)) else (if a0 = 9 then (cutplaneref20_Parity.j0 k a0 (a0 == 9)) else (if a0 = 10 then (cutplaneref20_Parity.j0 k a0 (a0 == 10)) else (if a0 = 15 then (cutplaneref20_Parity.j0 k a0 (a0 == 15)) else (if a0 = 12 then (cutplaneref20_Parity.j0 k a0 (a0 == 12)) else (cutplaneref20_Parity.j0 k a0 (a0 == 13))))))))
set_option maxHeartbeats 2000000 in
set_option maxRecDepth 100000 in
theorem cutplaneref20_Parity.calls (k : Nat) (a0 : Int) (r : Int) (w : World) (h : cutplaneref20_Parity.f k a0 = some r) :
    Calls Try.prog 46 #[.int .u8 a0] w fun e w' => e = .returned (.int .u8 r) ∧ Drawn0 w w' := by
  have H : (if a0 = 4 then (cutplaneref20_Parity.j0 k a0 (a0 == 4)) else (if a0 = 6 then (cutplaneref20_Parity.j0 k a0 (a0 == 6)) else (if a0 = 7 then (cutplaneref20_Parity.j0 k a0 (a0 == 7)) else (if a0 = 9 then (cutplaneref20_Parity.j0 k a0 (a0 == 9)) else (if a0 = 10 then (cutplaneref20_Parity.j0 k a0 (a0 == 10)) else (if a0 = 15 then (cutplaneref20_Parity.j0 k a0 (a0 == 15)) else (if a0 = 12 then (cutplaneref20_Parity.j0 k a0 (a0 == 12)) else (cutplaneref20_Parity.j0 k a0 (a0 == 13))))))))) = some r := h
  clear h
  have HC2 := Aside0.mk H
  clear H
  go_enter Try.func46, Try.ntmps46
  go_upto_if 4 with (fail)
  go_cut [4] (fun v4 wc => ∃ (kq : Nat) (x4_1 : Bool), v4 = .bool x4_1 ∧ Aside0 (cutplaneref20_Parity.j0 kq a0 x4_1 = some r) ∧ Aside0 (kq ≤ k) ∧ Drawn0 w wc)
  case first =>
    have H := HC2.out
    clear HC2
    by_cases c3 : a0 = 4
    · rw [if_pos c3] at H
      have c3b0 : (a0 == 4) = true := beq_iff_eq.mpr c3
      have c3b1 : (a0 != 4) = false := bne_eq_false_iff_eq.mpr c3
      clear c3
      (first | rw [c3b0] | (simp only [i64_w, i32_w]; rw [c3b0]) | skip)
      have H' := Aside0.mk H
      clear H
      go_wp2
      go_meet
      case rel => exact ⟨_, ((a0 == 4)), (by first | rfl | (simp; done) | (simp [*]; done)), H', ⟨by first | omega | exact Nat.le_refl _⟩, by repeat (first | exact Drawn0.refl _ | apply Drawn0.step)⟩
    · rw [if_neg c3] at H
      have c3b0 : (a0 == 4) = false := beq_eq_false_iff_ne.mpr c3
      have c3b1 : (a0 != 4) = true := bne_iff_ne.mpr c3
      (first | rw [c3b0] | (simp only [i64_w, i32_w]; rw [c3b0]) | skip)
      by_cases c4 : a0 = 6
      · rw [if_pos c4] at H
        have c4b0 : (a0 == 6) = true := beq_iff_eq.mpr c4
        have c4b1 : (a0 != 6) = false := bne_eq_false_iff_eq.mpr c4
        clear c4
        have H' := Aside0.mk H
        clear H
        go_wp2
        go_meet
        case rel => exact ⟨_, ((a0 == 6)), (by first | rfl | (simp; done) | (simp [*]; done)), H', ⟨by first | omega | exact Nat.le_refl _⟩, by repeat (first | exact Drawn0.refl _ | apply Drawn0.step)⟩
      · rw [if_neg c4] at H
        have c4b0 : (a0 == 6) = false := beq_eq_false_iff_ne.mpr c4
        have c4b1 : (a0 != 6) = true := bne_iff_ne.mpr c4
        by_cases c5 : a0 = 7
        · rw [if_pos c5] at H
          have c5b0 : (a0 == 7) = true := beq_iff_eq.mpr c5
          have c5b1 : (a0 != 7) = false := bne_eq_false_iff_eq.mpr c5
          clear c5
          have H' := Aside0.mk H
          clear H
          go_wp2
          go_meet
          case rel => exact ⟨_, ((a0 == 7)), (by first | rfl | (simp; done) | (simp [*]; done)), H', ⟨by first | omega | exact Nat.le_refl _⟩, by repeat (first | exact Drawn0.refl _ | apply Drawn0.step)⟩
        · rw [if_neg c5] at H
          have c5b0 : (a0 == 7) = false := beq_eq_false_iff_ne.mpr c5
          have c5b1 : (a0 != 7) = true := bne_iff_ne.mpr c5
          by_cases c6 : a0 = 9
          · rw [if_pos c6] at H
            have c6b0 : (a0 == 9) = true := beq_iff_eq.mpr c6
            have c6b1 : (a0 != 9) = false := bne_eq_false_iff_eq.mpr c6
            clear c6
            have H' := Aside0.mk H
            clear H
            go_wp2
            go_meet
            case rel => exact ⟨_, ((a0 == 9)), (by first | rfl | (simp; done) | (simp [*]; done)), H', ⟨by first | omega | exact Nat.le_refl _⟩, by repeat (first | exact Drawn0.refl _ | apply Drawn0.step)⟩
          · rw [if_neg c6] at H
            have c6b0 : (a0 == 9) = false := beq_eq_false_iff_ne.mpr c6
            have c6b1 : (a0 != 9) = true := bne_iff_ne.mpr c6
            by_cases c7 : a0 = 10
            · rw [if_pos c7] at H
              have c7b0 : (a0 == 10) = true := beq_iff_eq.mpr c7
              have c7b1 : (a0 != 10) = false := bne_eq_false_iff_eq.mpr c7
              clear c7
              have H' := Aside0.mk H
              clear H
              go_wp2
              go_meet
              case rel => exact ⟨_, ((a0 == 10)), (by first | rfl | (simp; done) | (simp [*]; done)), H', ⟨by first | omega | exact Nat.le_refl _⟩, by repeat (first | exact Drawn0.refl _ | apply Drawn0.step)⟩
            · rw [if_neg c7] at H
              have c7b0 : (a0 == 10) = false := beq_eq_false_iff_ne.mpr c7
              have c7b1 : (a0 != 10) = true := bne_iff_ne.mpr c7
              by_cases c8 : a0 = 15
              · rw [if_pos c8] at H
                have c8b0 : (a0 == 15) = true := beq_iff_eq.mpr c8
                have c8b1 : (a0 != 15) = false := bne_eq_false_iff_eq.mpr c8
                clear c8
                have H' := Aside0.mk H
                clear H
                go_wp2
                go_meet
                case rel => exact ⟨_, ((a0 == 15)), (by first | rfl | (simp; done) | (simp [*]; done)), H', ⟨by first | omega | exact Nat.le_refl _⟩, by repeat (first | exact Drawn0.refl _ | apply Drawn0.step)⟩
              · rw [if_neg c8] at H
                have c8b0 : (a0 == 15) = false := beq_eq_false_iff_ne.mpr c8
                have c8b1 : (a0 != 15) = true := bne_iff_ne.mpr c8
                by_cases c9 : a0 = 12
                · rw [if_pos c9] at H
                  have c9b0 : (a0 == 12) = true := beq_iff_eq.mpr c9
                  have c9b1 : (a0 != 12) = false := bne_eq_false_iff_eq.mpr c9
                  clear c9
                  have H' := Aside0.mk H
                  clear H
                  go_wp2
                  go_meet
                  case rel => exact ⟨_, ((a0 == 12)), (by first | rfl | (simp; done) | (simp [*]; done)), H', ⟨by first | omega | exact Nat.le_refl _⟩, by repeat (first | exact Drawn0.refl _ | apply Drawn0.step)⟩
                · rw [if_neg c9] at H
                  have c9b0 : (a0 == 12) = false := beq_eq_false_iff_ne.mpr c9
                  have c9b1 : (a0 != 12) = true := bne_iff_ne.mpr c9
                  have H' := Aside0.mk H
                  clear H
                  go_wp2
                  go_meet
                  case rel => exact ⟨_, ((a0 == 13)), (by first | rfl | (simp; done) | (simp [*]; done)), H', ⟨by first | omega | exact Nat.le_refl _⟩, by repeat (first | exact Drawn0.refl _ | apply Drawn0.step)⟩
  case rest =>
    clear HC2
    try clear p2
    try clear c3
    try clear c3b0
    try clear c3b1
    try clear c4
    try clear c4b0
    try clear c4b1
    try clear c5
    try clear c5b0
    try clear c5b1
    try clear c6
    try clear c6b0
    try clear c6b1
    try clear c7
    try clear c7b0
    try clear c7b1
    try clear c8
    try clear c8b0
    try clear c8b1
    try clear c9
    try clear c9b0
    try clear c9b1
    obtain ⟨kq, x4_1, rfl, HA, HJ1, ⟨mc1, rfl⟩⟩ := hcut
    cases kq with
    | zero => exact absurd HA.out (by simp [cutplaneref20_Parity.j0])
    | succ kj1 =>
      have H := HA.out
      clear HA
      simp only [cutplaneref20_Parity.j0] at H
      by_cases c10 : x4_1 = true
      · subst c10
        have H1 : (some 1) = some r := by rw [if_pos rfl] at H; exact H
        clear H
        have H := H1
        clear H1
        obtain rfl := Option.some.inj H
        go_wp2
        go_ret
        exact ⟨by first | rfl | (simp; done) | (simp [*]; done), by repeat (first | exact Drawn0.refl _ | apply Drawn0.step)⟩
      · replace c10 := Bool.eq_false_iff.mpr c10
        subst c10
        have H1 : (if a0 = 5 then (some 2) else (if a0 = 8 then (some 2) else (some 0))) = some r := by rw [if_neg (show ¬ (false = true) by decide)] at H; exact H
        clear H
        have H := H1
        clear H1
        by_cases c11 : a0 = 5
        · rw [if_pos c11] at H
          have c11b0 : (a0 == 5) = true := beq_iff_eq.mpr c11
          have c11b1 : (a0 != 5) = false := bne_eq_false_iff_eq.mpr c11
          clear c11
          obtain rfl := Option.some.inj H
          go_wp2
          go_ret
          exact ⟨by first | rfl | (simp; done) | (simp [*]; done), by repeat (first | exact Drawn0.refl _ | apply Drawn0.step)⟩
        · rw [if_neg c11] at H
          have c11b0 : (a0 == 5) = false := beq_eq_false_iff_ne.mpr c11
          have c11b1 : (a0 != 5) = true := bne_iff_ne.mpr c11
          by_cases c12 : a0 = 8
          · rw [if_pos c12] at H
            have c12b0 : (a0 == 8) = true := beq_iff_eq.mpr c12
            have c12b1 : (a0 != 8) = false := bne_eq_false_iff_eq.mpr c12
            clear c12
            obtain rfl := Option.some.inj H
            go_wp2
            go_ret
            exact ⟨by first | rfl | (simp; done) | (simp [*]; done), by repeat (first | exact Drawn0.refl _ | apply Drawn0.step)⟩
          · rw [if_neg c12] at H
            have c12b0 : (a0 == 8) = false := beq_eq_false_iff_ne.mpr c12
            have c12b1 : (a0 != 8) = true := bne_iff_ne.mpr c12
            obtain rfl := Option.some.inj H
            go_wp2
            go_ret
            exact ⟨by first | rfl | (simp; done) | (simp [*]; done), by repeat (first | exact Drawn0.refl _ | apply Drawn0.step)⟩
end Go.Proofs.Ytgaabjjenlbmhaa.PA
end

section
namespace Go.Proofs.Ytgaabjjenlbmhaa.PA
open Go.RowKit Go.Proofs.YtgaabjjenlbmhaaW.PrintWords Go.Proofs.YtgaabjjenlbmhaaW.PrintLast Go.Proofs.YtgaabjjenlbmhaaW.PrintMore
attribute [local go_sem] max2_int min2_int max_two min_two max_three min_three max_four min_four   -- for this text's walks alone
set_option linter.unusedVariables false
set_option linter.unusedSimpArgs false
mutual
def cutplanelaw20_CutsTable.l0 : Nat → Int → Int → Option (Bool)
  | 0, _, _ => none
  | k + 1, x0, x3 => if x3 < 2 then ((cuts_Rays.f x0).bind fun bt885 => ((cuts_Parity.f x0).bind fun bt889 => ((cutplaneref20_Is.f x0).bind fun t891 => (if t891 = true then ((cutplaneref20_Rays.f k x0).bind fun t892 => ((cutplanelaw20_rays.f k bt885.1 t892).bind fun t895 => (if t895 = true then (if bt885.2 = 0 then ((cutplaneref20_Parity.f k x0).bind fun t896 => (if bt889.1 = t896 then (if bt889.2 = 0 then (cutplanelaw20_CutsTable.l1 k x0 x3 bt885.1 0) else (none)) else (none))) else (none)) else (none)))) else (if (bt885.1.length : Int) = 0 then (if bt885.2 = 2 then (if bt889.1 = 0 then (if bt889.2 = 2 then (cutplanelaw20_CutsTable.l0 k x0 (wrap64 (x3 + 1))) else (none)) else (none)) else (none)) else (none)))))) else ((cutplanelaw20_known.f k).bind fun t898 => (some t898))
def cutplanelaw20_CutsTable.l1 : Nat → Int → Int → List (S54) → Int → Option (Bool)
  | 0, _, _, _, _ => none
  | k + 1, x0, x3, x4, x8 => if x8 < (x4.length : Int) then (if 0 ≤ x8 then (cutplanelaw20_CutsTable.l1 k x0 x3 (x4.set (x8 : Int).toNat (⟨false, 7, false⟩ : S54)) (wrap64 (x8 + 1))) else (none)) else (cutplanelaw20_CutsTable.l0 k x0 (wrap64 (x3 + 1)))
end
def cutplanelaw20_CutsTable.f (k : Nat) (a0 : Int) : Option (Bool) := cutplanelaw20_CutsTable.l0 k a0 0
set_option maxHeartbeats 2000000 in
set_option maxRecDepth 100000 in
theorem cutplanelaw20_CutsTable.calls (k : Nat) (a0 : Int) (r : Bool) (w : World) (h : cutplanelaw20_CutsTable.f k a0 = some r) :
    Calls Try.prog 10 #[.int .u8 a0] w fun e w' => e = .returned (.bool r) ∧ Below w.heap.size w w' := by
  have hu54 := Try.underlying54
  have HB := Aside0.mk (Below.refl w.heap.size w)
  have H : (cutplanelaw20_CutsTable.l0 k a0 0) = some r := h
  clear h
  have H' := Aside0.mk H
  clear H
  go_enter Try.func10, Try.ntmps10
  go_wp2
  go_loopg [3] k (fun kq v3 w' => ∃ (x3_1 : Int), v3 = .int .i64 x3_1 ∧ Aside0 (cutplanelaw20_CutsTable.l0 kq a0 x3_1 = some r) ∧ Aside0 (kq ≤ k) ∧ Aside0 (Below w.heap.size w w'))
  case atStart => exact ⟨(0), (by first | rfl | (simp; done) | (simp [*]; done)), H', ⟨Nat.le_refl _⟩, ⟨by repeat (first | (with_reducible first | exact HB.out | apply below_alloc | apply pw_below_drewN | apply below_drew1) | exact HB.out)⟩⟩
  case round =>
    clear H'
    try clear c1
    obtain ⟨x3_1, rfl, HA, HK1, HB⟩ := hrel
    cases gk with
    | zero => exact absurd HA.out (by simp [cutplanelaw20_CutsTable.l0])
    | succ k1 =>
      have H := HA.out
      clear HA
      simp only [cutplanelaw20_CutsTable.l0] at H
      by_cases c2 : x3_1 < 2
      · rw [if_pos c2] at H
        have c2b0 : decide (x3_1 < 2) = true := decide_eq_true c2
        clear c2
        replace H := Option.bind_eq_some_iff.mp H
        obtain ⟨⟨t885, t886⟩, A30, H⟩ := H
        replace H : ((cuts_Parity.f a0).bind fun bt889 => ((cutplaneref20_Is.f a0).bind fun t891 => (if t891 = true then ((cutplaneref20_Rays.f k1 a0).bind fun t892 => ((cutplanelaw20_rays.f k1 t885 t892).bind fun t895 => (if t895 = true then (if t886 = 0 then ((cutplaneref20_Parity.f k1 a0).bind fun t896 => (if bt889.1 = t896 then (if bt889.2 = 0 then (cutplanelaw20_CutsTable.l1 k1 a0 x3_1 t885 0) else (none)) else (none))) else (none)) else (none)))) else (if (t885.length : Int) = 0 then (if t886 = 2 then (if bt889.1 = 0 then (if bt889.2 = 2 then (cutplanelaw20_CutsTable.l0 k1 a0 (wrap64 (x3_1 + 1))) else (none)) else (none)) else (none)) else (none))))) = some r := H
        have A3 := Aside0.mk A30
        clear A30
        replace H := Option.bind_eq_some_iff.mp H
        obtain ⟨⟨t889, t890⟩, A40, H⟩ := H
        replace H : ((cutplaneref20_Is.f a0).bind fun t891 => (if t891 = true then ((cutplaneref20_Rays.f k1 a0).bind fun t892 => ((cutplanelaw20_rays.f k1 t885 t892).bind fun t895 => (if t895 = true then (if t886 = 0 then ((cutplaneref20_Parity.f k1 a0).bind fun t896 => (if t889 = t896 then (if t890 = 0 then (cutplanelaw20_CutsTable.l1 k1 a0 x3_1 t885 0) else (none)) else (none))) else (none)) else (none)))) else (if (t885.length : Int) = 0 then (if t886 = 2 then (if t889 = 0 then (if t890 = 2 then (cutplanelaw20_CutsTable.l0 k1 a0 (wrap64 (x3_1 + 1))) else (none)) else (none)) else (none)) else (none)))) = some r := H
        have A4 := Aside0.mk A40
        clear A40
        replace H := Option.bind_eq_some_iff.mp H
        obtain ⟨t891, A50, H⟩ := H
        replace H : (if t891 = true then ((cutplaneref20_Rays.f k1 a0).bind fun t892 => ((cutplanelaw20_rays.f k1 t885 t892).bind fun t895 => (if t895 = true then (if t886 = 0 then ((cutplaneref20_Parity.f k1 a0).bind fun t896 => (if t889 = t896 then (if t890 = 0 then (cutplanelaw20_CutsTable.l1 k1 a0 x3_1 t885 0) else (none)) else (none))) else (none)) else (none)))) else (if (t885.length : Int) = 0 then (if t886 = 2 then (if t889 = 0 then (if t890 = 2 then (cutplanelaw20_CutsTable.l0 k1 a0 (wrap64 (x3_1 + 1))) else (none)) else (none)) else (none)) else (none))) = some r := H
        have A5 := Aside0.mk A50
        clear A50
        by_cases c6 : t891 = true
        · subst c6
          have H1 : ((cutplaneref20_Rays.f k1 a0).bind fun t892 => ((cutplanelaw20_rays.f k1 t885 t892).bind fun t895 => (if t895 = true then (if t886 = 0 then ((cutplaneref20_Parity.f k1 a0).bind fun t896 => (if t889 = t896 then (if t890 = 0 then (cutplanelaw20_CutsTable.l1 k1 a0 x3_1 t885 0) else (none)) else (none))) else (none)) else (none)))) = some r := by rw [if_pos rfl] at H; exact H
          clear H
          have H := H1
          clear H1
          replace H := Option.bind_eq_some_iff.mp H
          obtain ⟨t892, A70, H⟩ := H
          replace H : ((cutplanelaw20_rays.f k1 t885 t892).bind fun t895 => (if t895 = true then (if t886 = 0 then ((cutplaneref20_Parity.f k1 a0).bind fun t896 => (if t889 = t896 then (if t890 = 0 then (cutplanelaw20_CutsTable.l1 k1 a0 x3_1 t885 0) else (none)) else (none))) else (none)) else (none))) = some r := H
          have A7 := Aside0.mk A70
          clear A70
          replace H := Option.bind_eq_some_iff.mp H
          obtain ⟨t895, A80, H⟩ := H
          replace H : (if t895 = true then (if t886 = 0 then ((cutplaneref20_Parity.f k1 a0).bind fun t896 => (if t889 = t896 then (if t890 = 0 then (cutplanelaw20_CutsTable.l1 k1 a0 x3_1 t885 0) else (none)) else (none))) else (none)) else (none)) = some r := H
          have A8 := Aside0.mk A80
          clear A80
          by_cases c9 : t895 = true
          · subst c9
            have H1 : (if t886 = 0 then ((cutplaneref20_Parity.f k1 a0).bind fun t896 => (if t889 = t896 then (if t890 = 0 then (cutplanelaw20_CutsTable.l1 k1 a0 x3_1 t885 0) else (none)) else (none))) else (none)) = some r := by rw [if_pos rfl] at H; exact H
            clear H
            have H := H1
            clear H1
            by_cases c10 : t886 = 0
            · rw [if_pos c10] at H
              have c10b0 : (t886 == 0) = true := beq_iff_eq.mpr c10
              have c10b1 : (t886 != 0) = false := bne_eq_false_iff_eq.mpr c10
              clear c10
              replace H := Option.bind_eq_some_iff.mp H
              obtain ⟨t896, A110, H⟩ := H
              replace H : (if t889 = t896 then (if t890 = 0 then (cutplanelaw20_CutsTable.l1 k1 a0 x3_1 t885 0) else (none)) else (none)) = some r := H
              have A11 := Aside0.mk A110
              clear A110
              by_cases c12 : t889 = t896
              · rw [if_pos c12] at H
                have c12b0 : (t889 == t896) = true := beq_iff_eq.mpr c12
                have c12b1 : (t889 != t896) = false := bne_eq_false_iff_eq.mpr c12
                clear c12
                by_cases c13 : t890 = 0
                · rw [if_pos c13] at H
                  have c13b0 : (t890 == 0) = true := beq_iff_eq.mpr c13
                  have c13b1 : (t890 != 0) = false := bne_eq_false_iff_eq.mpr c13
                  clear c13
                  have H' := Aside0.mk H
                  clear H
                  go_wp2_with (first | ((with_reducible refine gate_callee (f := 42) rfl ?_); refine goesL_ (some 15) rfl rfl Try.func42 (by kernel_rfl) rfl #[.int .u8 a0] rfl (by (try simp only [List.map_toArray, List.map_cons, List.map_nil]); first | done | rfl | (simp only [List.length_drop, List.length_take]; rfl)) ?_; (with_reducible refine (cuts_Rays.calls a0 t885 t886 _ A3.out).mono ?_); rintro e w14 ⟨v887, rfl, ho0, hb⟩; refine ⟨_, rfl, ?_⟩; have n0_ := Aside0.mk (Kd.R_lower ho0 (below_size (by repeat (first | (with_reducible first | exact HB.out | apply below_alloc | apply pw_below_drewN | apply below_drew1) | exact HB.out)))); have n1_ := Aside0.mk (below_step (by repeat (first | (with_reducible first | exact HB.out | apply below_alloc | apply pw_below_drewN | apply below_drew1) | exact HB.out)) hb); clear HB; have HO888 := n0_; have HB := n1_; clear n0_ n1_; (try clear hb); (try clear hb2); (try clear hk); (try clear hi); (try clear ho0)) | ((with_reducible refine gate_callee (f := 43) rfl ?_); refine goesL_ (some 20) rfl rfl Try.func43 (by kernel_rfl) rfl #[.int .u8 a0] rfl (by (try simp only [List.map_toArray, List.map_cons, List.map_nil]); first | done | rfl | (simp only [List.length_drop, List.length_take]; rfl)) ?_; (with_reducible refine (cuts_Parity.calls a0 t889 t890 _ A4.out).mono ?_); rintro e w15 ⟨rfl, hb⟩; refine ⟨_, rfl, ?_⟩; have n0_ := Aside0.mk (Kd.R_below (by (with_reducible repeat (first | apply Kd.R_alloc | apply Kd.R_drewN | apply Kd.R_drew)); exact HO888.out) hb); have n1_ := Aside0.mk (below_step (by repeat (first | (with_reducible first | exact HB.out | apply below_alloc | apply pw_below_drewN | apply below_drew1) | exact HB.out)) hb); clear HO888; clear HB; have HO888 := n0_; have HB := n1_; clear n0_ n1_; (try clear hb); (try clear hb2); (try clear hk); (try clear hi)) | ((with_reducible refine gate_callee (f := 36) rfl ?_); refine goesL_ (some 24) rfl rfl Try.func36 (by kernel_rfl) rfl #[.int .u8 a0] rfl (by (try simp only [List.map_toArray, List.map_cons, List.map_nil]); first | done | rfl | (simp only [List.length_drop, List.length_take]; rfl)) ?_; (with_reducible refine (cutplaneref20_Is.calls a0 true _ A5.out).mono ?_); rintro e w' ⟨rfl, ⟨nd, rfl⟩⟩; refine ⟨_, rfl, ?_⟩) | ((with_reducible refine gate_callee (f := 45) rfl ?_); refine goesL_ (some 43) rfl rfl Try.func45 (by kernel_rfl) rfl #[.int .u8 a0] rfl (by (try simp only [List.map_toArray, List.map_cons, List.map_nil]); first | done | rfl | (simp only [List.length_drop, List.length_take]; rfl)) ?_; (with_reducible refine (cutplaneref20_Rays.calls k1 a0 t892 _ A7.out).mono ?_); rintro e w16 ⟨v893, rfl, ho0, hb⟩; refine ⟨_, rfl, ?_⟩; have n0_ := Aside0.mk (Kd.R_elder' (by (with_reducible repeat (first | apply Kd.R_alloc | apply Kd.R_drewN | apply Kd.R_drew)); exact HO888.out) (Kd.R_base ho0) hb); have n1_ := Aside0.mk (Kd.R_lower (Kd.R_new' ho0 (Kd.R_lt (by (with_reducible repeat (first | apply Kd.R_alloc | apply Kd.R_drewN | apply Kd.R_drew)); exact HO888.out))) (below_size (by repeat (first | (with_reducible first | exact HB.out | apply below_alloc | apply pw_below_drewN | apply below_drew1) | exact HB.out)))); have n2_ := Aside0.mk (below_step (by repeat (first | (with_reducible first | exact HB.out | apply below_alloc | apply pw_below_drewN | apply below_drew1) | exact HB.out)) hb); clear HO888; clear HB; have HO888 := n0_; have HO894 := n1_; have HB := n2_; clear n0_ n1_ n2_; (try clear hb); (try clear hb2); (try clear hk); (try clear hi); (try clear ho0); obtain ⟨Ao17, co17, eo17⟩ := Kd.R_slice HO888.out; subst eo17; obtain ⟨Ao18, co18, eo18⟩ := Kd.R_slice HO894.out; subst eo18) | ((with_reducible refine gate_callee (f := 44) rfl ?_); refine goesL_ (some 44) rfl rfl Try.func44 (by kernel_rfl) rfl #[.slice Ao17 t885.length co17, .slice Ao18 t892.length co18] rfl (by (try simp only [List.map_toArray, List.map_cons, List.map_nil]); first | done | rfl | (simp only [List.length_drop, List.length_take]; rfl)) ?_; (with_reducible refine (cutplanelaw20_rays.calls k1 _ _ t885 _ _ t892 true _ ?side1 ?side2 ?side3 ?side4 A8.out).mono ?_); (case side1 => repeat (first | exact (Kd.R_reads' HO888.out).2.2 | (with_reducible refine Kd.C_alloc ?_ _) | (with_reducible refine Kd.C_drewN ?_ _) | (with_reducible refine Kd.C_drew ?_))); (case side2 => exact (Kd.R_reads' HO888.out).2.1); (case side3 => repeat (first | exact (Kd.R_reads' HO894.out).2.2 | (with_reducible refine Kd.C_alloc ?_ _) | (with_reducible refine Kd.C_drewN ?_ _) | (with_reducible refine Kd.C_drew ?_))); (case side4 => exact (Kd.R_reads' HO894.out).2.1); rintro e w' ⟨rfl, ⟨nd, rfl⟩⟩; refine ⟨_, rfl, ?_⟩) | (go_at_call 46; (with_reducible refine (cutplaneref20_Parity.calls k1 a0 t896 _ A11.out).mono ?_); rintro e w' ⟨rfl, ⟨nd, rfl⟩⟩))
                  go_loopg [8] k1 (fun kq v8 w' => ∃ (x4_2 : List (S54)) (x8_2 : Int), v8 = .int .i64 x8_2 ∧ Aside0 (cutplanelaw20_CutsTable.l1 kq a0 x3_1 x4_2 x8_2 = some r) ∧ Aside0 (kq ≤ k1) ∧ Aside0 (Kd.R k54 54 w' w.heap.size (fun _ => True) (.slice Ao17 t885.length co17) x4_2) ∧ Aside0 (Below w.heap.size w w'))
                  case atStart => exact ⟨(t885), (0), (by first | rfl | (simp; done) | (simp [*]; done)), H', ⟨Nat.le_refl _⟩, ⟨by (with_reducible repeat (first | apply Kd.R_alloc | apply Kd.R_drewN | apply Kd.R_drew)); exact Kd.R_mono HO888.out (fun _ hk => trivial)⟩, ⟨by repeat (first | (with_reducible first | exact HB.out | apply below_alloc | apply pw_below_drewN | apply below_drew1) | exact HB.out)⟩⟩
                  case round =>
                    clear H'
                    try clear c1
                    try clear c2
                    try clear c2b0
                    try clear p2
                    try clear c3
                    try clear c4
                    try clear c6
                    try clear p6
                    try clear c9
                    try clear c10
                    try clear c10b0
                    try clear c10b1
                    try clear c12
                    try clear c12b0
                    try clear c12b1
                    try clear c13
                    try clear c13b0
                    try clear c13b1
                    obtain ⟨x4_2, x8_2, rfl, HA, HK2, HO_4, HB⟩ := hrel
                    have hl4_2 := (Kd.R_reads' HO_4.out).1
                    rw [hl4_2] at HO_4
                    (try simp only [hl4_2])
                    cases gk with
                    | zero => exact absurd HA.out (by simp [cutplanelaw20_CutsTable.l1])
                    | succ k2 =>
                      have H := HA.out
                      clear HA
                      simp only [cutplanelaw20_CutsTable.l1] at H
                      by_cases c19 : x8_2 < (x4_2.length : Int)
                      · rw [if_pos c19] at H
                        have c19b0 : decide (x8_2 < (x4_2.length : Int)) = true := decide_eq_true c19
                        clear c19
                        by_cases c20 : 0 ≤ x8_2
                        · rw [if_pos c20] at H
                          have c20b0 : decide (0 ≤ x8_2) = true := decide_eq_true c20
                          clear c20
                          obtain ⟨y897, hy897⟩ : ∃ y_ : List (S54), y_ = (x4_2.set (x8_2 : Int).toNat (⟨false, 7, false⟩ : S54)) := ⟨_, rfl⟩
                          replace H : (cutplanelaw20_CutsTable.l1 k2 a0 x3_1 y897 (wrap64 (x8_2 + 1))) = some r := by first | (rw [hy897]; with_reducible exact H) | (have H2_ := (Option.bind_some _ _).symm.trans H; rw [hy897]; with_reducible exact H2_) | (have H2_ := (Option.bind_some _ _).symm.trans H; with_reducible exact H2_) | with_reducible exact H | (rw [hy897]; exact H) | exact H
                          have Ny897 := Aside0.mk hy897
                          clear hy897
                          have H' := Aside0.mk H
                          clear H
                          have p21 : 0 ≤ (x8_2 : Int) := of_decide_eq_true (by first | (with_reducible assumption) | assumption)
                          have q21 : (x8_2 : Int) < ((x4_2.length : Int) : Int) := of_decide_eq_true (by first | (with_reducible assumption) | assumption)
                          obtain ⟨go21, co21, eo21, gb21, gl21, cl21, HG21⟩ := Kd.R_form HO_4.out (by omega)
                          (first | cases eo21 | (injection eo21 with ea_ en_ ec_; (first | subst ea_ | (injection ea_ with ea_; subst ea_)); subst ec_; clear en_))
                          have GB21 := Aside0.mk gb21
                          have GG21 := Aside0.mk HG21
                          clear gb21 gl21 HG21
                          obtain ⟨ce21, hcl21, hM21, hcc21, hfr21⟩ := Kd.R_elem HO_4.out z54 (x8_2 : Int) p21 q21
                          obtain rfl := k54_openM hM21
                          have hx21_0 : wr.cell? ⟨go21, (x8_2 : Int).toNat * 3, none⟩ = some (.bool ((rd_T54 x4_2 x8_2).f0)) := hcc21 0 _ rfl
                          have hx21_1 : wr.cell? ⟨go21, (x8_2 : Int).toNat * 3 + 1, none⟩ = some (.int .i64 ((rd_T54 x4_2 x8_2).f1)) := hcc21 1 _ rfl
                          have hx21_2 : wr.cell? ⟨go21, (x8_2 : Int).toNat * 3 + 2, none⟩ = some (.bool ((rd_T54 x4_2 x8_2).f2)) := hcc21 2 _ rfl
                          have hf21_0 : wr.frozen? ⟨go21, (x8_2 : Int).toNat * 3, none⟩ = false := hfr21 0
                          have hf21_1 : wr.frozen? ⟨go21, (x8_2 : Int).toNat * 3 + 1, none⟩ = false := hfr21 1
                          have hf21_2 : wr.frozen? ⟨go21, (x8_2 : Int).toNat * 3 + 2, none⟩ = false := hfr21 2
                          clear hcl21 hcc21 hfr21 hM21
                          replace p21 := eq_true p21
                          replace q21 := eq_true q21
                          have HX22 := Aside0.mk (show Kd.R k54 54 wr w.heap.size (fun _ => True) (.slice (some ⟨go21, 0, none⟩) x4_2.length co17) x4_2 from (by (with_reducible repeat (first | apply Kd.R_alloc | apply Kd.R_drewN | apply Kd.R_drew)); exact HO_4.out))
                          obtain ⟨ce22, hcl22, hM22, hcc22, hfr22⟩ := Kd.R_elem HX22.out z54 (x8_2 : Int) (of_decide_eq_true (by first | (with_reducible assumption) | assumption)) (by have h_ : (x8_2 : Int) < ((x4_2.length : Int) : Int) := of_decide_eq_true (by first | (with_reducible assumption) | assumption); first | exact h_ | (have e_ := (Kd.R_reads' HO_4.out).1; omega) | simpa using h_)
                          obtain rfl := k54_openM hM22
                          have HP22 := Kd.R_seg HX22.out (x8_2 : Int) (of_decide_eq_true (by first | (with_reducible assumption) | assumption)) (by have h_ : (x8_2 : Int) < ((x4_2.length : Int) : Int) := of_decide_eq_true (by first | (with_reducible assumption) | assumption); first | exact h_ | (have e_ := (Kd.R_reads' HO_4.out).1; omega) | simpa using h_) (seg := [.bool false, .int .i64 7, .bool false]) (j := 0) hcl22 hcc22 (show 3 ≤ 3 from by decide) (x' := (⟨false, 7, false⟩ : S54)) (k54_mkM _ _ _ (⟨false, 7, false⟩ : S54) ) (fun _ hk => hk)
                          have hx22_0 := hcc22 0 _ rfl
                          (try simp only [show (k54).sz = 3 from rfl, Nat.mul_one, Nat.add_zero] at hx22_0)
                          have hf22_0 := hfr22 0
                          (try simp only [show (k54).sz = 3 from rfl, Nat.mul_one, Nat.add_zero] at hf22_0)
                          have hx22_1 := hcc22 1 _ rfl
                          (try simp only [show (k54).sz = 3 from rfl, Nat.mul_one, Nat.add_zero] at hx22_1)
                          have hf22_1 := hfr22 1
                          (try simp only [show (k54).sz = 3 from rfl, Nat.mul_one, Nat.add_zero] at hf22_1)
                          have hx22_2 := hcc22 2 _ rfl
                          (try simp only [show (k54).sz = 3 from rfl, Nat.mul_one, Nat.add_zero] at hx22_2)
                          have hf22_2 := hfr22 2
                          (try simp only [show (k54).sz = 3 from rfl, Nat.mul_one, Nat.add_zero] at hf22_2)
                          clear hcl22 hcc22 hfr22 hM22
                          go_wp2_with (first | ((with_reducible refine gate_store (t := 54) (p := 69) rfl ?_); refine store_event (t := 54) (p := 69) (v := ?vo_w23) (w1 := (((wr.setCell ⟨go21, (x8_2 : Int).toNat * 3, none⟩ (.bool false)).setCell ⟨go21, (x8_2 : Int).toNat * 3 + 1, none⟩ (.int .i64 7)).setCell ⟨go21, (x8_2 : Int).toNat * 3 + 2, none⟩ (.bool false))) ?hg ?ho ?hn ?hr ?_; (case ho => rfl); (case hg => rfl); (case hn => rfl); (case hr => first | (go_simp; done) | (go_simp; rfl)); intro w23 hw; have hg : wr.grownBy w23 (some go21) := (by rw [hw]; exact HP22.2); have hp_ : Kd.R k54 54 w23 w.heap.size (fun _ => True) (.slice (some ⟨go21, 0, none⟩) x4_2.length co17) y897 := (by rw [hw, Ny897.out]; exact HP22.1); clear HP22; have n0_ := Aside0.mk (hp_); have n1_ := Aside0.mk ((by rw [hw]; exact below_set (below_set (below_set (HB.out) GB21.out) GB21.out) GB21.out : Below w.heap.size w w23)); clear HO_4; clear HB; have HO_4 := n0_; have HB := n1_; clear n0_ n1_; clear hg hw hp_))
                          (try simp only [← hl4_2])
                          go_roundg k2
                          case measure => have := HK1.out; have := HK2.out; omega
                          case rel => exact ⟨(y897), (wrap64 (x8_2 + 1)), (by first | rfl | (simp; done) | (simp [*]; done)), H', ⟨by have := HK1.out; have := HK2.out; omega⟩, ⟨by (try simp only [hl4_2]); (with_reducible repeat (first | apply Kd.R_alloc | apply Kd.R_drewN | apply Kd.R_drew)); exact HO_4.out⟩, ⟨by repeat (first | (with_reducible first | exact HB.out | apply below_alloc | apply pw_below_drewN | apply below_drew1) | exact HB.out)⟩⟩
                        · rw [if_neg c20] at H
                          exact absurd H (by simp)
                      · rw [if_neg c19] at H
                        have c19b0 : decide (x8_2 < (x4_2.length : Int)) = false := decide_eq_false c19
                        clear c19
                        have H' := Aside0.mk H
                        clear H
                        go_wp2
                        (try simp only [← hl4_2])
                        go_roundg k2
                        case measure => have := HK1.out; have := HK2.out; omega
                        case rel => exact ⟨(wrap64 (x3_1 + 1)), (by first | rfl | (simp; done) | (simp [*]; done)), H', ⟨by have := HK1.out; have := HK2.out; omega⟩, ⟨by repeat (first | (with_reducible first | exact HB.out | apply below_alloc | apply pw_below_drewN | apply below_drew1) | exact HB.out)⟩⟩
                · rw [if_neg c13] at H
                  exact absurd H (by simp)
              · rw [if_neg c12] at H
                exact absurd H (by simp)
            · rw [if_neg c10] at H
              exact absurd H (by simp)
          · replace c9 := Bool.eq_false_iff.mpr c9
            subst c9
            have H1 : (none) = some r := by rw [if_neg (show ¬ (false = true) by decide)] at H; exact H
            clear H
            have H := H1
            clear H1
            exact absurd H (by simp)
        · replace c6 := Bool.eq_false_iff.mpr c6
          subst c6
          have H1 : (if (t885.length : Int) = 0 then (if t886 = 2 then (if t889 = 0 then (if t890 = 2 then (cutplanelaw20_CutsTable.l0 k1 a0 (wrap64 (x3_1 + 1))) else (none)) else (none)) else (none)) else (none)) = some r := by rw [if_neg (show ¬ (false = true) by decide)] at H; exact H
          clear H
          have H := H1
          clear H1
          by_cases c24 : (t885.length : Int) = 0
          · rw [if_pos c24] at H
            have c24b0 : ((t885.length : Int) == 0) = true := beq_iff_eq.mpr c24
            have c24b1 : ((t885.length : Int) != 0) = false := bne_eq_false_iff_eq.mpr c24
            clear c24
            by_cases c25 : t886 = 2
            · rw [if_pos c25] at H
              have c25b0 : (t886 == 2) = true := beq_iff_eq.mpr c25
              have c25b1 : (t886 != 2) = false := bne_eq_false_iff_eq.mpr c25
              clear c25
              by_cases c26 : t889 = 0
              · rw [if_pos c26] at H
                have c26b0 : (t889 == 0) = true := beq_iff_eq.mpr c26
                have c26b1 : (t889 != 0) = false := bne_eq_false_iff_eq.mpr c26
                clear c26
                by_cases c27 : t890 = 2
                · rw [if_pos c27] at H
                  have c27b0 : (t890 == 2) = true := beq_iff_eq.mpr c27
                  have c27b1 : (t890 != 2) = false := bne_eq_false_iff_eq.mpr c27
                  clear c27
                  have H' := Aside0.mk H
                  clear H
                  go_wp2_with (first | ((with_reducible refine gate_callee (f := 42) rfl ?_); refine goesL_ (some 15) rfl rfl Try.func42 (by kernel_rfl) rfl #[.int .u8 a0] rfl (by (try simp only [List.map_toArray, List.map_cons, List.map_nil]); first | done | rfl | (simp only [List.length_drop, List.length_take]; rfl)) ?_; (with_reducible refine (cuts_Rays.calls a0 t885 t886 _ A3.out).mono ?_); rintro e w28 ⟨v887, rfl, ho0, hb⟩; refine ⟨_, rfl, ?_⟩; have n0_ := Aside0.mk (Kd.R_lower ho0 (below_size (by repeat (first | (with_reducible first | exact HB.out | apply below_alloc | apply pw_below_drewN | apply below_drew1) | exact HB.out)))); have n1_ := Aside0.mk (below_step (by repeat (first | (with_reducible first | exact HB.out | apply below_alloc | apply pw_below_drewN | apply below_drew1) | exact HB.out)) hb); clear HB; have HO888 := n0_; have HB := n1_; clear n0_ n1_; (try clear hb); (try clear hb2); (try clear hk); (try clear hi); (try clear ho0)) | ((with_reducible refine gate_callee (f := 43) rfl ?_); refine goesL_ (some 20) rfl rfl Try.func43 (by kernel_rfl) rfl #[.int .u8 a0] rfl (by (try simp only [List.map_toArray, List.map_cons, List.map_nil]); first | done | rfl | (simp only [List.length_drop, List.length_take]; rfl)) ?_; (with_reducible refine (cuts_Parity.calls a0 t889 t890 _ A4.out).mono ?_); rintro e w29 ⟨rfl, hb⟩; refine ⟨_, rfl, ?_⟩; have n0_ := Aside0.mk (Kd.R_below (by (with_reducible repeat (first | apply Kd.R_alloc | apply Kd.R_drewN | apply Kd.R_drew)); exact HO888.out) hb); have n1_ := Aside0.mk (below_step (by repeat (first | (with_reducible first | exact HB.out | apply below_alloc | apply pw_below_drewN | apply below_drew1) | exact HB.out)) hb); clear HO888; clear HB; have HO888 := n0_; have HB := n1_; clear n0_ n1_; (try clear hb); (try clear hb2); (try clear hk); (try clear hi)) | ((with_reducible refine gate_callee (f := 36) rfl ?_); refine goesL_ (some 24) rfl rfl Try.func36 (by kernel_rfl) rfl #[.int .u8 a0] rfl (by (try simp only [List.map_toArray, List.map_cons, List.map_nil]); first | done | rfl | (simp only [List.length_drop, List.length_take]; rfl)) ?_; (with_reducible refine (cutplaneref20_Is.calls a0 false _ A5.out).mono ?_); rintro e w' ⟨rfl, ⟨nd, rfl⟩⟩; refine ⟨_, rfl, ?_⟩; obtain ⟨Ao30, co30, eo30⟩ := Kd.R_slice HO888.out; subst eo30))
                  go_roundg k1
                  case measure => have := HK1.out; omega
                  case rel => exact ⟨(wrap64 (x3_1 + 1)), (by first | rfl | (simp; done) | (simp [*]; done)), H', ⟨by have := HK1.out; omega⟩, ⟨by repeat (first | (with_reducible first | exact HB.out | apply below_alloc | apply pw_below_drewN | apply below_drew1) | exact HB.out)⟩⟩
                · rw [if_neg c27] at H
                  exact absurd H (by simp)
              · rw [if_neg c26] at H
                exact absurd H (by simp)
            · rw [if_neg c25] at H
              exact absurd H (by simp)
          · rw [if_neg c24] at H
            exact absurd H (by simp)
      · rw [if_neg c2] at H
        have c2b0 : decide (x3_1 < 2) = false := decide_eq_false c2
        clear c2
        replace H := Option.bind_eq_some_iff.mp H
        obtain ⟨t898, A310, H⟩ := H
        replace H : (some t898) = some r := H
        have A31 := Aside0.mk A310
        clear A310
        obtain rfl := Option.some.inj H
        go_wp2_with (first | ((with_reducible refine gate_callee (f := 37) rfl ?_); refine goesL_ (some 70) rfl rfl Try.func37 (by kernel_rfl) rfl #[] rfl (by (try simp only [List.map_toArray, List.map_cons, List.map_nil]); first | done | rfl | (simp only [List.length_drop, List.length_take]; rfl)) ?_; (with_reducible refine (cutplanelaw20_known.calls k1  t898 _ A31.out).mono ?_); rintro e w32 ⟨rfl, hb⟩; refine ⟨_, rfl, ?_⟩; have n0_ := Aside0.mk (below_step (by repeat (first | (with_reducible first | exact HB.out | apply below_alloc | apply pw_below_drewN | apply below_drew1) | exact HB.out)) hb); clear HB; have HB := n0_; clear n0_; (try clear hb); (try clear hb2); (try clear hk); (try clear hi)))
        go_ret
        exact ⟨by first | rfl | (simp [errW_none, errW_some] <;> rfl) | (simp [*, errW_none, errW_some] <;> rfl), by repeat (first | (with_reducible first | exact HB.out | apply below_alloc | apply pw_below_drewN | apply below_drew1) | exact HB.out)⟩
/-- THE ONE PURE STATEMENT of cutplanelaw20_CutsTable: yours. -/
def cutplanelaw20_CutsTable.Pure : Prop := ∀ (a0 : Int), (Lit.int .u8 a0).wf = true → ∃ k, cutplanelaw20_CutsTable.f k a0 = some true
theorem cutplanelaw20_CutsTable.walk (P : cutplanelaw20_CutsTable.Pure) (a0 : Int) (w : World) (w0 : (Lit.int .u8 a0).wf = true) :
    Calls Try.prog 10 #[.int .u8 a0] w fun e w' => e = .returned (.bool true) ∧ Below w.heap.size w w' := by
  obtain ⟨k, h⟩ := P a0 w0
  refine (cutplanelaw20_CutsTable.calls k a0 true w h).mono ?_
  rintro e w' ⟨rfl, hd⟩
  exact ⟨rfl, hd⟩
end Go.Proofs.Ytgaabjjenlbmhaa.PA
end

section
namespace Go.Proofs.Ytgaabjjenlbmhaa.Wd
open Go
theorem nat_and_lt {n a : Nat} (h : a < 2 ^ n) : a &&& 2 ^ n = 0 := by
  apply Nat.eq_of_testBit_eq
  intro i
  rw [Nat.testBit_and, Nat.testBit_two_pow, Nat.zero_testBit]
  by_cases e : n = i
  · subst e; simp [Nat.testBit_lt_two_pow h]
  · simp [e]
theorem nat_and_ge {n l : Nat} (h : l < 2 ^ n) : (2 ^ n + l) &&& 2 ^ n = 2 ^ n := by
  apply Nat.eq_of_testBit_eq
  intro i
  rw [Nat.testBit_and, Nat.testBit_two_pow]
  by_cases e : n = i
  · subst e; rw [Nat.testBit_two_pow_add_eq, Nat.testBit_lt_two_pow h]; simp
  · simp [e]
theorem nat_or_lt {n a : Nat} (h : a < 2 ^ n) : a ||| 2 ^ n = 2 ^ n + a := by
  have := Nat.two_pow_add_eq_or_of_lt h 1
  rw [Nat.mul_one] at this
  rw [this, Nat.or_comm]
theorem nat_mask {n a : Nat} (hn : n ≤ 63) (h : a < 2 ^ (n + 1)) : a &&& (2 ^ 64 - (2 ^ n + 1)) = a % 2 ^ n := by
  apply Nat.eq_of_testBit_eq
  intro i
  rw [Nat.testBit_and, Nat.testBit_mod_two_pow, Nat.testBit_two_pow_sub_succ (by exact Nat.pow_lt_pow_right (by decide) (by omega)), Nat.testBit_two_pow]
  by_cases e : i < n
  · simp [e, show n ≠ i by omega, show i < 64 by omega]
  · by_cases e2 : n = i
    · subst e2; simp
    · have : a.testBit i = false := Nat.testBit_lt_two_pow (Nat.lt_of_lt_of_le h (Nat.pow_le_pow_right (by decide) (by omega)))
      simp [this]
section
variable {w : Int}
theorem andNot31 (h0 : 0 ≤ w) (h1 : w < 4294967296) : Go.bits .andNot .u64 w 2147483648 = w % 2147483648 := by
  obtain ⟨a, rfl⟩ := Int.eq_ofNat_of_zero_le h0
  have ha : a < 2 ^ (31 + 1) := by omega
  have e := u64_andNot_nat a 2147483648 (by omega) (by decide)
  have m : a &&& 18446744071562067967 = a % 2147483648 := nat_mask (n := 31) (by decide) ha
  rw [show ((2147483648 : Int)) = ((2147483648 : Nat) : Int) from rfl, e, show (18446744073709551615 - 2147483648 : Nat) = 18446744071562067967 from rfl, m]
  omega
theorem andNot63 (h0 : 0 ≤ w) (h1 : w < 18446744073709551616) : Go.bits .andNot .u64 w 9223372036854775808 = w % 9223372036854775808 := by
  obtain ⟨a, rfl⟩ := Int.eq_ofNat_of_zero_le h0
  have ha : a < 2 ^ (63 + 1) := by omega
  have e := u64_andNot_nat a 9223372036854775808 (by omega) (by decide)
  have m : a &&& 9223372036854775807 = a % 9223372036854775808 := nat_mask (n := 63) (by decide) ha
  rw [show ((9223372036854775808 : Int)) = ((9223372036854775808 : Nat) : Int) from rfl, e, show (18446744073709551615 - 9223372036854775808 : Nat) = 9223372036854775807 from rfl, m]
  omega
theorem and31 (h0 : 0 ≤ w) (h1 : w < 4294967296) : Go.bits .and .u64 w 2147483648 = if w ≥ 2147483648 then 2147483648 else 0 := by
  obtain ⟨a, rfl⟩ := Int.eq_ofNat_of_zero_le h0
  have e := u64_and_nat a 2147483648 (by omega) (by decide)
  rw [show ((2147483648 : Int)) = ((2147483648 : Nat) : Int) from rfl, e]
  by_cases c : a < 2 ^ 31
  · have m : a &&& 2147483648 = 0 := nat_and_lt (n := 31) c
    rw [m, if_neg (by omega)]; rfl
  · obtain ⟨l, rfl⟩ : ∃ l, a = 2 ^ 31 + l := ⟨a - 2 ^ 31, by omega⟩
    have m : (2 ^ 31 + l) &&& 2147483648 = 2147483648 := nat_and_ge (n := 31) (l := l) (by omega)
    rw [m, if_pos (by omega)]
theorem and63 (h0 : 0 ≤ w) (h1 : w < 18446744073709551616) : Go.bits .and .u64 w 9223372036854775808 = if w ≥ 9223372036854775808 then 9223372036854775808 else 0 := by
  obtain ⟨a, rfl⟩ := Int.eq_ofNat_of_zero_le h0
  have e := u64_and_nat a 9223372036854775808 (by omega) (by decide)
  rw [show ((9223372036854775808 : Int)) = ((9223372036854775808 : Nat) : Int) from rfl, e]
  by_cases c : a < 2 ^ 63
  · have m : a &&& 9223372036854775808 = 0 := nat_and_lt (n := 63) c
    rw [m, if_neg (by omega)]; rfl
  · obtain ⟨l, rfl⟩ : ∃ l, a = 2 ^ 63 + l := ⟨a - 2 ^ 63, by omega⟩
    have m : (2 ^ 63 + l) &&& 9223372036854775808 = 9223372036854775808 := nat_and_ge (n := 63) (l := l) (by omega)
    rw [m, if_pos (by omega)]
theorem or31 (h0 : 0 ≤ w) (h1 : w < 2147483648) : Go.bits .or .u64 w 2147483648 = w + 2147483648 := by
  obtain ⟨a, rfl⟩ := Int.eq_ofNat_of_zero_le h0
  have e := u64_or_nat a 2147483648 (by omega) (by decide)
  have m : a ||| 2147483648 = 2 ^ 31 + a := nat_or_lt (n := 31) (by omega)
  rw [show ((2147483648 : Int)) = ((2147483648 : Nat) : Int) from rfl, e, m]
  omega
theorem or63 (h0 : 0 ≤ w) (h1 : w < 9223372036854775808) : Go.bits .or .u64 w 9223372036854775808 = w + 9223372036854775808 := by
  obtain ⟨a, rfl⟩ := Int.eq_ofNat_of_zero_le h0
  have e := u64_or_nat a 9223372036854775808 (by omega) (by decide)
  have m : a ||| 9223372036854775808 = 2 ^ 63 + a := nat_or_lt (n := 63) (by omega)
  rw [show ((9223372036854775808 : Int)) = ((9223372036854775808 : Nat) : Int) from rfl, e, m]
  omega
theorem wrapu64 (n : Int) : IntKind.u64.wrap n = n % 18446744073709551616 := by simp [IntKind.wrap, IntKind.bits, IntKind.signed]
theorem wraps_u64 (n : Int) (h₀ : 0 ≤ n) (h₁ : n < 2 ^ 64) : IntKind.u64.wrap n = n := by
  rw [wrapu64]; omega
theorem and23 (h0 : 0 ≤ w) (h1 : w < 18446744073709551616) : Go.bits .and .u64 w 8388607 = w % 8388608 :=
  bits_mask .u64 64 (by decide) wraps_u64 23 (by decide) w h0 (by omega)
theorem and52 (h0 : 0 ≤ w) (h1 : w < 18446744073709551616) : Go.bits .and .u64 w 4503599627370495 = w % 4503599627370496 :=
  bits_mask .u64 64 (by decide) wraps_u64 52 (by decide) w h0 (by omega)
end
end Go.Proofs.Ytgaabjjenlbmhaa.Wd
end

section
namespace Go.Proofs.Ytgaabjjenlbmhaa.PA
open Go.RowKit Go.Proofs.YtgaabjjenlbmhaaW.PrintWords Go.Proofs.YtgaabjjenlbmhaaW.PrintLast Go.Proofs.YtgaabjjenlbmhaaW.PrintMore Go.Proofs.Ytgaabjjenlbmhaa.Wd
set_option linter.unusedSimpArgs false
set_option linter.unusedVariables false
/-- the class of a size: P one above the fractions, I the infinite size -/
def cls (P I s : Int) : Int := if s = 0 then 1 else if s < P then 2 else if s < I then 3 else if s = I then 4 else 5
def sgn (f : Int) : Int := if f = 1 then 2147483648 else 9223372036854775808
def one (f : Int) : Int := if f = 1 then 8388608 else 4503599627370496
def infw (f : Int) : Int := if f = 1 then 2139095040 else 9218868437227405312
def nanw (f : Int) : Int := if f = 1 then 2143289344 else 9221120237041090560
def cl (f w : Int) : Int := cls (one f) (infw f) (w % sgn f)
/-- the error of a word, as Good tells it -/
def err (f w : Int) : Int := if f = 1 then (if w ≥ 4294967296 then 6 else 0) else if f = 2 then 0 else 4
/-- a good word -/
def Gd (f w : Int) : Prop := (f = 1 ∧ 0 ≤ w ∧ w < 4294967296) ∨ (f = 2 ∧ 0 ≤ w ∧ w < 18446744073709551616)
def U (w : Int) : Prop := 0 ≤ w ∧ w < 18446744073709551616
theorem Gd.u {f w : Int} (h : Gd f w) : U w := by rcases h with ⟨_, a, b⟩ | ⟨_, a, b⟩ <;> exact ⟨a, by omega⟩
theorem Gd.err {f w : Int} (h : Gd f w) : err f w = 0 := by
  rcases h with ⟨rfl, a, b⟩ | ⟨rfl, a, b⟩
  · simp [PA.err]; omega
  · simp [PA.err]
theorem rd_zero (w : Int) : rd [w] 0 = w := by rfl
theorem top31 : Go.bits .or .u64 2147483648 (IntKind.u64.wrap (2147483648 - 1)) = 4294967295 := by decide +kernel
theorem top63 : Go.bits .or .u64 9223372036854775808 (IntKind.u64.wrap (9223372036854775808 - 1)) = 18446744073709551615 := by decide +kernel
/-- the shape of a format -/
def shp (f : Int) : Int × Int × Int := if f = 1 then (23, 255, 2147483648) else if f = 2 then (52, 2047, 9223372036854775808) else (0, 0, 0)
theorem open_nil (k : Nat) (f : Int) : word_open.f (k + 1) f [] = some ((shp f).1, (shp f).2.1, (shp f).2.2, if f = 1 ∨ f = 2 then 0 else 4) := by
  unfold word_open.f word_shapeOf.f shp
  by_cases h1 : f = 1
  · subst h1; simp [word_open.l0]
  · by_cases h2 : f = 2
    · subst h2; simp [word_open.l0]
    · simp [h1, h2]
theorem open_one (k : Nat) (f w : Int) (hu : U w) : word_open.f (k + 2) f [w] = some ((shp f).1, (shp f).2.1, (shp f).2.2, err f w) := by
  obtain ⟨h0, h3⟩ := hu
  unfold word_open.f word_shapeOf.f shp err
  by_cases h1 : f = 1
  · subst h1
    have l1 : (([w] : List Int).length : Int) = 1 := rfl
    have w1 : wrap64 (0 + 1) = 1 := by decide +kernel
    simp only [if_true, Option.bind_some, word_open.l0, l1, rd_zero, top31, Int.zero_lt_one, Int.le_refl, w1]
    by_cases c : w ≥ 4294967296
    · rw [if_pos (by omega)]; simp [c]
    · rw [if_neg (by omega)]; simp [c]
  · by_cases h2 : f = 2
    · subst h2
      have l1 : (([w] : List Int).length : Int) = 1 := rfl
      have w1 : wrap64 (0 + 1) = 1 := by decide +kernel
      simp only [show (¬ ((2 : Int) = 1)) by decide, if_false, if_true, Option.bind_some, word_open.l0, l1, rd_zero, top63, Int.zero_lt_one, Int.le_refl, w1]
      rw [if_neg (by omega)]
      simp
    · simp [h1, h2]
theorem shape_inf1 : word_shape_inf.f 23 255 2147483648 = some 2139095040 := by decide +kernel
theorem shape_inf2 : word_shape_inf.f 52 2047 9223372036854775808 = some 9218868437227405312 := by decide +kernel
theorem shape_none1 : word_shape_none.f 23 255 2147483648 = some 2143289344 := by decide +kernel
theorem shape_none2 : word_shape_none.f 52 2047 9223372036854775808 = some 9221120237041090560 := by decide +kernel
theorem shl23 : shl .u64 1 23 = 8388608 := by decide +kernel
theorem shl52 : shl .u64 1 52 = 4503599627370496 := by decide +kernel
theorem shape_class {f w : Int} (h : Gd f w) : word_shape_class.f (shp f).1 (shp f).2.1 (shp f).2.2 w = some (cl f w) := by
  rcases h with ⟨rfl, h0, h1⟩ | ⟨rfl, h0, h1⟩
  · have e1 : shp 1 = (23, 255, 2147483648) := rfl
    rw [e1]
    simp only [word_shape_class.f, andNot31 h0 h1, shape_inf1, Option.bind_some, shl23, cl, cls, one, infw, sgn, if_true]
    repeat' split
    all_goals first | rfl | (exfalso; omega)
  · have e1 : shp 2 = (52, 2047, 9223372036854775808) := rfl
    rw [e1]
    simp only [word_shape_class.f, andNot63 h0 h1, shape_inf2, Option.bind_some, shl52, cl, cls, one, infw, sgn]
    simp only [show (¬ ((2 : Int) = 1)) by decide, if_false]
    repeat' split
    all_goals first | rfl | (exfalso; omega)
theorem split_good (k : Nat) {f w : Int} (h : Gd f w) : word_Split.f (k + 2) f w = some (decide (w ≥ sgn f), w % sgn f / one f, w % one f, 0) := by
  unfold word_Split.f
  rw [open_one k f w h.u, h.err]
  rcases h with ⟨rfl, h0, h1⟩ | ⟨rfl, h0, h1⟩
  · have e1 : shp 1 = (23, 255, 2147483648) := rfl
    have e2 : IntKind.u64.wrap (8388608 - 1) = 8388607 := by decide +kernel
    have e3 : shr .u64 (w % 2147483648) 23 = w % 2147483648 / 8388608 := rfl
    rw [e1]
    simp only [Option.bind_some, if_true, word_shape_split.f, andNot31 h0 h1, and31 h0 h1, shl23, e2, e3, sgn, one]
    rw [and23 (by omega) (by omega)]
    have e4 : wrap64 (w % 2147483648 / 8388608) = w % 2147483648 / 8388608 := by unfold wrap64; omega
    have e5 : w % 2147483648 % 8388608 = w % 8388608 := by omega
    rw [e4, e5]
    by_cases c : w ≥ 2147483648 <;> simp [c]
  · have e1 : shp 2 = (52, 2047, 9223372036854775808) := rfl
    have e2 : IntKind.u64.wrap (4503599627370496 - 1) = 4503599627370495 := by decide +kernel
    have e3 : shr .u64 (w % 9223372036854775808) 52 = w % 9223372036854775808 / 4503599627370496 := rfl
    rw [e1]
    simp only [Option.bind_some, if_true, word_shape_split.f, andNot63 h0 h1, and63 h0 h1, shl52, e2, e3, sgn, one]
    rw [and52 (by omega) (by omega)]
    have e4 : wrap64 (w % 9223372036854775808 / 4503599627370496) = w % 9223372036854775808 / 4503599627370496 := by unfold wrap64; omega
    have e5 : w % 9223372036854775808 % 4503599627370496 = w % 4503599627370496 := by omega
    rw [e4, e5]
    by_cases c : w ≥ 9223372036854775808 <;> simp [c]
theorem class_good (k : Nat) {f w : Int} (h : Gd f w) : word_Class.f (k + 2) f w = some (cl f w, 0) := by
  unfold word_Class.f
  rw [open_one k f w h.u, h.err]
  simp only [Option.bind_some, if_true, shape_class h]
theorem good_word (k : Nat) {f w : Int} (hu : U w) : word_Good.f (k + 2) f w = some (err f w) := by
  unfold word_Good.f
  rw [open_one k f w hu]
  simp only [Option.bind_some]
def absw (f w : Int) : Int := if cl f w = 5 then nanw f else w % sgn f
theorem shape_none {f w : Int} (h : Gd f w) : word_shape_none.f (shp f).1 (shp f).2.1 (shp f).2.2 = some (nanw f) := by
  rcases h with ⟨rfl, _, _⟩ | ⟨rfl, _, _⟩
  · exact shape_none1
  · exact shape_none2
theorem turned_good (k : Nat) {f w : Int} (h : Gd f w) {g : Int → Int → Int → Option Int} {z : Int} (hg : g (shp f).1 (shp f).2.1 (shp f).2.2 = some z) :
    word_turned.f (k + 2) f w g = some (if cl f w = 5 then nanw f else z, 0) := by
  unfold word_turned.f
  rw [open_one k f w h.u, h.err]
  simp only [Option.bind_some, if_true, shape_class h, shape_none h, hg]
  split <;> rfl
theorem shp3 {f w : Int} (h : Gd f w) : (shp f).2.2 = sgn f := by
  rcases h with ⟨rfl, _, _⟩ | ⟨rfl, _, _⟩ <;> rfl
theorem abs_good (k : Nat) {f w : Int} (h : Gd f w) : word_Abs.f (k + 2) f w = some (absw f w, 0) := by
  unfold word_Abs.f
  rw [turned_good k h (z := w % sgn f) ?_]
  · rfl
  · unfold word_Abs_1.f
    rw [shp3 h]
    rcases h with ⟨rfl, h0, h1⟩ | ⟨rfl, h0, h1⟩
    · exact congrArg some (andNot31 h0 h1)
    · exact congrArg some (andNot63 h0 h1)
theorem sgn_cases (f : Int) : sgn f = 2147483648 ∨ sgn f = 9223372036854775808 := by unfold sgn; split <;> simp
theorem open_nil' (k : Nat) (f : Int) : word_open.f (k + 1) f ([] : List Int) = some ((shp f).1, (shp f).2.1, (shp f).2.2, if f = 1 ∨ f = 2 then 0 else 4) := open_nil k f
end Go.Proofs.Ytgaabjjenlbmhaa.PA
end

section
namespace Go.Proofs.Ytgaabjjenlbmhaa.PA
open Go.RowKit Go.Proofs.YtgaabjjenlbmhaaW.PrintWords Go.Proofs.YtgaabjjenlbmhaaW.PrintLast Go.Proofs.YtgaabjjenlbmhaaW.PrintMore Go.Proofs.Ytgaabjjenlbmhaa.Wd
set_option linter.unusedSimpArgs false
set_option linter.unusedVariables false
theorem named_good (k : Nat) {f : Int} (hf : f = 1 ∨ f = 2) (b : Bool) {g : Int → Int → Int → Option Int} {z : Int} (hg : g (shp f).1 (shp f).2.1 (shp f).2.2 = some z) (h0 : 0 ≤ z) (h1 : z < sgn f) :
    word_named.f (k + 1) f b g = some (if b then z + sgn f else z, 0) := by
  unfold word_named.f
  rw [open_nil' k f]
  simp only [Option.bind_some, if_pos hf, if_true, hg]
  have e : Go.bits .or .u64 z (shp f).2.2 = z + sgn f := by
    rcases hf with rfl | rfl
    · exact or31 h0 h1
    · exact or63 h0 h1
  rw [e]
  cases b <;> rfl
theorem named_nof (k : Nat) {f : Int} (hf : ¬ (f = 1 ∨ f = 2)) (b : Bool) {g : Int → Int → Int → Option Int} : word_named.f (k + 1) f b g = some (0, 4) := by
  unfold word_named.f
  rw [open_nil' k f]
  simp only [Option.bind_some, if_neg hf]
  rw [if_neg (by decide)]
theorem infw_lt (f : Int) : 0 ≤ infw f ∧ infw f < sgn f ∧ infw f < nanw f ∧ nanw f < sgn f ∧ one f < infw f ∧ 0 < one f := by unfold infw sgn nanw one; split <;> decide
theorem none_good (k : Nat) {f : Int} (hf : f = 1 ∨ f = 2) : word_None.f (k + 1) f = some (nanw f, 0) := by
  unfold word_None.f
  rw [named_good k hf false (z := nanw f) (by rcases hf with rfl | rfl; exact shape_none1; exact shape_none2) (by have := infw_lt f; omega) (infw_lt f).2.2.2.1]
  rfl
theorem none_nof (k : Nat) {f : Int} (hf : ¬ (f = 1 ∨ f = 2)) : word_None.f (k + 1) f = some (0, 4) := by unfold word_None.f; rw [named_nof k hf]; rfl
end Go.Proofs.Ytgaabjjenlbmhaa.PA
end

section
namespace Go.Proofs.Ytgaabjjenlbmhaa.PA
open Go.RowKit Go.Proofs.YtgaabjjenlbmhaaW.PrintWords Go.Proofs.YtgaabjjenlbmhaaW.PrintLast Go.Proofs.YtgaabjjenlbmhaaW.PrintMore Go.Proofs.Ytgaabjjenlbmhaa.Wd
set_option linter.unusedSimpArgs false
set_option linter.unusedVariables false
def errz (f a b : Int) : Int := if err f a = 0 then err f b else err f a
def Gz (f a b : Int) : Prop := Gd f a ∧ Gd f b
theorem Gz.err {f a b : Int} (h : Gz f a b) : errz f a b = 0 := by unfold errz; rw [h.1.err, h.2.err]; rfl
theorem good_pair (k : Nat) {f a b : Int} (ha : U a) (hb : U b) : pair_Good.f (k + 2) f a b = some (errz f a b) := by
  unfold pair_Good.f errz
  rw [good_word k ha]
  simp only [Option.bind_some, good_word k hb]
  split <;> rfl
end Go.Proofs.Ytgaabjjenlbmhaa.PA
end

section
namespace Go.Proofs.Ytgaabjjenlbmhaa.PA
open Go.RowKit Go.Proofs.YtgaabjjenlbmhaaW.PrintWords Go.Proofs.YtgaabjjenlbmhaaW.PrintLast Go.Proofs.YtgaabjjenlbmhaaW.PrintMore Go.Proofs.Ytgaabjjenlbmhaa.Wd
set_option linter.unusedSimpArgs false
set_option linter.unusedVariables false
/-- the digit of a place, or nought -/
def at0 (l : List Int) (i : Nat) : Nat := if h : i < l.length then l[i].toNat else 0
end Go.Proofs.Ytgaabjjenlbmhaa.PA
end

section
namespace Go.Proofs.Ytgaabjjenlbmhaa.PA
open Go.RowKit Go.Proofs.YtgaabjjenlbmhaaW.PrintWords Go.Proofs.YtgaabjjenlbmhaaW.PrintLast Go.Proofs.YtgaabjjenlbmhaaW.PrintMore Go.Proofs.Ytgaabjjenlbmhaa.Wd
set_option linter.unusedSimpArgs false
set_option linter.unusedVariables false
theorem rd_get (l : List Int) (i : Nat) (h : i < l.length) : rd l (i : Int) = l[i] := by
  unfold rd
  simp [h]
def okw (f w : Int) : Bool := decide (err f w = 0)
def errl (f : Int) (l : List Int) : Int := if f = 1 ∨ f = 2 then (if l.all (okw f) then 0 else 6) else 4
theorem err_fmt {f w : Int} (hf : f = 1 ∨ f = 2) : err f w = 0 ∨ err f w = 6 := by
  unfold err
  rcases hf with rfl | rfl
  · simp only [if_true]; split <;> simp
  · simp
theorem open_loop (f : Int) (l : List Int) (hf : f = 1 ∨ f = 2) (hl : l.length < 4611686018427387904) (hu : ∀ w ∈ l, U w) (d : Nat) : ∀ (k i : Nat), i ≤ l.length → l.length - i = d → d + 2 < k →
    rank_open.l0 k f l (l.length : Int) (i : Int) = some (if (l.drop i).all (okw f) then 0 else 6) := by
  induction d with
  | zero =>
    intro k i hi hd hk
    obtain ⟨k, rfl⟩ : ∃ m, k = m + 1 := ⟨k - 1, by omega⟩
    have e : i = l.length := by omega
    subst e
    simp only [rank_open.l0]
    rw [if_neg (by omega)]
    simp
  | succ d ih =>
    intro k i hi hd hk
    obtain ⟨k, rfl⟩ : ∃ m, k = m + 1 := ⟨k - 1, by omega⟩
    have hlt : i < l.length := by omega
    have hg : word_Good.f k f l[i] = some (err f l[i]) := by
      obtain ⟨j, rfl⟩ : ∃ j, k = j + 2 := ⟨k - 2, by omega⟩
      exact good_word (k := j) (f := f) (hu l[i] (List.getElem_mem hlt))
    have w1 : wrap64 ((i : Int) + 1) = ((i + 1 : Nat) : Int) := by unfold wrap64; omega
    have hd : l.drop i = l[i] :: l.drop (i + 1) := List.drop_eq_getElem_cons hlt
    simp only [rank_open.l0]
    rw [if_pos (by omega), if_pos (by omega), if_pos (by omega), rd_get l i hlt, hg, w1]
    simp only [Option.bind_some]
    rw [ih k (i + 1) (by omega) (by omega) (by omega), hd]
    rcases err_fmt (w := l[i]) hf with e | e
    · rw [if_pos e, List.all_cons, show okw f l[i] = true from decide_eq_true e, Bool.true_and]
    · rw [if_neg (by omega), List.all_cons, show okw f l[i] = false from decide_eq_false (by omega), Bool.false_and, e]; rfl
theorem open_list (f : Int) (l : List Int) (hl : l.length < 4611686018427387904) (hu : ∀ w ∈ l, U w) (k : Nat) (hk : l.length + 2 < k) : rank_open.f k f l = some (errl f l) := by
  obtain ⟨j, rfl⟩ : ∃ m, k = m + 1 := ⟨k - 1, by omega⟩
  unfold rank_open.f errl
  by_cases hf : f = 1 ∨ f = 2
  · rw [none_good j hf, if_pos hf]
    simp only [Option.bind_some, if_true]
    have := open_loop f l hf hl hu l.length (j + 1) 0 (by omega) (by omega) (by omega)
    rw [show ((0 : Nat) : Int) = 0 from rfl] at this
    rw [this]; simp
  · rw [none_nof j hf, if_neg hf]
    simp only [Option.bind_some]
    rw [if_neg (by decide)]
theorem errl_good {f : Int} {l : List Int} (hf : f = 1 ∨ f = 2) (h : ∀ w ∈ l, Gd f w) : errl f l = 0 := by
  unfold errl
  rw [if_pos hf, if_pos]
  exact List.all_eq_true.2 fun w hw => decide_eq_true (h w hw).err
theorem gd_f {f w : Int} (h : Gd f w) : f = 1 ∨ f = 2 := by rcases h with ⟨e, _⟩ | ⟨e, _⟩ <;> simp [e]
theorem isnan_good (k : Nat) {f w : Int} (h : Gd f w) : rank_isNaN.f (k + 2) f w = some (cl f w == 5) := by
  unfold rank_isNaN.f
  rw [class_good k h]; rfl
/-- the place of a word that is no NaN -/
def plc (f w : Int) : Int := if w ≥ sgn f then -(w % sgn f) else w % sgn f
theorem plc_bd (f w : Int) : -9223372036854775807 ≤ plc f w ∧ plc f w ≤ 9223372036854775807 := by
  have : 0 ≤ w % sgn f ∧ w % sgn f < sgn f := by rcases sgn_cases f with h | h <;> rw [h] <;> omega
  have hs := sgn_cases f
  unfold plc
  split <;> omega
theorem sz_lo {f w : Int} (h : Gd f w) : (w < sgn f ∧ w % sgn f = w) ∨ (sgn f ≤ w ∧ w % sgn f = w - sgn f) := by
  have hf := gd_f h
  unfold sgn
  rcases h with ⟨rfl, h0, h1⟩ | ⟨rfl, h0, h1⟩
  · simp only [if_true]; omega
  · simp only [show (¬ ((2 : Int) = 1)) by decide, if_false]; omega
theorem place_good (k : Nat) {f w : Int} (h : Gd f w) (hn : cl f w ≠ 5) : rank_place.f (k + 2) f w = some (plc f w) := by
  have hs := sgn_cases f
  have hz := sz_lo h
  have hp : 0 ≤ w % sgn f ∧ w % sgn f < sgn f := by rcases hs with h | h <;> rw [h] <;> omega
  unfold rank_place.f
  rw [abs_good k h]
  have e : absw f w = w % sgn f := by unfold absw; rw [if_neg hn]
  simp only [Option.bind_some, e]
  unfold plc
  have w1 : wrap64 (w % sgn f) = w % sgn f := by unfold wrap64; omega
  have w2 : wrap64 (-(w % sgn f)) = -(w % sgn f) := by unfold wrap64; omega
  by_cases c : w ≥ sgn f
  · rw [if_neg (by omega), if_pos c, w1, w2]
  · rw [if_pos (by omega), if_neg c, w1]
def cmpi (x y : Int) : Int := if x < y then -1 else if x > y then 1 else 0
theorem compare_i (x y : Int) : cmp_Compare_int64.f x y = some (cmpi x y) := by
  unfold cmp_Compare_int64.f cmp_isNaN_int64.f cmpi
  simp
  repeat' split
  all_goals rfl
theorem cmpi_bd (x y : Int) : (cmpi x y = -1 ∧ x < y) ∨ (cmpi x y = 1 ∧ y < x) ∨ (cmpi x y = 0 ∧ x = y) := by
  unfold cmpi
  by_cases h : x < y
  · simp [h]
  · by_cases g : x > y
    · simp [h, g] <;> omega
    · simp [h, g] <;> omega
def cmpf (f a b : Int) : Int := if cl f a = 5 ∨ cl f b = 5 then 4 else 2 + cmpi (plc f a) (plc f b)
theorem rank_Cmp_good (k : Nat) {f a b : Int} (ha : Gd f a) (hb : Gd f b) : rank_Cmp.f (k + 5) f a b = some (cmpf f a b, 0) := by
  have ho : rank_open.f (k + 5) f [a, b] = some 0 := by
    rw [open_list f [a, b] (by simp) (by simp [ha.u, hb.u]) (k + 5) (by simp <;> omega), errl_good (gd_f ha) (by simp [ha, hb])]
  unfold rank_Cmp.f cmpf
  rw [ho, isnan_good (k + 3) ha, isnan_good (k + 3) hb]
  simp only [Option.bind_some, if_true]
  by_cases ca : cl f a = 5
  · simp [ca, rank_Cmp.j0]
  · by_cases cb : cl f b = 5
    · simp [ca, cb, rank_Cmp.j0]
    · have := plc_bd f a
      have := plc_bd f b
      have e1 : (cl f a == 5) = false := by simp [ca]
      have e2 : (cl f b == 5) = false := by simp [cb]
      have p1 := place_good (k + 2) ha ca
      have p2 := place_good (k + 2) hb cb
      rw [e1, e2]
      simp only [ca, cb, or_self, if_false, Bool.false_eq_true, rank_Cmp.j0, p1, p2, Option.bind_some, compare_i]
      have := cmpi_bd (plc f a) (plc f b)
      rw [show (2 + cmpi (plc f a) (plc f b) % 256) % 256 = 2 + cmpi (plc f a) (plc f b) by omega]
end Go.Proofs.Ytgaabjjenlbmhaa.PA
end

section
namespace Go.Proofs.Ytgaabjjenlbmhaa.PA
open Go.RowKit Go.Proofs.YtgaabjjenlbmhaaW.PrintWords Go.Proofs.YtgaabjjenlbmhaaW.PrintLast Go.Proofs.YtgaabjjenlbmhaaW.PrintMore Go.Proofs.Ytgaabjjenlbmhaa.Wd
set_option linter.unusedSimpArgs false
set_option linter.unusedVariables false
/-- the word of 1 -/
def onew (f : Int) : Int := if f = 1 then 1065353216 else 4607182418800017408
def nw (f n : Int) : Int := if n = 0 then 0 else if n < 0 then onew f + sgn f else onew f
theorem of_up {f : Int} {b : Bool} {l : List Int} {r : Int × Int} (h : word_Of.f 12 f b l 0 = some r) (k : Nat) : word_Of.f (k + 12) f b l 0 = some r := by
  induction k with
  | zero => exact h
  | succ k ih => rw [show k + 1 + 12 = (k + 12) + 1 by omega]; exact word_Of.mono f b l 0 (k + 12) r ih
theorem of_zero (k : Nat) {f : Int} (hf : f = 1 ∨ f = 2) : word_Of.f (k + 12) f false ([] : List Int) 0 = some (0, 0) := by
  rcases hf with rfl | rfl
  · exact of_up (by decide +kernel) k
  · exact of_up (by decide +kernel) k
theorem of_one (k : Nat) {f : Int} (hf : f = 1 ∨ f = 2) : word_Of.f (k + 12) f false ([1] : List Int) 0 = some (onew f, 0) := by
  rcases hf with rfl | rfl
  · exact of_up (by decide +kernel) k
  · exact of_up (by decide +kernel) k
theorem of_minus (k : Nat) {f : Int} (hf : f = 1 ∨ f = 2) : word_Of.f (k + 12) f true ([1] : List Int) 0 = some (onew f + sgn f, 0) := by
  rcases hf with rfl | rfl
  · exact of_up (by decide +kernel) k
  · exact of_up (by decide +kernel) k
def agst (f w n : Int) : Int := cmpi (plc f w) (plc f (nw f n))
theorem nw_ok {f n : Int} (hf : f = 1 ∨ f = 2) (hn : n = 0 ∨ n = 1 ∨ n = -1) : Gd f (nw f n) ∧ cl f (nw f n) ≠ 5 ∧ cl f (nw f n) ≠ 4 := by
  rcases hf with rfl | rfl <;> rcases hn with rfl | rfl | rfl
  · exact ⟨.inl ⟨rfl, by decide, by decide⟩, by decide, by decide⟩
  · exact ⟨.inl ⟨rfl, by decide, by decide⟩, by decide, by decide⟩
  · exact ⟨.inl ⟨rfl, by decide, by decide⟩, by decide, by decide⟩
  · exact ⟨.inr ⟨rfl, by decide, by decide⟩, by decide, by decide⟩
  · exact ⟨.inr ⟨rfl, by decide, by decide⟩, by decide, by decide⟩
  · exact ⟨.inr ⟨rfl, by decide, by decide⟩, by decide, by decide⟩
theorem against_good (k : Nat) {f w n : Int} (h : Gd f w) (hn : n = 0 ∨ n = 1 ∨ n = -1) : cuts_against.f (k + 12) f w n = some (if cl f w = 5 then 2 else agst f w n) := by
  have hf := gd_f h
  have ho := nw_ok hf hn
  have hc := rank_Cmp_good (k + 7) h ho.1
  have hb := cmpi_bd (plc f w) (plc f (nw f n))
  have hv : wrap64 (wrap64 (cmpf f w (nw f n)) - 2) = if cl f w = 5 then 2 else agst f w n := by
    unfold cmpf agst
    by_cases c : cl f w = 5
    · rw [if_pos (.inl c), if_pos c]; unfold wrap64; omega
    · rw [if_neg (by simp [c, ho.2.1]), if_neg c]; unfold wrap64; omega
  unfold cuts_against.f
  rcases hn with rfl | rfl | rfl
  · rw [if_pos rfl, of_zero k hf, Option.bind_some]
    rw [show nw f 0 = 0 from rfl] at hc hv
    rw [hc, Option.bind_some, hv]
  · rw [if_neg (by decide), show decide ((1 : Int) < 0) = false from rfl, of_one k hf, Option.bind_some]
    rw [show nw f 1 = onew f from rfl] at hc hv
    rw [hc, Option.bind_some, hv]
  · rw [if_neg (by decide), show decide ((-1 : Int) < 0) = true from rfl, of_minus k hf, Option.bind_some]
    rw [show nw f (-1) = onew f + sgn f from rfl] at hc hv
    rw [hc, Option.bind_some, hv]
def alo (r : S54) (re im : Int) : Int := if r.f0 then im else re
def acr (r : S54) (re im : Int) : Int := if r.f0 then re else im
def lies (f re im : Int) (r : S54) : Bool := decide (cl f (acr r re im) = 1) && (decide (cl f (alo r re im) ≠ 5) && (if r.f2 then decide (agst f (alo r re im) r.f1 < 0) else decide (agst f (alo r re im) r.f1 > 0)))
def place (f re im : Int) (r : S54) : Int × Int × Int × Int × Int := (agst f (alo r re im) 0, agst f (alo r re im) 1, agst f (alo r re im) (-1), if acr r re im ≥ sgn f then -1 else 1, 0)
def Unit1 (r : S54) : Prop := r.f1 = 0 ∨ r.f1 = 1 ∨ r.f1 = -1
theorem agst_bd (f w n : Int) : agst f w n = -1 ∨ agst f w n = 1 ∨ agst f w n = 0 := by
  have := cmpi_bd (plc f w) (plc f (nw f n))
  unfold agst; omega
theorem lies_iff {f re im : Int} {r : S54} : lies f re im r = true ↔ ¬ (cl f (acr r re im) ≠ 1 ∨ cl f (alo r re im) = 5 ∨ (if cl f (alo r re im) = 5 then 2 else agst f (alo r re im) r.f1) = 0 ∨ decide ((if cl f (alo r re im) = 5 then 2 else agst f (alo r re im) r.f1) < 0) ≠ r.f2) := by
  unfold lies
  have hb := agst_bd f (alo r re im) r.f1
  generalize agst f (alo r re im) r.f1 = q at *
  by_cases c1 : cl f (acr r re im) = 1
  · by_cases c2 : cl f (alo r re im) = 5
    · simp [c1, c2]
    · rcases hb with rfl | rfl | rfl <;> cases r.f2 <;> simp [c1, c2]
  · simp [c1]
theorem alo_gd {f re im : Int} (h : Gz f re im) (r : S54) : Gd f (alo r re im) := by unfold alo; split; exact h.2; exact h.1
theorem acr_gd {f re im : Int} (h : Gz f re im) (r : S54) : Gd f (acr r re im) := by unfold acr; split; exact h.1; exact h.2
theorem find_g (k : Nat) {f re im : Int} (h : Gz f re im) : ∀ l : List S54, (∀ r ∈ l, Unit1 r) → cuts_find.g (k + 12) f re im l = some (match l.find? (lies f re im) with | some r => place f re im r | none => (0, 0, 0, 0, 7))
  | [], _ => rfl
  | r :: t, hl => by
    have ih := find_g k h t (fun x hx => hl x (List.mem_cons_of_mem _ hx))
    have hr : Unit1 r := hl r (List.mem_cons_self ..)
    have ga := alo_gd h r
    have gc := acr_gd h r
    unfold cuts_find.g
    show ((word_Class.f (k + 12) f (acr r re im)).bind fun c => (word_Class.f (k + 12) f (alo r re im)).bind fun al => (cuts_against.f (k + 12) f (alo r re im) r.f1).bind fun q =>
      if c.1 ≠ 1 ∨ al.1 = 5 ∨ q = 0 ∨ decide (q < 0) ≠ r.f2 then cuts_find.g (k + 12) f re im t else
      (word_Split.f (k + 12) f (acr r re im)).bind fun x => (cuts_against.f (k + 12) f (alo r re im) 0).bind fun s => (cuts_against.f (k + 12) f (alo r re im) 1).bind fun o => (cuts_against.f (k + 12) f (alo r re im) (-1)).bind fun m =>
        some (s, o, m, if x.1 then -1 else 1, 0)) = _
    rw [show k + 12 = (k + 10) + 2 from rfl, class_good (k + 10) gc, class_good (k + 10) ga, split_good (k + 10) gc, show (k + 10) + 2 = k + 12 from rfl, against_good k ga hr, against_good k ga (n := 0) (.inl rfl), against_good k ga (n := 1) (.inr (.inl rfl)), against_good k ga (n := -1) (.inr (.inr rfl))]
    simp only [Option.bind_some]
    by_cases c : lies f re im r = true
    · rw [if_neg (lies_iff.1 c), List.find?_cons_of_pos c]
      have ca : cl f (alo r re im) ≠ 5 := fun e => lies_iff.1 c (.inr (.inl e))
      simp only [if_neg ca]
      unfold place
      by_cases d : acr r re im ≥ sgn f <;> simp [d]
    · rw [if_pos (Classical.byContradiction fun n => c (lies_iff.2 n)), List.find?_cons_of_neg c]
      exact ih
theorem crays_unit (fn : Int) : ∀ r ∈ crays fn, Unit1 r := by
  intro r hr
  unfold crays at hr
  unfold Unit1
  repeat' split at hr
  all_goals simp at hr
  all_goals (try rcases hr with rfl | rfl) <;> simp_all
theorem find_good (k : Nat) {f fn re im : Int} (h : Gz f re im) : cuts_find.f (k + 12) f fn re im = some (if cis fn then (match (crays fn).find? (lies f re im) with | some r => place f re im r | none => (0, 0, 0, 0, 7)) else (0, 0, 0, 0, 2)) := by
  unfold cuts_find.f
  rw [show k + 12 = (k + 10) + 2 from rfl, good_pair (k + 10) h.1.u h.2.u, h.err, show (k + 10) + 2 = k + 12 from rfl, find_g k h _ (crays_unit fn)]
  simp only [Option.bind_some, if_true]
  split <;> rfl
theorem ref_Rays (k : Nat) (fn : Int) : cutplaneref20_Rays.f (k + 4) fn = some (crays fn) := by
  unfold cutplaneref20_Rays.f crays
  by_cases h1 : fn = 1
  · subst h1; rfl
  by_cases h3 : fn = 3
  · subst h3; rfl
  by_cases h10 : fn = 10
  · subst h10; rfl
  by_cases h15 : fn = 15
  · subst h15; rfl
  by_cases h11 : fn = 11
  · subst h11; rfl
  by_cases h12 : fn = 12
  · subst h12; rfl
  by_cases h13 : fn = 13
  · subst h13; rfl
  by_cases h14 : fn = 14
  · subst h14; rfl
  simp [cutplaneref20_Rays.j0, cutplaneref20_Rays.j1, cutplaneref20_Rays.j2, h1, h3, h10, h15, h11, h12, h13, h14]
theorem ref_Is20 (fn : Int) : cutplaneref20_Is.f fn = some (cis fn) := by
  unfold cutplaneref20_Is.f cis
  by_cases h : fn ≥ 1
  · rw [if_pos h]; congr 1; simp only [decide_eq_decide]; omega
  · rw [if_neg h]; congr 1; rw [eq_comm, decide_eq_false_iff_not]; omega
theorem ref_Parity20 (k : Nat) (fn : Int) : cutplaneref20_Parity.f (k + 4) fn = some (cpar fn) := by
  unfold cutplaneref20_Parity.f cpar
  by_cases h4 : fn = 4
  · subst h4; rfl
  by_cases h6 : fn = 6
  · subst h6; rfl
  by_cases h7 : fn = 7
  · subst h7; rfl
  by_cases h9 : fn = 9
  · subst h9; rfl
  by_cases h10 : fn = 10
  · subst h10; rfl
  by_cases h15 : fn = 15
  · subst h15; rfl
  by_cases h12 : fn = 12
  · subst h12; rfl
  by_cases h13 : fn = 13
  · subst h13; rfl
  by_cases h5 : fn = 5
  · subst h5; rfl
  by_cases h8 : fn = 8
  · subst h8; rfl
  simp [cutplaneref20_Parity.j0, h4, h6, h7, h9, h10, h15, h12, h13, h5, h8]
def sid (f re im : Int) (r : S54) : Int := if acr r re im ≥ sgn f then -1 else 1
def fnd (f fn re im : Int) : Option S54 := (crays fn).find? (lies f re im)
theorem on_good (k : Nat) {f fn re im : Int} (h : Gz f re im) (hc : cis fn = true) : cuts_On.f (k + 12) f fn re im = some ((fnd f fn re im).isSome, 0) := by
  unfold cuts_On.f fnd
  rw [find_good k h, Option.bind_some, hc, if_pos rfl]
  rcases (crays fn).find? (lies f re im) with _ | r <;> rfl
theorem side_good (k : Nat) {f fn re im : Int} (h : Gz f re im) (hc : cis fn = true) : cuts_Side.f (k + 12) f fn re im = some (match fnd f fn re im with | some r => (sid f re im r, 0) | none => (0, 7)) := by
  unfold cuts_Side.f fnd
  rw [find_good k h, Option.bind_some, hc, if_pos rfl]
  rcases (crays fn).find? (lies f re im) with _ | r <;> rfl
def csg (f fn re im : Int) (r : S54) : Int × Int := csigns (cno fn) (agst f (alo r re im) 0) (agst f (alo r re im) 1) (agst f (alo r re im) (-1)) (sid f re im r)
theorem signs_good (k : Nat) {f fn re im : Int} (h : Gz f re im) (hc : cis fn = true) : cuts_Signs.f (k + 12) f fn re im = some (match fnd f fn re im with | some r => ((csg f fn re im r).1, (csg f fn re im r).2, 0) | none => (0, 0, 7)) := by
  unfold cuts_Signs.f fnd
  rw [find_good k h, Option.bind_some, hc, if_pos rfl]
  rcases (crays fn).find? (lies f re im) with _ | r <;> rfl
theorem known20 (k : Nat) : cutplanelaw20_known.f (k + 12) = some true := by
  have h1 : Gz 1 3212836864 2147483648 := ⟨.inl ⟨rfl, by decide, by decide⟩, .inl ⟨rfl, by decide, by decide⟩⟩
  have h2 : Gz 1 1073741824 0 := ⟨.inl ⟨rfl, by decide, by decide⟩, .inl ⟨rfl, by decide, by decide⟩⟩
  unfold cutplanelaw20_known.f
  rw [on_good k h1 rfl, side_good k h1 rfl, signs_good k h2 rfl]
  decide +kernel
end Go.Proofs.Ytgaabjjenlbmhaa.PA
end

section
namespace Go.Proofs.Ytgaabjjenlbmhaa.Pure
open Go.RowKit Go.Proofs.Ytgaabjjenlbmhaa.PA Go.Proofs.YtgaabjjenlbmhaaW.PrintWords Go.Proofs.YtgaabjjenlbmhaaW.PrintLast Go.Proofs.YtgaabjjenlbmhaaW.PrintMore Go.Proofs.Ytgaabjjenlbmhaa.Wd
set_option linter.unusedSimpArgs false
set_option linter.unusedVariables false
theorem rays_same (l : List S54) (hl : l.length ≤ 2) (d : Nat) : ∀ (k i : Nat), i ≤ l.length → l.length - i = d → d < k → cutplanelaw20_rays.l0 k l l (i : Int) = some true := by
  induction d with
  | zero =>
    intro k i hi hd hk
    obtain ⟨k, rfl⟩ : ∃ j, k = j + 1 := ⟨k - 1, by omega⟩
    rw [cutplanelaw20_rays.l0, if_neg (by omega)]
  | succ d ih =>
    intro k i hi hd hk
    obtain ⟨k, rfl⟩ : ∃ j, k = j + 1 := ⟨k - 1, by omega⟩
    have w1 : wrap64 ((i : Int) + 1) = ((i + 1 : Nat) : Int) := by unfold wrap64; omega
    rw [cutplanelaw20_rays.l0, if_pos (by omega), if_pos (by omega), if_pos (by omega), w1, ih k (i + 1) (by omega) (by omega) (by omega)]
    simp
theorem wipe (fn t : Int) (d : Nat) : ∀ (k i : Nat) (l : List S54), l.length ≤ 2 → i ≤ l.length → l.length - i = d → d < k → cutplanelaw20_CutsTable.l1 k fn t l (i : Int) = cutplanelaw20_CutsTable.l0 (k - d - 1) fn (wrap64 (t + 1)) := by
  induction d with
  | zero =>
    intro k i l hl hi hd hk
    obtain ⟨k, rfl⟩ : ∃ j, k = j + 1 := ⟨k - 1, by omega⟩
    rw [cutplanelaw20_CutsTable.l1, if_neg (by omega)]; rfl
  | succ d ih =>
    intro k i l hl hi hd hk
    obtain ⟨k, rfl⟩ : ∃ j, k = j + 1 := ⟨k - 1, by omega⟩
    have w1 : wrap64 ((i : Int) + 1) = ((i + 1 : Nat) : Int) := by unfold wrap64; omega
    rw [cutplanelaw20_CutsTable.l1, if_pos (by omega), if_pos (by omega), w1, ih k (i + 1) _ (by rw [List.length_set]; omega) (by rw [List.length_set]; omega) (by rw [List.length_set]; omega) (by omega)]
    congr 1; omega
theorem turn (fn t : Int) (h0 : t = 0 ∨ t = 1) (k : Nat) (hk : 20 < k) : ∃ j, k - 10 ≤ j ∧ cutplanelaw20_CutsTable.l0 k fn t = cutplanelaw20_CutsTable.l0 j fn (t + 1) := by
  obtain ⟨k, rfl⟩ : ∃ j, k = j + 4 + 1 := ⟨k - 5, by omega⟩
  have w1 : wrap64 (t + 1) = t + 1 := by unfold wrap64; omega
  have hl := crays_len fn
  rw [cutplanelaw20_CutsTable.l0, if_pos (by omega)]
  unfold cuts_Rays.f cuts_Parity.f
  rw [ref_Is20]
  cases hc : cis fn
  · refine ⟨k + 4, by omega, ?_⟩
    simp [w1]
  · have hr : cutplanelaw20_rays.f (k + 4) (crays fn) (crays fn) = some true := by
      unfold cutplanelaw20_rays.f
      rw [if_pos rfl]
      exact rays_same _ hl (crays fn).length (k + 4) 0 (by omega) (by omega) (by omega)
    have hw := wipe fn t (crays fn).length (k + 4) 0 (crays fn) hl (by omega) (by omega) (by omega)
    rw [show ((0 : Nat) : Int) = 0 from rfl, w1] at hw
    refine ⟨k + 4 - (crays fn).length - 1, by omega, ?_⟩
    simp only [Option.bind_some, if_true, ref_Rays, ref_Parity20, hr]
    exact hw
theorem CutsTable : cutplanelaw20_CutsTable.Pure := by
  intro fn _
  refine ⟨100, ?_⟩
  unfold cutplanelaw20_CutsTable.f
  obtain ⟨j, hj, e⟩ := turn fn 0 (.inl rfl) 100 (by omega)
  obtain ⟨i, hi, e2⟩ := turn fn 1 (.inr rfl) j (by omega)
  rw [e, show (0 : Int) + 1 = 1 from rfl, e2, show (1 : Int) + 1 = 2 from rfl]
  obtain ⟨i, rfl⟩ : ∃ m, i = m + 12 + 1 := ⟨i - 13, by omega⟩
  rw [cutplanelaw20_CutsTable.l0, if_neg (by decide), known20]
  rfl
end Go.Proofs.Ytgaabjjenlbmhaa.Pure
end
