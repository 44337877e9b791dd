/- Steps of Go functions that the law SpecialQuotients uses, told as plain Lean functions, each with the proof that its call comes to what it tells; words on memory; plain facts. No condition beyond those that each text names. -/
import Derived.Test.YtlgapmhjaaajfaaGreatProg
import Derived.WalkMore
import Derived.Test.YtlgapmhjaaajfaaGreatSSpecialQuotients0
import Derived.Test.YtlgapmhjaaajfaaGreatSSpecialQuotients1
import Derived.Test.YtlgapmhjaaajfaaGreatSSpecialQuotients2
import Derived.Test.YtlgapmhjaaajfaaGreatSSpecialQuotients3
import Derived.Test.YtlgapmhjaaajfaaGreatSSpecialQuotients5
import Derived.Test.YtlgapmhjaaajfaaGreatSSpecialQuotients7
import Derived.Test.YtlgapmhjaaajfaaGreatSSpecialQuotients8
set_option maxHeartbeats 16000000
set_option maxRecDepth 100000
section
namespace Go.Proofs.YtlgapmhjaaajfaaGreat.PA
open Go.RowKit Go.Proofs.YtlgapmhjaaajfaaGreatW.PrintWords Go.Proofs.YtlgapmhjaaajfaaGreatW.PrintLast Go.Proofs.YtlgapmhjaaajfaaGreatW.PrintMore
attribute [local go_sem] max2_int min2_int max_two min_two max_three min_three max_four min_four   -- for this text's walks alone
set_option linter.unusedVariables false
set_option linter.unusedSimpArgs false
mutual
def cutplaneref01_Mul.j0 : Nat → List Int → List Int → Bool → Option (List Int)
 | 0, _, _, _ => none
 | k + 1, x0, x1, x19 => if x19 = true then (some ([] : List Int)) else (cutplaneref01_Mul.l0 k x0 x1 ([] : List Int) 0 0 0)
def cutplaneref01_Mul.l0 : Nat → List Int → List Int → List Int → Int → Int → Int → Option (List Int)
 | 0, _, _, _, _, _, _ => none
 | k + 1, x0, x1, x5, x6, x7, x8 => if x8 < (wrap64 ((x0.length : Int) + (x1.length : Int))) then (if x8 ≥ (x1.length : Int) then (cutplaneref01_Mul.j2 k x0 x1 x5 x6 x7 x8 (wrap64 ((wrap64 (x8 - (x1.length : Int))) + 1))) else (cutplaneref01_Mul.j2 k x0 x1 x5 x6 x7 x8 0)) else ((cutplaneref01_Trim.f k x5).bind fun t634 => (some t634))
def cutplaneref01_Mul.j2 : Nat → List Int → List Int → List Int → Int → Int → Int → Int → Option (List Int)
 | 0, _, _, _, _, _, _, _ => none
 | k + 1, x0, x1, x5, x6, x7, x8, x9 => cutplaneref01_Mul.l1 k x0 x1 x5 x6 x7 x8 x9
def cutplaneref01_Mul.l1 : Nat → List Int → List Int → List Int → Int → Int → Int → Int → Option (List Int)
 | 0, _, _, _, _, _, _, _ => none
 | k + 1, x0, x1, x5, x6, x7, x8, x10 => if x10 ≤ x8 then (cutplaneref01_Mul.j4 k x0 x1 x5 x6 x7 x8 x10 (decide (x10 < (x0.length : Int)))) else (cutplaneref01_Mul.j4 k x0 x1 x5 x6 x7 x8 x10 false)
def cutplaneref01_Mul.j4 : Nat → List Int → List Int → List Int → Int → Int → Int → Int → Bool → Option (List Int)
 | 0, _, _, _, _, _, _, _, _ => none
 | k + 1, x0, x1, x5, x6, x7, x8, x10, x47 => if x47 = true then (if 0 ≤ x10 then (if x10 < (x0.length : Int) then (if 0 ≤ (wrap64 (x8 - x10)) then (if (wrap64 (x8 - x10)) < (x1.length : Int) then (if (IntKind.u64.wrap (x6 + (IntKind.u64.wrap ((IntKind.u64.wrap (rd x0 x10)) * (IntKind.u64.wrap (rd x1 (wrap64 (x8 - x10)))))))) < (IntKind.u64.wrap ((IntKind.u64.wrap (rd x0 x10)) * (IntKind.u64.wrap (rd x1 (wrap64 (x8 - x10)))))) then (cutplaneref01_Mul.l1 k x0 x1 x5 (IntKind.u64.wrap (x6 + (IntKind.u64.wrap ((IntKind.u64.wrap (rd x0 x10)) * (IntKind.u64.wrap (rd x1 (wrap64 (x8 - x10)))))))) (IntKind.u64.wrap (x7 + 1)) x8 (wrap64 (x10 + 1))) else (cutplaneref01_Mul.l1 k x0 x1 x5 (IntKind.u64.wrap (x6 + (IntKind.u64.wrap ((IntKind.u64.wrap (rd x0 x10)) * (IntKind.u64.wrap (rd x1 (wrap64 (x8 - x10)))))))) x7 x8 (wrap64 (x10 + 1)))) else (none)) else (none)) else (none)) else (none)) else (if x5.length < 35184372088832 then (cutplaneref01_Mul.l0 k x0 x1 (x5 ++ [(x6) % 4294967296]) (Go.bits .or .u64 (x6 / 4294967296) (IntKind.u64.wrap (x7 * 4294967296))) (x7 / 4294967296) (wrap64 (x8 + 1))) else (none))
end
def cutplaneref01_Mul.f (k : Nat) (l0 : List Int) (l1 : List Int) : Option (List Int) := if (l0.length : Int) = 0 then (cutplaneref01_Mul.j0 k l0 l1 true) else (cutplaneref01_Mul.j0 k l0 l1 ((l1.length : Int) == 0))
theorem cutplaneref01_Mul.mono_l : ∀ k, (∀ y0 y1 y2, LeO (cutplaneref01_Mul.j0 k y0 y1 y2) (cutplaneref01_Mul.j0 (k + 1) y0 y1 y2)) ∧ (∀ y0 y1 y2 y3 y4 y5, LeO (cutplaneref01_Mul.l0 k y0 y1 y2 y3 y4 y5) (cutplaneref01_Mul.l0 (k + 1) y0 y1 y2 y3 y4 y5)) ∧ (∀ y0 y1 y2 y3 y4 y5 y6, LeO (cutplaneref01_Mul.j2 k y0 y1 y2 y3 y4 y5 y6) (cutplaneref01_Mul.j2 (k + 1) y0 y1 y2 y3 y4 y5 y6)) ∧ (∀ y0 y1 y2 y3 y4 y5 y6, LeO (cutplaneref01_Mul.l1 k y0 y1 y2 y3 y4 y5 y6) (cutplaneref01_Mul.l1 (k + 1) y0 y1 y2 y3 y4 y5 y6)) ∧ (∀ y0 y1 y2 y3 y4 y5 y6 y7, LeO (cutplaneref01_Mul.j4 k y0 y1 y2 y3 y4 y5 y6 y7) (cutplaneref01_Mul.j4 (k + 1) y0 y1 y2 y3 y4 y5 y6 y7))
 | 0 => ⟨fun _ _ _ r h => by simp [cutplaneref01_Mul.j0] at h, fun _ _ _ _ _ _ r h => by simp [cutplaneref01_Mul.l0] at h, fun _ _ _ _ _ _ _ r h => by simp [cutplaneref01_Mul.j2] at h, fun _ _ _ _ _ _ _ r h => by simp [cutplaneref01_Mul.l1] at h, fun _ _ _ _ _ _ _ _ r h => by simp [cutplaneref01_Mul.j4] at h⟩
 | k + 1 => by
  obtain ⟨ih0, ih1, ih2, ih3, ih4⟩ := cutplaneref01_Mul.mono_l k
  refine ⟨?_, ?_, ?_, ?_, ?_⟩
  ·intro y0 y1 y2
   unfold cutplaneref01_Mul.j0
   repeat' first
   | (with_reducible exact ih0 _ _ _)
   | (with_reducible exact ih1 _ _ _ _ _ _)
   | (with_reducible exact ih2 _ _ _ _ _ _ _)
   | (with_reducible exact ih3 _ _ _ _ _ _ _)
   | (with_reducible exact ih4 _ _ _ _ _ _ _ _)
   | (with_reducible exact cutplaneref01_Trim.mono _ _)
   | (with_reducible exact LeO.refl _)
   | (with_reducible exact LeO.none _)
   | (with_reducible refine LeO.ite ?_ ?_)
   | (with_reducible refine LeO.bind ?_ (fun _ => ?_))
   | exact ih0 _ _ _
   | exact ih1 _ _ _ _ _ _
   | exact ih2 _ _ _ _ _ _ _
   | exact ih3 _ _ _ _ _ _ _
   | exact ih4 _ _ _ _ _ _ _ _
   | exact cutplaneref01_Trim.mono _ _
   | exact LeO.none _
   | refine LeO.ite ?_ ?_
   | refine LeO.bind ?_ (fun _ => ?_)
  ·intro y0 y1 y2 y3 y4 y5
   unfold cutplaneref01_Mul.l0
   repeat' first
   | (with_reducible exact ih0 _ _ _)
   | (with_reducible exact ih1 _ _ _ _ _ _)
   | (with_reducible exact ih2 _ _ _ _ _ _ _)
   | (with_reducible exact ih3 _ _ _ _ _ _ _)
   | (with_reducible exact ih4 _ _ _ _ _ _ _ _)
   | (with_reducible exact cutplaneref01_Trim.mono _ _)
   | (with_reducible exact LeO.refl _)
   | (with_reducible exact LeO.none _)
   | (with_reducible refine LeO.ite ?_ ?_)
   | (with_reducible refine LeO.bind ?_ (fun _ => ?_))
   | exact ih0 _ _ _
   | exact ih1 _ _ _ _ _ _
   | exact ih2 _ _ _ _ _ _ _
   | exact ih3 _ _ _ _ _ _ _
   | exact ih4 _ _ _ _ _ _ _ _
   | exact cutplaneref01_Trim.mono _ _
   | exact LeO.none _
   | refine LeO.ite ?_ ?_
   | refine LeO.bind ?_ (fun _ => ?_)
  ·intro y0 y1 y2 y3 y4 y5 y6
   unfold cutplaneref01_Mul.j2
   repeat' first
   | (with_reducible exact ih0 _ _ _)
   | (with_reducible exact ih1 _ _ _ _ _ _)
   | (with_reducible exact ih2 _ _ _ _ _ _ _)
   | (with_reducible exact ih3 _ _ _ _ _ _ _)
   | (with_reducible exact ih4 _ _ _ _ _ _ _ _)
   | (with_reducible exact cutplaneref01_Trim.mono _ _)
   | (with_reducible exact LeO.refl _)
   | (with_reducible exact LeO.none _)
   | (with_reducible refine LeO.ite ?_ ?_)
   | (with_reducible refine LeO.bind ?_ (fun _ => ?_))
   | exact ih0 _ _ _
   | exact ih1 _ _ _ _ _ _
   | exact ih2 _ _ _ _ _ _ _
   | exact ih3 _ _ _ _ _ _ _
   | exact ih4 _ _ _ _ _ _ _ _
   | exact cutplaneref01_Trim.mono _ _
   | exact LeO.none _
   | refine LeO.ite ?_ ?_
   | refine LeO.bind ?_ (fun _ => ?_)
  ·intro y0 y1 y2 y3 y4 y5 y6
   unfold cutplaneref01_Mul.l1
   repeat' first
   | (with_reducible exact ih0 _ _ _)
   | (with_reducible exact ih1 _ _ _ _ _ _)
   | (with_reducible exact ih2 _ _ _ _ _ _ _)
   | (with_reducible exact ih3 _ _ _ _ _ _ _)
   | (with_reducible exact ih4 _ _ _ _ _ _ _ _)
   | (with_reducible exact cutplaneref01_Trim.mono _ _)
   | (with_reducible exact LeO.refl _)
   | (with_reducible exact LeO.none _)
   | (with_reducible refine LeO.ite ?_ ?_)
   | (with_reducible refine LeO.bind ?_ (fun _ => ?_))
   | exact ih0 _ _ _
   | exact ih1 _ _ _ _ _ _
   | exact ih2 _ _ _ _ _ _ _
   | exact ih3 _ _ _ _ _ _ _
   | exact ih4 _ _ _ _ _ _ _ _
   | exact cutplaneref01_Trim.mono _ _
   | exact LeO.none _
   | refine LeO.ite ?_ ?_
   | refine LeO.bind ?_ (fun _ => ?_)
  ·intro y0 y1 y2 y3 y4 y5 y6 y7
   unfold cutplaneref01_Mul.j4
   repeat' first
   | (with_reducible exact ih0 _ _ _)
   | (with_reducible exact ih1 _ _ _ _ _ _)
   | (with_reducible exact ih2 _ _ _ _ _ _ _)
   | (with_reducible exact ih3 _ _ _ _ _ _ _)
   | (with_reducible exact ih4 _ _ _ _ _ _ _ _)
   | (with_reducible exact cutplaneref01_Trim.mono _ _)
   | (with_reducible exact LeO.refl _)
   | (with_reducible exact LeO.none _)
   | (with_reducible refine LeO.ite ?_ ?_)
   | (with_reducible refine LeO.bind ?_ (fun _ => ?_))
   | exact ih0 _ _ _
   | exact ih1 _ _ _ _ _ _
   | exact ih2 _ _ _ _ _ _ _
   | exact ih3 _ _ _ _ _ _ _
   | exact ih4 _ _ _ _ _ _ _ _
   | exact cutplaneref01_Trim.mono _ _
   | exact LeO.none _
   | refine LeO.ite ?_ ?_
   | refine LeO.bind ?_ (fun _ => ?_)
theorem cutplaneref01_Mul.mono : ∀ a0 a1 k, LeO (cutplaneref01_Mul.f k a0 a1) (cutplaneref01_Mul.f (k + 1) a0 a1) := by
 intro a0 a1 k
 obtain ⟨ih0, ih1, ih2, ih3, ih4⟩ := cutplaneref01_Mul.mono_l k
 unfold cutplaneref01_Mul.f
 repeat' first
   | (with_reducible exact ih0 _ _ _)
   | (with_reducible exact ih1 _ _ _ _ _ _)
   | (with_reducible exact ih2 _ _ _ _ _ _ _)
   | (with_reducible exact ih3 _ _ _ _ _ _ _)
   | (with_reducible exact ih4 _ _ _ _ _ _ _ _)
   | (with_reducible exact cutplaneref01_Trim.mono _ _)
   | (with_reducible exact LeO.refl _)
   | (with_reducible exact LeO.none _)
   | (with_reducible refine LeO.ite ?_ ?_)
   | (with_reducible refine LeO.bind ?_ (fun _ => ?_))
   | exact ih0 _ _ _
   | exact ih1 _ _ _ _ _ _
   | exact ih2 _ _ _ _ _ _ _
   | exact ih3 _ _ _ _ _ _ _
   | exact ih4 _ _ _ _ _ _ _ _
   | exact cutplaneref01_Trim.mono _ _
   | exact LeO.none _
   | refine LeO.ite ?_ ?_
   | refine LeO.bind ?_ (fun _ => ?_)
theorem cutplaneref01_Mul.calls (k : Nat) (A0 : Option Addr) (c0 : Nat) (l0 : List Int) (A1 : Option Addr) (c1 : Nat) (l1 : List Int) (r : List Int) (w : World) (hr0 : Kd.C (Kd.int .u32) w A0 l0.length l0) (hc0 : l0.length ≤ c0) (hr1 : Kd.C (Kd.int .u32) w A1 l1.length l1) (hc1 : l1.length ≤ c1) (h : cutplaneref01_Mul.f k l0 l1 = some r) :
  Calls Tryz.prog 87 #[.slice A0 l0.length c0, .slice A1 l1.length c1] w fun e w' => ∃ v0_ : Value, e = .returned (v0_) ∧ Kd.V (Kd.int .u32) 132 w' w.heap.size (fun k_ => (w.heap.size ≤ k_)) v0_ r ∧ Below w.heap.size w w' := by
 have HR0 := A0_ hr0
 have HC0 := A0_ hc0
 clear hr0 hc0
 have HR1 := A0_ hr1
 have HC1 := A0_ hc1
 clear hr1 hc1
 have HB := A0_ (Below.refl w.heap.size w)
 have H := h
 clear h
 unfold cutplaneref01_Mul.f at H
 have HC3 := A0_ H
 clear H
 go_enter Tryz.func87, Tryz.ntmps87
 go_upto_region 1 with (fail)
 repeat (go_quiet (fail); go_upto_region 1 with (fail))
 go_cut [19] (fun v19 wc => ∃ (kq : Nat) (x19_2 : Bool), v19 = .bool x19_2 ∧ Aside0 (cutplaneref01_Mul.j0 kq l0 l1 x19_2 = some r) ∧ Aside0 (kq ≤ k) ∧ Aside0 (Below w.heap.size w wc))
 case first =>
  have H := HC3.out
  clear HC3
  by_cases c4 : (l0.length : Int) = 0
  ·rw [if_pos c4] at H
   have c4b0 : ((l0.length : Int) == 0) = true := beq_iff_eq.mpr c4
   have c4b1 : ((l0.length : Int) != 0) = false := bne_eq_false_iff_eq.mpr c4
   clear c4
   (first | rw [c4b0] | (simp only [i64_w, i32_w]; rw [c4b0]) | skip)
   have H' := A0_ H
   clear H
   go_wp2
   repeat (go_quiet (fail); try go_wp2)
   go_meet
   case rel => exact ⟨_, (true), (by first | rfl | (simp; done) | (simp [*]; done)), H', ⟨by first | omega | exact Nat.le_refl _⟩, ⟨qm_ HB.out⟩⟩
  ·rw [if_neg c4] at H
   have c4b0 : ((l0.length : Int) == 0) = false := beq_eq_false_iff_ne.mpr c4
   have c4b1 : ((l0.length : Int) != 0) = true := bne_iff_ne.mpr c4
   have c4b2 : ¬ (l0 = []) := fun h_ => c4 (by rw [h_]; rfl)
   (first | rw [c4b0] | (simp only [i64_w, i32_w]; rw [c4b0]) | skip)
   have H' := A0_ H
   clear H
   go_wp2
   repeat (go_quiet (fail); try go_wp2)
   go_meet
   case rel => exact ⟨_, (((l1.length : Int) == 0)), (by first | rfl | (simp; done) | (simp [*]; done)), H', ⟨by first | omega | exact Nat.le_refl _⟩, ⟨qm_ HB.out⟩⟩
 case rest =>
  clear HC3
  try clear c1
  try clear p2
  try clear c4
  try clear c4b0
  try clear c4b1
  try clear c4b2
  obtain ⟨kq, x19_2, rfl, HA, HJ2, HB⟩ := hcut
  cases kq with
  | zero => exact absurd HA.out (by simp [cutplaneref01_Mul.j0])
  | succ kj2 =>
   have H := HA.out
   clear HA
   simp only [cutplaneref01_Mul.j0] at H
   by_cases c5 : x19_2 = true
   ·subst c5
    rw [if_pos rfl] at H
    obtain rfl := Option.some.inj H
    go_wp2
    repeat (go_quiet (fail); try go_wp2)
    go_ret
    exact ⟨_, by first | rfl | (simp [errW_none, errW_some] <;> rfl) | (simp [*, errW_none, errW_some] <;> rfl), (Kd.V_nil _ _ _ _ _), qm_ HB.out⟩
   ·replace c5 := Bool.eq_false_iff.mpr c5
    subst c5
    rw [if_neg (show ¬ (false = true) by decide)] at H
    have H' := A0_ H
    clear H
    go_wp2
    repeat (go_quiet (fail); try go_wp2)
    go_loopg [5, 6, 7, 8] kj2 (fun kq v5 v6 v7 v8 w' => ∃ (x5_2 : List Int) (x6_2 : Int) (x7_2 : Int) (x8_2 : Int), v6 = .int .u64 x6_2 ∧ v7 = .int .u64 x7_2 ∧ v8 = .int .i64 x8_2 ∧ Aside0 (cutplaneref01_Mul.l0 kq l0 l1 x5_2 x6_2 x7_2 x8_2 = some r) ∧ Aside0 (kq ≤ kj2) ∧ Aside0 (Kd.R (Kd.int .u32) 132 w' w.heap.size (fun k_ => (w.heap.size ≤ k_)) v5 x5_2) ∧ Aside0 (Below w.heap.size w w'))
    case atStart => exact ⟨(([] : List Int)), (0), (0), (0), (by first | rfl | (simp; done) | (simp [*]; done)), (by first | rfl | (simp; done) | (simp [*]; done)), (by first | rfl | (simp; done) | (simp [*]; done)), H', ⟨Nat.le_refl _⟩, ⟨by first | exact Kd.R_nil _ _ _ _ _ | exact Kd.N_nil _ _ _ _ _ | exact Kd.V_nil _ _ _ _ _ | exact Kd.Q_nil _ _ _ _ _ | exact Kd.S_nil _ _ _ _ _⟩, ⟨qm_ HB.out⟩⟩
    case round =>
     clear H'
     try clear c1
     try clear p2
     try clear c4
     try clear c4b0
     try clear c4b1
     try clear c4b2
     try clear c5
     try clear p2
     obtain ⟨x5_2, x6_2, x7_2, x8_2, rfl, rfl, rfl, HA, HK2, HO_5, HB⟩ := hrel
     cases gk with
     | zero => exact absurd HA.out (by simp [cutplaneref01_Mul.l0])
     | succ k2 =>
      have H := HA.out
      clear HA
      simp only [cutplaneref01_Mul.l0] at H
      by_cases c6 : x8_2 < (wrap64 ((l0.length : Int) + (l1.length : Int)))
      ·rw [if_pos c6] at H
       have c6b0 : decide (x8_2 < (wrap64 ((l0.length : Int) + (l1.length : Int)))) = true := decide_eq_true c6
       clear c6
       have HC7 := A0_ H
       clear H
       go_upto_if 32 with (fail)
       repeat (go_quiet (fail); go_upto_if 32 with (fail))
       go_cut [9] (fun v9 wc => ∃ (kq : Nat) (x9_6 : Int), v9 = .int .i64 x9_6 ∧ Aside0 (cutplaneref01_Mul.j2 kq l0 l1 x5_2 x6_2 x7_2 x8_2 x9_6 = some r) ∧ Aside0 (kq ≤ k2) ∧ Aside0 (Kd.R (Kd.int .u32) 132 wc w.heap.size (fun k_ => (w.heap.size ≤ k_)) u5 x5_2) ∧ Aside0 (Below w.heap.size w wc))
       case first =>
        have H := HC7.out
        clear HC7
        by_cases c8 : x8_2 ≥ (l1.length : Int)
        ·rw [if_pos c8] at H
         have c8b0 : decide ((l1.length : Int) ≤ x8_2) = true := decide_eq_true c8
         clear c8
         (first | rw [c8b0] | (simp only [i64_w, i32_w]; rw [c8b0]) | skip)
         have H' := A0_ H
         clear H
         go_wp2
         repeat (go_quiet (fail); try go_wp2)
         go_meet
         case rel => exact ⟨_, (wrap64 ((wrap64 (x8_2 - (l1.length : Int))) + 1)), (by first | rfl | (simp; done) | (simp [*]; done)), H', ⟨by have := HJ2.out; have := HK2.out; first | omega | exact Nat.le_refl _⟩, ⟨by exact rm_ HO_5.out⟩, ⟨qm_ HB.out⟩⟩
        ·rw [if_neg c8] at H
         have c8b0 : decide ((l1.length : Int) ≤ x8_2) = false := decide_eq_false c8
         clear c8
         (first | rw [c8b0] | (simp only [i64_w, i32_w]; rw [c8b0]) | skip)
         have H' := A0_ H
         clear H
         go_wp2
         repeat (go_quiet (fail); try go_wp2)
         go_meet
         case rel => exact ⟨_, (0), (by first | rfl | (simp; done) | (simp [*]; done)), H', ⟨by have := HJ2.out; have := HK2.out; first | omega | exact Nat.le_refl _⟩, ⟨by exact rm_ HO_5.out⟩, ⟨qm_ HB.out⟩⟩
       case rest =>
        clear HC7
        try clear c1
        try clear p2
        try clear c4
        try clear c4b0
        try clear c4b1
        try clear c4b2
        try clear c5
        try clear c6
        try clear c6b0
        try clear p6
        try clear c8
        try clear c8b0
        try clear p2
        obtain ⟨kq, x9_6, rfl, HA, HJ6, HO_5, HB⟩ := hcut
        cases kq with
        | zero => exact absurd HA.out (by simp [cutplaneref01_Mul.j2])
        | succ kj6 =>
         have H := HA.out
         clear HA
         simp only [cutplaneref01_Mul.j2] at H
         have H' := A0_ H
         clear H
         go_wp2
         repeat (go_quiet (fail); try go_wp2)
         go_loopg [6, 7, 10] kj6 (fun kq v6 v7 v10 w' => ∃ (x6_4 : Int) (x7_4 : Int) (x10_4 : Int), v6 = .int .u64 x6_4 ∧ v7 = .int .u64 x7_4 ∧ v10 = .int .i64 x10_4 ∧ Aside0 (cutplaneref01_Mul.l1 kq l0 l1 x5_2 x6_4 x7_4 x8_2 x10_4 = some r) ∧ Aside0 (kq ≤ kj6) ∧ Aside0 (Kd.R (Kd.int .u32) 132 w' w.heap.size (fun k_ => (w.heap.size ≤ k_)) u5 x5_2) ∧ Aside0 (Below w.heap.size w w'))
         case atStart => exact ⟨(x6_2), (x7_2), (x9_6), (by first | rfl | (simp; done) | (simp [*]; done)), (by first | rfl | (simp; done) | (simp [*]; done)), (by first | rfl | (simp; done) | (simp [*]; done)), H', ⟨Nat.le_refl _⟩, ⟨by exact rm_ HO_5.out⟩, ⟨qm_ HB.out⟩⟩
         case round =>
          clear H'
          try clear c1
          try clear p2
          try clear c4
          try clear c4b0
          try clear c4b1
          try clear c4b2
          try clear c5
          try clear c6
          try clear c6b0
          try clear p6
          try clear c8
          try clear c8b0
          try clear p2
          try clear p6
          obtain ⟨x6_4, x7_4, x10_4, rfl, rfl, rfl, HA, HK4, HO_5, HB⟩ := hrel
          cases gk with
          | zero => exact absurd HA.out (by simp [cutplaneref01_Mul.l1])
          | succ k4 =>
           have H := HA.out
           clear HA
           simp only [cutplaneref01_Mul.l1] at H
           have HC9 := A0_ H
           clear H
           go_upto_region 13 with (fail)
           repeat (go_quiet (fail); go_upto_region 13 with (fail))
           go_cut [47] (fun v47 wc => ∃ (kq : Nat) (x47_8 : Bool), v47 = .bool x47_8 ∧ Aside0 (cutplaneref01_Mul.j4 kq l0 l1 x5_2 x6_4 x7_4 x8_2 x10_4 x47_8 = some r) ∧ Aside0 (kq ≤ k4) ∧ Aside0 (Kd.R (Kd.int .u32) 132 wc w.heap.size (fun k_ => (w.heap.size ≤ k_)) u5 x5_2) ∧ Aside0 (Below w.heap.size w wc))
           case first =>
            have H := HC9.out
            clear HC9
            by_cases c10 : x10_4 ≤ x8_2
            ·rw [if_pos c10] at H
             have c10b0 : decide (x10_4 ≤ x8_2) = true := decide_eq_true c10
             clear c10
             (first | rw [c10b0] | (simp only [i64_w, i32_w]; rw [c10b0]) | skip)
             have H' := A0_ H
             clear H
             go_wp2
             repeat (go_quiet (fail); try go_wp2)
             go_meet
             case rel => exact ⟨_, (decide (x10_4 < (l0.length : Int))), (by first | rfl | (simp; done) | (simp [*]; done)), H', ⟨by have := HJ2.out; have := HK2.out; have := HJ6.out; have := HK4.out; first | omega | exact Nat.le_refl _⟩, ⟨by exact rm_ HO_5.out⟩, ⟨qm_ HB.out⟩⟩
            ·rw [if_neg c10] at H
             have c10b0 : decide (x10_4 ≤ x8_2) = false := decide_eq_false c10
             clear c10
             (first | rw [c10b0] | (simp only [i64_w, i32_w]; rw [c10b0]) | skip)
             have H' := A0_ H
             clear H
             go_wp2
             repeat (go_quiet (fail); try go_wp2)
             go_meet
             case rel => exact ⟨_, (false), (by first | rfl | (simp; done) | (simp [*]; done)), H', ⟨by have := HJ2.out; have := HK2.out; have := HJ6.out; have := HK4.out; first | omega | exact Nat.le_refl _⟩, ⟨by exact rm_ HO_5.out⟩, ⟨qm_ HB.out⟩⟩
           case rest =>
            clear HC9
            try clear c1
            try clear p2
            try clear c4
            try clear c4b0
            try clear c4b1
            try clear c4b2
            try clear c5
            try clear c6
            try clear c6b0
            try clear p6
            try clear c8
            try clear c8b0
            try clear c10
            try clear c10b0
            try clear p2
            try clear p6
            obtain ⟨kq, x47_8, rfl, HA, HJ8, HO_5, HB⟩ := hcut
            cases kq with
            | zero => exact absurd HA.out (by simp [cutplaneref01_Mul.j4])
            | succ kj8 =>
             have H := HA.out
             clear HA
             simp only [cutplaneref01_Mul.j4] at H
             by_cases c11 : x47_8 = true
             ·subst c11
              rw [if_pos rfl] at H
              obtain ⟨c12, H⟩ := ic_ H
              have c12b0 : decide (0 ≤ x10_4) = true := decide_eq_true c12
              clear c12
              obtain ⟨c13, H⟩ := ic_ H
              have c13b0 : decide (x10_4 < (l0.length : Int)) = true := decide_eq_true c13
              clear c13
              obtain ⟨ji14, hji14⟩ : ∃ j_ : Int, (wrap64 (x8_2 - x10_4)) = j_ := ⟨_, rfl⟩
              replace H : (if 0 ≤ (ji14) then (if (ji14) < (l1.length : Int) then (if (IntKind.u64.wrap (x6_4 + (IntKind.u64.wrap ((IntKind.u64.wrap (rd l0 x10_4)) * (IntKind.u64.wrap (rd l1 (ji14))))))) < (IntKind.u64.wrap ((IntKind.u64.wrap (rd l0 x10_4)) * (IntKind.u64.wrap (rd l1 (ji14))))) then (cutplaneref01_Mul.l1 kj8 l0 l1 x5_2 (IntKind.u64.wrap (x6_4 + (IntKind.u64.wrap ((IntKind.u64.wrap (rd l0 x10_4)) * (IntKind.u64.wrap (rd l1 (ji14))))))) (IntKind.u64.wrap (x7_4 + 1)) x8_2 (wrap64 (x10_4 + 1))) else (cutplaneref01_Mul.l1 kj8 l0 l1 x5_2 (IntKind.u64.wrap (x6_4 + (IntKind.u64.wrap ((IntKind.u64.wrap (rd l0 x10_4)) * (IntKind.u64.wrap (rd l1 (ji14))))))) x7_4 x8_2 (wrap64 (x10_4 + 1)))) else (none)) else (none)) = some r := by first | (rw [hji14] at H; exact H) | (simp only [hji14] at H ⊢; exact H)
              have hji14w : (IntKind.i64.wrap (x8_2 - x10_4)) = ji14 := (i64_w _).trans hji14
              obtain ⟨c15, H⟩ := ic_ H
              have c15b0 : decide (0 ≤ (ji14)) = true := decide_eq_true c15
              clear c15
              obtain ⟨c16, H⟩ := ic_ H
              have c16b0 : decide ((ji14) < (l1.length : Int)) = true := decide_eq_true c16
              clear c16
              by_cases c17 : (IntKind.u64.wrap (x6_4 + (IntKind.u64.wrap ((IntKind.u64.wrap (rd l0 x10_4)) * (IntKind.u64.wrap (rd l1 (ji14))))))) < (IntKind.u64.wrap ((IntKind.u64.wrap (rd l0 x10_4)) * (IntKind.u64.wrap (rd l1 (ji14)))))
              ·rw [if_pos c17] at H
               have c17b0 : decide ((IntKind.u64.wrap (x6_4 + (IntKind.u64.wrap ((IntKind.u64.wrap (rd l0 x10_4)) * (IntKind.u64.wrap (rd l1 (ji14))))))) < (IntKind.u64.wrap ((IntKind.u64.wrap (rd l0 x10_4)) * (IntKind.u64.wrap (rd l1 (ji14)))))) = true := decide_eq_true c17
               clear c17
               have H' := A0_ H
               clear H
               have p637 : 0 ≤ (x10_4 : Int) := of_decide_eq_true (by first | (with_reducible assumption) | assumption)
               have q637 : x10_4 < (l0.length : Int) := of_decide_eq_true (by first | (with_reducible assumption) | assumption)
               obtain ⟨ad637, e637, hx637_0⟩ := Kd.at_int HR0.out x10_4 p637 q637
               cases e637
               replace hx637_0 := (HB.out.cell (World.block_lt_of_cell? w _ hx637_0)).trans hx637_0
               replace p637 := eq_true p637
               replace q637 := eq_true q637
               have p638 : 0 ≤ ((ji14) : Int) := of_decide_eq_true (by first | (with_reducible assumption) | assumption)
               have q638 : (ji14) < (l1.length : Int) := of_decide_eq_true (by first | (with_reducible assumption) | assumption)
               obtain ⟨ad638, e638, hx638_0⟩ := Kd.at_int HR1.out (ji14) p638 q638
               cases e638
               replace hx638_0 := (HB.out.cell (World.block_lt_of_cell? w _ hx638_0)).trans hx638_0
               replace p638 := eq_true p638
               replace q638 := eq_true q638
               go_wp2
               repeat (go_quiet (fail); try go_wp2)
               first | go_roundg kj8 | ((try subst hji14); go_roundg kj8)
               case measure => have := HJ2.out; have := HK2.out; have := HJ6.out; have := HK4.out; have := HJ8.out; omega
               case rel => exact ⟨(IntKind.u64.wrap (x6_4 + (IntKind.u64.wrap ((IntKind.u64.wrap (rd l0 x10_4)) * (IntKind.u64.wrap (rd l1 (ji14))))))), (IntKind.u64.wrap (x7_4 + 1)), (wrap64 (x10_4 + 1)), (by first | rfl | (simp; done) | (simp only [← hji14] <;> (first | rfl | simp)) | (simp [*]; done)), (by first | rfl | (simp; done) | (simp [*]; done)), (by first | rfl | (simp; done) | (simp [*]; done)), H', ⟨by have := HJ2.out; have := HK2.out; have := HJ6.out; have := HK4.out; have := HJ8.out; omega⟩, ⟨by exact rm_ HO_5.out⟩, ⟨qm_ HB.out⟩⟩
              ·rw [if_neg c17] at H
               have c17b0 : decide ((IntKind.u64.wrap (x6_4 + (IntKind.u64.wrap ((IntKind.u64.wrap (rd l0 x10_4)) * (IntKind.u64.wrap (rd l1 (ji14))))))) < (IntKind.u64.wrap ((IntKind.u64.wrap (rd l0 x10_4)) * (IntKind.u64.wrap (rd l1 (ji14)))))) = false := decide_eq_false c17
               clear c17
               have H' := A0_ H
               clear H
               have p637 : 0 ≤ (x10_4 : Int) := of_decide_eq_true (by first | (with_reducible assumption) | assumption)
               have q637 : x10_4 < (l0.length : Int) := of_decide_eq_true (by first | (with_reducible assumption) | assumption)
               obtain ⟨ad637, e637, hx637_0⟩ := Kd.at_int HR0.out x10_4 p637 q637
               cases e637
               replace hx637_0 := (HB.out.cell (World.block_lt_of_cell? w _ hx637_0)).trans hx637_0
               replace p637 := eq_true p637
               replace q637 := eq_true q637
               have p638 : 0 ≤ ((ji14) : Int) := of_decide_eq_true (by first | (with_reducible assumption) | assumption)
               have q638 : (ji14) < (l1.length : Int) := of_decide_eq_true (by first | (with_reducible assumption) | assumption)
               obtain ⟨ad638, e638, hx638_0⟩ := Kd.at_int HR1.out (ji14) p638 q638
               cases e638
               replace hx638_0 := (HB.out.cell (World.block_lt_of_cell? w _ hx638_0)).trans hx638_0
               replace p638 := eq_true p638
               replace q638 := eq_true q638
               go_wp2
               repeat (go_quiet (fail); try go_wp2)
               first | go_roundg kj8 | ((try subst hji14); go_roundg kj8)
               case measure => have := HJ2.out; have := HK2.out; have := HJ6.out; have := HK4.out; have := HJ8.out; omega
               case rel => exact ⟨(IntKind.u64.wrap (x6_4 + (IntKind.u64.wrap ((IntKind.u64.wrap (rd l0 x10_4)) * (IntKind.u64.wrap (rd l1 (ji14))))))), (x7_4), (wrap64 (x10_4 + 1)), (by first | rfl | (simp; done) | (simp only [← hji14] <;> (first | rfl | simp)) | (simp [*]; done)), (by first | rfl | (simp; done) | (simp [*]; done)), (by first | rfl | (simp; done) | (simp [*]; done)), H', ⟨by have := HJ2.out; have := HK2.out; have := HJ6.out; have := HK4.out; have := HJ8.out; omega⟩, ⟨by exact rm_ HO_5.out⟩, ⟨qm_ HB.out⟩⟩
             ·replace c11 := Bool.eq_false_iff.mpr c11
              subst c11
              rw [if_neg (show ¬ (false = true) by decide)] at H
              obtain ⟨c18, H⟩ := ic_ H
              have LMc18 := A0_ c18
              clear c18
              obtain ⟨y639, hy639⟩ : ∃ y_ : List Int, y_ = (x5_2 ++ [(x6_4) % 4294967296]) := ⟨_, rfl⟩
              replace H : (cutplaneref01_Mul.l0 kj8 l0 l1 y639 (Go.bits .or .u64 (x6_4 / 4294967296) (IntKind.u64.wrap (x7_4 * 4294967296))) (x7_4 / 4294967296) (wrap64 (x8_2 + 1))) = some r := by first | (rw [hy639]; with_reducible exact H) | (have H2_ := (Option.bind_some _ _).symm.trans H; rw [hy639]; with_reducible exact H2_) | (have H2_ := (Option.bind_some _ _).symm.trans H; with_reducible exact H2_) | with_reducible exact H | (rw [hy639]; exact H) | exact H
              have Ny639 := A0_ hy639
              clear hy639
              have H' := A0_ H
              clear H
              go_wp2_with (first | ((with_reducible refine gate_builtin (b := .append) (xs := #[.tmp 71, .tmp 74]) rfl ?_); at_builtin; refine Kd.R_append (Kd.int .u32) (w0 := w) w.heap.size rfl (.tmp 71) (.tmp 74) 105 132 (.int .u32 0) 4 rfl Tryz.underlying105 info132 rfl (by decide) (by omega) u5 x5_2 ((x6_4) % 4294967296) [.int .u32 ((x6_4) % 4294967296)] (fun k_ => (w.heap.size ≤ k_)) (fun _ => False) rfl rfl ?aP (fun _ hk => hk.elim) ?aF ?aO ?aB ?aS ?aL ?_; (case aP => exact rfl); (case aB => exact (qm_ HB.out)); (case aF => exact (fun k_ hk => (Nat.le_trans (below_size (qm_ HB.out)) hk))); (case aO => exact (by exact rm_ HO_5.out)); (case aS => exact (below_size (qm_ HB.out))); (case aL => have := LMc18.out; omega); intro v640 w19 ho hb hg hat; rw [← Ny639.out] at ho; replace HB := A0_ (hb); have HO641 := A0_ (ho); clear HO_5 ho hb hg hat))
              repeat (go_quiet (first | ((with_reducible refine gate_builtin (b := .append) (xs := #[.tmp 71, .tmp 74]) rfl ?_); at_builtin; refine Kd.R_append (Kd.int .u32) (w0 := w) w.heap.size rfl (.tmp 71) (.tmp 74) 105 132 (.int .u32 0) 4 rfl Tryz.underlying105 info132 rfl (by decide) (by omega) u5 x5_2 ((x6_4) % 4294967296) [.int .u32 ((x6_4) % 4294967296)] (fun k_ => (w.heap.size ≤ k_)) (fun _ => False) rfl rfl ?aP (fun _ hk => hk.elim) ?aF ?aO ?aB ?aS ?aL ?_; (case aP => exact rfl); (case aB => exact (qm_ HB.out)); (case aF => exact (fun k_ hk => (Nat.le_trans (below_size (qm_ HB.out)) hk))); (case aO => exact (by exact rm_ HO_5.out)); (case aS => exact (below_size (qm_ HB.out))); (case aL => have := LMc18.out; omega); intro v640 w19 ho hb hg hat; rw [← Ny639.out] at ho; replace HB := A0_ (hb); have HO641 := A0_ (ho); clear HO_5 ho hb hg hat)); try go_wp2_with (first | ((with_reducible refine gate_builtin (b := .append) (xs := #[.tmp 71, .tmp 74]) rfl ?_); at_builtin; refine Kd.R_append (Kd.int .u32) (w0 := w) w.heap.size rfl (.tmp 71) (.tmp 74) 105 132 (.int .u32 0) 4 rfl Tryz.underlying105 info132 rfl (by decide) (by omega) u5 x5_2 ((x6_4) % 4294967296) [.int .u32 ((x6_4) % 4294967296)] (fun k_ => (w.heap.size ≤ k_)) (fun _ => False) rfl rfl ?aP (fun _ hk => hk.elim) ?aF ?aO ?aB ?aS ?aL ?_; (case aP => exact rfl); (case aB => exact (qm_ HB.out)); (case aF => exact (fun k_ hk => (Nat.le_trans (below_size (qm_ HB.out)) hk))); (case aO => exact (by exact rm_ HO_5.out)); (case aS => exact (below_size (qm_ HB.out))); (case aL => have := LMc18.out; omega); intro v640 w19 ho hb hg hat; rw [← Ny639.out] at ho; replace HB := A0_ (hb); have HO641 := A0_ (ho); clear HO_5 ho hb hg hat)))
              first | go_roundg kj8 | ((try subst hji14); go_roundg kj8)
              case measure => have := HJ2.out; have := HK2.out; have := HJ6.out; have := HK4.out; have := HJ8.out; omega
              case rel => exact ⟨(y639), (Go.bits .or .u64 (x6_4 / 4294967296) (IntKind.u64.wrap (x7_4 * 4294967296))), (x7_4 / 4294967296), (wrap64 (x8_2 + 1)), (by first | rfl | (simp; done) | (simp [*]; done)), (by first | rfl | (simp; done) | (simp [*]; done)), (by first | rfl | (simp; done) | (simp [*]; done)), H', ⟨by have := HJ2.out; have := HK2.out; have := HJ6.out; have := HK4.out; have := HJ8.out; omega⟩, ⟨by exact rm_ HO641.out⟩, ⟨qm_ HB.out⟩⟩
      ·rw [if_neg c6] at H
       have c6b0 : decide (x8_2 < (wrap64 ((l0.length : Int) + (l1.length : Int)))) = false := decide_eq_false c6
       clear c6
       obtain ⟨t634, A20, H⟩ := bs_ H
       try dsimp -simprocs only at H
       obtain rfl := Option.some.inj H
       obtain ⟨Ao21, co21, eo21⟩ := Kd.R_slice HO_5.out
       subst eo21
       go_wp2_with (first | (go_at_call 105; (with_reducible refine (cutplaneref01_Trim.calls k2 (fun k_ => some k_ = (.slice Ao21 x5_2.length co21 : Value).ownBlock) _ _ x5_2 t634 _ ?side1 A20.out).mono ?_); (case side1 => exact Kd.R_V (Kd.R_tight rfl (HO_5.out))); rintro e w22 ⟨v635, rfl, ho0, hb⟩; have HO636 := A0_ (Kd.V_lower (Kd.V_mono (ok' := fun k_ => (w.heap.size ≤ k_)) ho0 (fun k_ hk_ => Or.elim hk_ (fun hs_ => ((HO_5.out).1 k_ hs_.symm)) (fun hn_ => (Nat.le_trans (below_size (qm_ HB.out)) hn_)))) (below_size (qm_ HB.out))); replace HO_5 := A0_ (Kd.R_below (by exact rm_ HO_5.out) hb); replace HB := hs_ hb; (try clear hb); (try clear ho0)))
       repeat (go_quiet (first | (go_at_call 105; (with_reducible refine (cutplaneref01_Trim.calls k2 (fun k_ => some k_ = (.slice Ao21 x5_2.length co21 : Value).ownBlock) _ _ x5_2 t634 _ ?side1 A20.out).mono ?_); (case side1 => exact Kd.R_V (Kd.R_tight rfl (HO_5.out))); rintro e w22 ⟨v635, rfl, ho0, hb⟩; have HO636 := A0_ (Kd.V_lower (Kd.V_mono (ok' := fun k_ => (w.heap.size ≤ k_)) ho0 (fun k_ hk_ => Or.elim hk_ (fun hs_ => ((HO_5.out).1 k_ hs_.symm)) (fun hn_ => (Nat.le_trans (below_size (qm_ HB.out)) hn_)))) (below_size (qm_ HB.out))); replace HO_5 := A0_ (Kd.R_below (by exact rm_ HO_5.out) hb); replace HB := hs_ hb; (try clear hb); (try clear ho0))); try go_wp2_with (first | (go_at_call 105; (with_reducible refine (cutplaneref01_Trim.calls k2 (fun k_ => some k_ = (.slice Ao21 x5_2.length co21 : Value).ownBlock) _ _ x5_2 t634 _ ?side1 A20.out).mono ?_); (case side1 => exact Kd.R_V (Kd.R_tight rfl (HO_5.out))); rintro e w22 ⟨v635, rfl, ho0, hb⟩; have HO636 := A0_ (Kd.V_lower (Kd.V_mono (ok' := fun k_ => (w.heap.size ≤ k_)) ho0 (fun k_ hk_ => Or.elim hk_ (fun hs_ => ((HO_5.out).1 k_ hs_.symm)) (fun hn_ => (Nat.le_trans (below_size (qm_ HB.out)) hn_)))) (below_size (qm_ HB.out))); replace HO_5 := A0_ (Kd.R_below (by exact rm_ HO_5.out) hb); replace HB := hs_ hb; (try clear hb); (try clear ho0))))
       go_ret
       exact ⟨_, by first | rfl | (simp [errW_none, errW_some] <;> rfl) | (simp [*, errW_none, errW_some] <;> rfl), by (with_reducible repeat (first | apply Kd.V_alloc | apply Kd.V_drewN | apply Kd.V_drew)); exact HO636.out, qm_ HB.out⟩
end Go.Proofs.YtlgapmhjaaajfaaGreat.PA
end

section
namespace Go.Proofs.YtlgapmhjaaajfaaGreat.PA
open Go.RowKit Go.Proofs.YtlgapmhjaaajfaaGreatW.PrintWords Go.Proofs.YtlgapmhjaaajfaaGreatW.PrintLast Go.Proofs.YtlgapmhjaaajfaaGreatW.PrintMore
attribute [local go_sem] max2_int min2_int max_two min_two max_three min_three max_four min_four   -- for this text's walks alone
set_option linter.unusedVariables false
set_option linter.unusedSimpArgs false
def cutplaneref02_Mul.f (k : Nat) (a0_0 : Bool) (l0_1 : List Int) (a0_2 : Int) (a1_0 : Bool) (l1_1 : List Int) (a1_2 : Int) : Option (Bool × List Int × Int) := (cutplaneref01_Mul.f k l0_1 l1_1).bind fun t645 => ((cutplaneref02_Form.f k (a0_0 != a1_0) t645 (wrap64 (a0_2 + a1_2))).bind fun bt648 => (some (bt648.1, bt648.2.1, bt648.2.2)))
theorem cutplaneref02_Mul.mono : ∀ a0 a1 a2 a3 a4 a5 k, LeO (cutplaneref02_Mul.f k a0 a1 a2 a3 a4 a5) (cutplaneref02_Mul.f (k + 1) a0 a1 a2 a3 a4 a5) := by
 intro a0 a1 a2 a3 a4 a5 k
 unfold cutplaneref02_Mul.f
 repeat' first
   | (with_reducible exact cutplaneref01_Mul.mono _ _ _)
   | (with_reducible exact cutplaneref02_Form.mono _ _ _ _)
   | (with_reducible exact LeO.refl _)
   | (with_reducible exact LeO.none _)
   | (with_reducible refine LeO.ite ?_ ?_)
   | (with_reducible refine LeO.bind ?_ (fun _ => ?_))
   | exact cutplaneref01_Mul.mono _ _ _
   | exact cutplaneref02_Form.mono _ _ _ _
   | exact LeO.none _
   | refine LeO.ite ?_ ?_
   | refine LeO.bind ?_ (fun _ => ?_)
def cutplaneref02_Mul.T1 : Bool × List (List Nat × List Nat) := (true, [([], []), ([0], [0]), ([], []), ([2], [2]), ([1, 3], [1, 3]), ([], []), ([5], [5]), ([], []), ([7], [7]), ([6, 8], [6, 8]), ([], []), ([10], [10]), ([], []), ([12], [12]), ([11, 13], [11, 13]), ([4, 9, 14, 9], [4, 9, 14]), ([15, 15, 0, 1, 2, 3, 4, 5, 6, 7, 8, 9, 10, 11, 12, 13, 14, 15], [15])])
def cutplaneref02_Mul.B1 : List Nat := [0, 1, 0, 4, 15, 0, 32, 0, 128, 480, 0, 1024, 0, 4096, 15360, 32767, 65535]
theorem cutplaneref02_Mul.tab1 : rtab .any (opsOf Tryz.f67 1) = cutplaneref02_Mul.T1 := by kernel_rfl
theorem cutplaneref02_Mul.bits1 : waitsOk cutplaneref02_Mul.T1.2 cutplaneref02_Mul.B1 = true := by kernel_rfl
theorem cutplaneref02_Mul.calls (k : Nat) (a0_0 : Bool) (A0_1 : Option Addr) (c0_1 : Nat) (l0_1 : List Int) (a0_2 : Int) (a1_0 : Bool) (A1_1 : Option Addr) (c1_1 : Nat) (l1_1 : List Int) (a1_2 : Int) (r1 : Bool) (r2 : List Int) (r3 : Int) (w : World) (hr0_1 : Kd.C (Kd.int .u32) w A0_1 l0_1.length l0_1) (hc0_1 : l0_1.length ≤ c0_1) (hr1_1 : Kd.C (Kd.int .u32) w A1_1 l1_1.length l1_1) (hc1_1 : l1_1.length ≤ c1_1) (h : cutplaneref02_Mul.f k a0_0 l0_1 a0_2 a1_0 l1_1 a1_2 = some (r1, r2, r3)) :
  Calls Tryz.prog 67 #[.agg #[.bool a0_0, .slice A0_1 l0_1.length c0_1, .int .i64 a0_2], .agg #[.bool a1_0, .slice A1_1 l1_1.length c1_1, .int .i64 a1_2]] w fun e w' => ∃ v1_ : Value, e = .returned (.agg #[.bool r1, v1_, .int .i64 r3]) ∧ Kd.V (Kd.int .u32) 132 w' w.heap.size (fun k_ => (w.heap.size ≤ k_)) v1_ r2 ∧ Below w.heap.size w w' := by
 have hu107 := Tryz.underlying107
 have HR0_1 := A0_ hr0_1
 have HC0_1 := A0_ hc0_1
 clear hr0_1 hc0_1
 have HR1_1 := A0_ hr1_1
 have HC1_1 := A0_ hc1_1
 clear hr1_1 hc1_1
 have HB := A0_ (Below.refl w.heap.size w)
 have H := h
 clear h
 unfold cutplaneref02_Mul.f at H
 obtain ⟨t645, A3, H⟩ := bs_ H
 try dsimp -simprocs only at H
 obtain ⟨⟨t648, t649, t652⟩, A4, H⟩ := bs_ H
 try dsimp -simprocs only at H
 simp only [Option.some.injEq, Prod.mk.injEq] at H
 obtain ⟨rfl, rfl, rfl⟩ := H
 go_enter Tryz.func67, Tryz.ntmps67
 try go_wp2_with (first | ((with_reducible refine gate_dst (N := 2) rfl ?_); refine box_event ?hg (N := 2) ?hd (cs := #[.bool a0_0, .slice A0_1 l0_1.length c0_1, .int .i64 a0_2]) (t := 107) ?hr ?_; (case hd => rfl); (case hg => rfl); (case hr => first | (go_simp; done) | (go_simp; rfl)); intro gb642 hg w5 hbox hb; have BK642 := A0_ (hbox); have GW642 := A0_ ((by rw [hg]; exact (below_size (qm_ HB.out)) : w.heap.size ≤ gb642)); have GE642 := GW642; replace HB := hs_ hb; clear hb hbox hg) | ((with_reducible refine gate_dst (N := 3) rfl ?_); refine box_event ?hg (N := 3) ?hd (cs := #[.bool a1_0, .slice A1_1 l1_1.length c1_1, .int .i64 a1_2]) (t := 107) ?hr ?_; (case hd => rfl); (case hg => rfl); (case hr => first | (go_simp; done) | (go_simp; rfl)); intro gb643 hg w6 hbox hb; have BK643 := A0_ (hbox); have GW643 := A0_ ((by rw [hg]; exact (below_size qz_) : w.heap.size ≤ gb643)); have GE643 := GW643; replace HB := hs_ hb; have NB642_643 := nl_ hg BK642; have NB643_642 := ng_ hg BK642; replace BK642 := bb_ BK642 hb; clear hb hbox hg) | ((with_reducible refine gate_dst (N := 4) rfl ?_); refine box_event ?hg (N := 4) ?hd (cs := #[.bool false, .slice none 0 0, .int .i64 0]) (t := 107) ?hr ?_; (case hd => rfl); (case hg => rfl); (case hr => first | (go_simp; done) | (go_simp; rfl)); intro gb644 hg w7 hbox hb; have BK644 := A0_ (hbox); have GW644 := A0_ ((by rw [hg]; exact (below_size qz_) : w.heap.size ≤ gb644)); have GE644 := GW644; replace HB := hs_ hb; have NB642_644 := nl_ hg BK642; have NB644_642 := ng_ hg BK642; replace BK642 := bb_ BK642 hb; have NB643_644 := nl_ hg BK643; have NB644_643 := ng_ hg BK643; replace BK643 := bb_ BK643 hb; clear hb hbox hg))
 replace BK642 := A0_ (blk_drew BK642.out)
 replace BK643 := A0_ (blk_drew BK643.out)
 replace BK644 := A0_ (blk_drew BK644.out)
 replace HB := A0_ (below_drew1 HB.out)
 refine start_ (n := 17) (S := fun w' => w'.cell? ⟨gb642, 0, none⟩ = some (.bool a0_0) ∧ w'.cell? ⟨gb642, 1, none⟩ = some (.slice A0_1 l0_1.length c0_1) ∧ w'.cell? ⟨gb642, 2, none⟩ = some (.int .i64 a0_2) ∧ w'.cell? ⟨gb643, 0, none⟩ = some (.bool a1_0) ∧ w'.cell? ⟨gb643, 1, none⟩ = some (.slice A1_1 l1_1.length c1_1) ∧ w'.cell? ⟨gb643, 2, none⟩ = some (.int .i64 a1_2)) (ds := []) #[false, false, false, false, false, false, false, false, false, false, false, false, false, false, false, false, false] (by kernel_rfl) rfl rfl ⟨bC_ BK642.out 0, bC_ BK642.out 1, bC_ BK642.out 2, bC_ BK643.out 0, bC_ BK643.out 1, bC_ BK643.out 2⟩ (fun hHeld => ?_); refine with_tabW cutplaneref02_Mul.tab1 cutplaneref02_Mul.bits1 (fun HT_ HW_ => ?_)
 generalize w7.drew = w8 at BK642 BK643 BK644 HB hHeld ⊢
 refine pure_ (i := 0) (N := some 5) (v := ?_) (a' := ?_) #[true, false, false, false, false, false, false, false, false, false, false, false, false, false, false, false, false] rfl rfl (any_of HT_.out (by kernel_rfl)) (fun _ _ _ h => h) (Or.inl ⟨by rfl, ?_⟩) ?_ ?_
 rotate_left
 ·intro w'
  go_simp
  with_reducible rfl
 rotate_left
 ·simp only [Act.put, sp_, i64_w, i32_w]
  rfl
 refine pure_ (i := 2) (N := some 7) (v := ?_) (a' := ?_) #[true, false, true, false, false, false, false, false, false, false, false, false, false, false, false, false, false] rfl rfl (any_of HT_.out (by kernel_rfl)) (fun _ _ _ h => h) (Or.inl ⟨by rfl, ?_⟩) ?_ ?_
 rotate_left
 ·intro w'
  go_simp
  with_reducible rfl
 rotate_left
 ·simp only [Act.put, sp_, i64_w, i32_w]
  rfl
 refine pure_ (i := 5) (N := some 10) (v := ?_) (a' := ?_) #[true, false, true, false, false, true, false, false, false, false, false, false, false, false, false, false, false] rfl rfl (any_of HT_.out (by kernel_rfl)) (fun _ _ _ h => h) (Or.inl ⟨by rfl, ?_⟩) ?_ ?_
 rotate_left
 ·intro w'
  go_simp
  with_reducible rfl
 rotate_left
 ·simp only [Act.put, sp_, i64_w, i32_w]
  rfl
 refine pure_ (i := 7) (N := some 12) (v := ?_) (a' := ?_) #[true, false, true, false, false, true, false, true, false, false, false, false, false, false, false, false, false] rfl rfl (any_of HT_.out (by kernel_rfl)) (fun _ _ _ h => h) (Or.inl ⟨by rfl, ?_⟩) ?_ ?_
 rotate_left
 ·intro w'
  go_simp
  with_reducible rfl
 rotate_left
 ·simp only [Act.put, sp_, i64_w, i32_w]
  rfl
 refine pure_ (i := 10) (N := some 15) (v := ?_) (a' := ?_) #[true, false, true, false, false, true, false, true, false, false, true, false, false, false, false, false, false] rfl rfl (any_of HT_.out (by kernel_rfl)) (fun _ _ _ h => h) (Or.inl ⟨by rfl, ?_⟩) ?_ ?_
 rotate_left
 ·intro w'
  go_simp
  with_reducible rfl
 rotate_left
 ·simp only [Act.put, sp_, i64_w, i32_w]
  rfl
 refine pure_ (i := 12) (N := some 17) (v := ?_) (a' := ?_) #[true, false, true, false, false, true, false, true, false, false, true, false, true, false, false, false, false] rfl rfl (any_of HT_.out (by kernel_rfl)) (fun _ _ _ h => h) (Or.inl ⟨by rfl, ?_⟩) ?_ ?_
 rotate_left
 ·intro w'
  go_simp
  with_reducible rfl
 rotate_left
 ·simp only [Act.put, sp_, i64_w, i32_w]
  rfl
 refine take_ (i := 1) (N := some 6) (v := ?_) (a' := ?_) #[true, true, true, false, false, true, false, true, false, false, true, false, true, false, false, false, false] rfl rfl (take_ofW HT_.out HW_.out (by kernel_rfl)) (fun _ _ _ h => h) (Or.inl ⟨by rfl, ?_⟩) hHeld ?_ ?_
 rotate_left
 ·rintro w' ⟨s0, s1, s2, s3, s4, s5⟩
  go_simp
  with_reducible rfl
 rotate_left
 ·simp only [Act.put, sp_, i64_w, i32_w]
  rfl
 refine take_ (i := 3) (N := some 8) (v := ?_) (a' := ?_) #[true, true, true, true, false, true, false, true, false, false, true, false, true, false, false, false, false] rfl rfl (take_ofW HT_.out HW_.out (by kernel_rfl)) (fun _ _ _ h => h) (Or.inl ⟨by rfl, ?_⟩) hHeld ?_ ?_
 rotate_left
 ·rintro w' ⟨s0, s1, s2, s3, s4, s5⟩
  go_simp
  with_reducible rfl
 rotate_left
 ·simp only [Act.put, sp_, i64_w, i32_w]
  rfl
 refine pure_ (i := 4) (N := some 9) (v := ?_) (a' := ?_) #[true, true, true, true, true, true, false, true, false, false, true, false, true, false, false, false, false] rfl rfl (any_of HT_.out (by kernel_rfl)) (fun _ _ _ h => h) (Or.inl ⟨by rfl, ?_⟩) ?_ ?_
 rotate_left
 ·intro w'
  go_simp
  with_reducible rfl
 rotate_left
 ·simp only [Act.put, sp_, i64_w, i32_w]
  rfl
 refine take_ (i := 6) (N := some 11) (v := ?_) (a' := ?_) #[true, true, true, true, true, true, true, true, false, false, true, false, true, false, false, false, false] rfl rfl (take_ofW HT_.out HW_.out (by kernel_rfl)) (fun _ _ _ h => h) (Or.inl ⟨by rfl, ?_⟩) hHeld ?_ ?_
 rotate_left
 ·rintro w' ⟨s0, s1, s2, s3, s4, s5⟩
  go_simp
  with_reducible rfl
 rotate_left
 ·simp only [Act.put, sp_, i64_w, i32_w]
  rfl
 refine take_ (i := 8) (N := some 13) (v := ?_) (a' := ?_) #[true, true, true, true, true, true, true, true, true, false, true, false, true, false, false, false, false] rfl rfl (take_ofW HT_.out HW_.out (by kernel_rfl)) (fun _ _ _ h => h) (Or.inl ⟨by rfl, ?_⟩) hHeld ?_ ?_
 rotate_left
 ·rintro w' ⟨s0, s1, s2, s3, s4, s5⟩
  go_simp
  with_reducible rfl
 rotate_left
 ·simp only [Act.put, sp_, i64_w, i32_w]
  rfl
 refine take_ (i := 11) (N := some 16) (v := ?_) (a' := ?_) #[true, true, true, true, true, true, true, true, true, false, true, true, true, false, false, false, false] rfl rfl (take_ofW HT_.out HW_.out (by kernel_rfl)) (fun _ _ _ h => h) (Or.inl ⟨by rfl, ?_⟩) hHeld ?_ ?_
 rotate_left
 ·rintro w' ⟨s0, s1, s2, s3, s4, s5⟩
  go_simp
  with_reducible rfl
 rotate_left
 ·simp only [Act.put, sp_, i64_w, i32_w]
  rfl
 refine take_ (i := 13) (N := some 18) (v := ?_) (a' := ?_) #[true, true, true, true, true, true, true, true, true, false, true, true, true, true, false, false, false] rfl rfl (take_ofW HT_.out HW_.out (by kernel_rfl)) (fun _ _ _ h => h) (Or.inl ⟨by rfl, ?_⟩) hHeld ?_ ?_
 rotate_left
 ·rintro w' ⟨s0, s1, s2, s3, s4, s5⟩
  go_simp
  with_reducible rfl
 rotate_left
 ·simp only [Act.put, sp_, i64_w, i32_w]
  rfl
 refine pure_ (i := 14) (N := some 19) (v := ?_) (a' := ?_) #[true, true, true, true, true, true, true, true, true, false, true, true, true, true, true, false, false] rfl rfl (any_of HT_.out (by kernel_rfl)) (fun _ _ _ h => h) (Or.inl ⟨by rfl, ?_⟩) ?_ ?_
 rotate_left
 ·intro w'
  go_simp
  with_reducible rfl
 rotate_left
 ·simp only [Act.put, sp_, i64_w, i32_w]
  rfl
 refine one_ (i := 9) (N := some 14) #[true, true, true, true, true, true, true, true, true, true, true, true, true, true, true, false, false] rfl rfl (one_of HT_.out (by kernel_rfl)) (by decide) (fun K hK => ?_)
 refine goes_ Tryz.func87 (by kernel_rfl) rfl #[.slice A0_1 l0_1.length c0_1, .slice A1_1 l1_1.length c1_1] (by rfl) rfl rfl (am_ rfl) ?_
 with_reducible refine (cutplaneref01_Mul.calls k _ _ l0_1 _ _ l1_1 t645 _ ?side1 ?side2 ?side3 ?side4 A3.out).mono ?_
 (case side1 => repeat (first | exact (Kd.C_below HR0_1.out HB.out) | (with_reducible refine Kd.C_alloc ?_ _) | (with_reducible refine Kd.C_drewN ?_ _) | (with_reducible refine Kd.C_drew ?_)))
 (case side2 => exact HC0_1.out)
 (case side3 => repeat (first | exact (Kd.C_below HR1_1.out HB.out) | (with_reducible refine Kd.C_alloc ?_ _) | (with_reducible refine Kd.C_drewN ?_ _) | (with_reducible refine Kd.C_drew ?_)))
 (case side4 => exact HC1_1.out)
 rintro e w9 ⟨v646, rfl, ho0, hb⟩
 refine ⟨_, rfl, ?_⟩
 have HO647 := A0_ (Kd.V_lower (Kd.V_mono (ok' := fun k_ => (w.heap.size ≤ k_) ∧ k_ ≠ gb642 ∧ k_ ≠ gb643 ∧ k_ ≠ gb644) ho0 (fun k_ hk_ => ⟨(Nat.le_trans (below_size qz_) hk_), (Kd.freshB (bm_ BK642.out) k_ hk_), (Kd.freshB (bm_ BK643.out) k_ hk_), (Kd.freshB (bm_ BK644.out) k_ hk_)⟩)) (below_size qz_))
 replace BK642 := bb_ BK642 hb
 replace BK643 := bb_ BK643 hb
 replace BK644 := bb_ BK644 hb
 replace HB := hs_ hb
 (try clear hb)
 (try clear ho0)
 obtain ⟨Ao10, co10, eo10⟩ := Kd.V_slice HO647.out
 (first | subst eo10 | (injection eo10 with f1_ f2_ f3_; have f4_ := f1_.symm; have f5_ := f3_.symm; clear f1_ f2_ f3_; subst f4_; subst f5_))
 refine hK.out _ _ ⟨bC_ BK642.out 0, bC_ BK642.out 1, bC_ BK642.out 2, bC_ BK643.out 0, bC_ BK643.out 1, bC_ BK643.out 2⟩ (fun hHeld => ?_)
 clear hK K
 refine norm_ (a' := ?_) ?_ ?_
 rotate_left
 ·show Act.put _ (some 14) _ = _
  simp only [Act.put, sp_, i64_w, i32_w]
  rfl
 refine one_ (i := 15) (N := some 20) #[true, true, true, true, true, true, true, true, true, true, true, true, true, true, true, true, false] rfl rfl (one_of HT_.out (by kernel_rfl)) (by decide) (fun K hK => ?_)
 refine goes_ Tryz.func86 (by kernel_rfl) rfl #[.bool (a0_0 != a1_0), .slice Ao10 t645.length co10, .int .i64 (wrap64 (a0_2 + a1_2))] (by rfl) rfl rfl (am_ rfl) ?_
 with_reducible refine (cutplaneref02_Form.calls k (a0_0 != a1_0) _ _ t645 (wrap64 (a0_2 + a1_2)) t648 t649 t652 _ ?side1 ?side2 A4.out).mono ?_
 (case side1 => repeat (first | exact (Kd.V_reads' HO647.out).2.2 | (with_reducible refine Kd.C_alloc ?_ _) | (with_reducible refine Kd.C_drewN ?_ _) | (with_reducible refine Kd.C_drew ?_)))
 (case side2 => exact (Kd.V_reads' HO647.out).2.1)
 rintro e w11 ⟨v650, rfl, ho0, hb⟩
 refine ⟨_, rfl, ?_⟩
 replace HO647 := A0_ (Kd.V_below (by exact vm_ HO647.out) hb)
 have HO651 := A0_ (Kd.V_lower (Kd.V_mono (ok' := fun k_ => (w.heap.size ≤ k_) ∧ k_ ≠ gb642 ∧ k_ ≠ gb643 ∧ k_ ≠ gb644) ho0 (fun k_ hk_ => ⟨(Nat.le_trans (below_size qz_) hk_), (Kd.freshB (bm_ BK642.out) k_ hk_), (Kd.freshB (bm_ BK643.out) k_ hk_), (Kd.freshB (bm_ BK644.out) k_ hk_)⟩)) (below_size qz_))
 replace BK642 := bb_ BK642 hb
 replace BK643 := bb_ BK643 hb
 replace BK644 := bb_ BK644 hb
 replace HB := hs_ hb
 (try clear hb)
 (try clear ho0)
 obtain ⟨Ao13, co13, eo13⟩ := Kd.V_slice HO651.out
 (first | subst eo13 | (injection eo13 with f1_ f2_ f3_; have f4_ := f1_.symm; have f5_ := f3_.symm; clear f1_ f2_ f3_; subst f4_; subst f5_))
 refine hK.out _ _ ⟨bC_ BK642.out 0, bC_ BK642.out 1, bC_ BK642.out 2, bC_ BK643.out 0, bC_ BK643.out 1, bC_ BK643.out 2⟩ (fun hHeld => ?_)
 clear hK K
 refine norm_ (a' := ?_) ?_ ?_
 rotate_left
 ·show Act.put _ (some 20) _ = _
  simp only [Act.put, sp_, i64_w, i32_w]
  rfl
 refine one_ (i := 16) (N := none) #[true, true, true, true, true, true, true, true, true, true, true, true, true, true, true, true, true] rfl rfl (one_of HT_.out (by kernel_rfl)) (by decide) (fun K hK => ?_)
 have hs12 : w11.cell? ⟨gb644, 0, none⟩ = some (.bool false) := (blk_cell BK644.out 0).trans rfl
 have hfs12 := blk_frozen BK644.out 0
 have hns12_0 := NB642_644.out
 have hns12_1 := NB643_644.out
 have hms12_0 := NB644_642.out
 have hms12_1 := NB644_643.out
 have hs14 : w11.cell? ⟨gb644, 1, none⟩ = some (.slice none 0 0) := (blk_cell BK644.out 1).trans rfl
 have hfs14 := blk_frozen BK644.out 1
 have hns14_0 := NB642_644.out
 have hns14_1 := NB643_644.out
 have hms14_0 := NB644_642.out
 have hms14_1 := NB644_643.out
 have hs15 : w11.cell? ⟨gb644, 2, none⟩ = some (.int .i64 0) := (blk_cell BK644.out 2).trans rfl
 have hfs15 := blk_frozen BK644.out 2
 have hns15_0 := NB642_644.out
 have hns15_1 := NB643_644.out
 have hms15_0 := NB644_642.out
 have hms15_1 := NB644_643.out
 refine skip_ (w1 := ?_) (by rfl) rfl ?_ ?_
 rotate_left
 ·go_simp
  rfl
 refine hK.out _ _ ⟨((cell_far (p := ⟨gb644, _, none⟩) NB642_644.out _).trans (((cell_far (p := ⟨gb644, _, none⟩) NB642_644.out _).trans (((cell_far (p := ⟨gb644, _, none⟩) NB642_644.out _).trans (hHeld.1)))))), ((cell_far (p := ⟨gb644, _, none⟩) NB642_644.out _).trans (((cell_far (p := ⟨gb644, _, none⟩) NB642_644.out _).trans (((cell_far (p := ⟨gb644, _, none⟩) NB642_644.out _).trans (hHeld.2.1)))))), ((cell_far (p := ⟨gb644, _, none⟩) NB642_644.out _).trans (((cell_far (p := ⟨gb644, _, none⟩) NB642_644.out _).trans (((cell_far (p := ⟨gb644, _, none⟩) NB642_644.out _).trans (hHeld.2.2.1)))))), ((cell_far (p := ⟨gb644, _, none⟩) NB643_644.out _).trans (((cell_far (p := ⟨gb644, _, none⟩) NB643_644.out _).trans (((cell_far (p := ⟨gb644, _, none⟩) NB643_644.out _).trans (hHeld.2.2.2.1)))))), ((cell_far (p := ⟨gb644, _, none⟩) NB643_644.out _).trans (((cell_far (p := ⟨gb644, _, none⟩) NB643_644.out _).trans (((cell_far (p := ⟨gb644, _, none⟩) NB643_644.out _).trans (hHeld.2.2.2.2.1)))))), ((cell_far (p := ⟨gb644, _, none⟩) NB643_644.out _).trans (((cell_far (p := ⟨gb644, _, none⟩) NB643_644.out _).trans (((cell_far (p := ⟨gb644, _, none⟩) NB643_644.out _).trans (hHeld.2.2.2.2.2))))))⟩ (fun hHeld => ?_)
 clear hK K
 refine done_ (done_of HT_.out (by kernel_rfl)) ?_
 try go_wp2
 refine bodyPost_ret (results_cell_row rfl _ _ gb644 107 #[.bool t648, .slice Ao13 t649.length co13, .int .i64 t652] (0, 0) _ rfl (by (with_reducible repeat first | apply bN_ | apply bD_ | apply bA_); refine blk_put (cs := #[.bool t648, .slice Ao13 t649.length co13, .int .i64 0]) ?_ 2 _ rfl; refine blk_put (cs := #[.bool t648, .slice none 0 0, .int .i64 0]) ?_ 1 _ rfl; refine blk_put (cs := #[.bool false, .slice none 0 0, .int .i64 0]) ?_ 0 _ rfl; exact bm_ BK644.out) Tryz.underlying107 rfl (by kernel_rfl)) rfl ?_
 exact ⟨_, by first | rfl | (simp [errW_none, errW_some] <;> rfl) | (simp [*, errW_none, errW_some] <;> rfl), by (with_reducible repeat (first | apply Kd.V_alloc | apply Kd.V_drewN | apply Kd.V_drew)); exact Kd.V_mono (Kd.V_far (p := ⟨gb644, 2, none⟩) (Kd.V_far (p := ⟨gb644, 1, none⟩) (Kd.V_far (p := ⟨gb644, 0, none⟩) (Kd.V_mono HO651.out (fun k_ hk => (⟨hk, hk.2.2.2⟩ : _ ∧ k_ ≠ gb644))) (fun _ hk => hk.2) (.bool t648)) (fun _ hk => hk.2) (.slice Ao13 t649.length co13)) (fun _ hk => hk.2) (.int .i64 t652)) (fun _ hk => hk.1.1), qz_⟩
end Go.Proofs.YtlgapmhjaaajfaaGreat.PA
end

section
namespace Go.Proofs.YtlgapmhjaaajfaaGreat.PA
open Go.RowKit Go.Proofs.YtlgapmhjaaajfaaGreatW.PrintWords Go.Proofs.YtlgapmhjaaajfaaGreatW.PrintLast Go.Proofs.YtlgapmhjaaajfaaGreatW.PrintMore
attribute [local go_sem] max2_int min2_int max_two min_two max_three min_three max_four min_four   -- for this text's walks alone
set_option linter.unusedVariables false
set_option linter.unusedSimpArgs false
def cutplaneref01_Of.f (k : Nat) (a0 : Int) : Option (List Int) := (cutplaneref01_Trim.f k (([(a0) % 4294967296, (a0 / 4294967296) % 4294967296] : List Int))).bind fun t656 => (some t656)
theorem cutplaneref01_Of.mono : ∀ a0 k, LeO (cutplaneref01_Of.f k a0) (cutplaneref01_Of.f (k + 1) a0) := by
 intro a0 k
 unfold cutplaneref01_Of.f
 repeat' first
   | (with_reducible exact cutplaneref01_Trim.mono _ _)
   | (with_reducible exact LeO.refl _)
   | (with_reducible exact LeO.none _)
   | (with_reducible refine LeO.ite ?_ ?_)
   | (with_reducible refine LeO.bind ?_ (fun _ => ?_))
   | exact cutplaneref01_Trim.mono _ _
   | exact LeO.none _
   | refine LeO.ite ?_ ?_
   | refine LeO.bind ?_ (fun _ => ?_)
theorem cutplaneref01_Of.calls (k : Nat) (a0 : Int) (r : List Int) (w : World) (h : cutplaneref01_Of.f k a0 = some r) :
  Calls Tryz.prog 88 #[.int .u64 a0] w fun e w' => ∃ v0_ : Value, e = .returned (v0_) ∧ Kd.V (Kd.int .u32) 132 w' w.heap.size (fun k_ => (w.heap.size ≤ k_)) v0_ r ∧ Below w.heap.size w w' := by
 have HB := A0_ (Below.refl w.heap.size w)
 have H := h
 clear h
 unfold cutplaneref01_Of.f at H
 obtain ⟨y653, hy653⟩ : ∃ y_ : List Int, y_ = (([(a0) % 4294967296, (a0 / 4294967296) % 4294967296] : List Int)) := ⟨_, rfl⟩
 replace H : ((cutplaneref01_Trim.f k y653).bind fun t656 => (some t656)) = some r := by first | (rw [hy653]; with_reducible exact H) | (have H2_ := (Option.bind_some _ _).symm.trans H; rw [hy653]; with_reducible exact H2_) | (have H2_ := (Option.bind_some _ _).symm.trans H; with_reducible exact H2_) | with_reducible exact H | (rw [hy653]; exact H) | exact H
 have Ny653 := A0_ hy653
 clear hy653
 obtain ⟨t656, A2, H⟩ := bs_ H
 try dsimp -simprocs only at H
 obtain rfl := Option.some.inj H
 go_enter Tryz.func88, Tryz.ntmps88
 go_wp2_with (first | ((with_reducible refine gate_dst (N := 8) rfl ?_); refine Kd.R_lit (Kd.int .u32) _ 132 ?hg (N := 8) ?hd (xs := ([(a0) % 4294967296, (a0 / 4294967296) % 4294967296] : List Int)) (inner := [.int .u32 ((a0) % 4294967296), .int .u32 ((a0 / 4294967296) % 4294967296)]) (ok := fun _ => True) (okp := fun _ => True) ?hr ?hp (fun _ hk => hk) trivial (Below.refl _ _) (Nat.le_refl _) (by simp) ?_; (case hd => rfl); (case hg => rfl); (case hr => first | (go_simp; done) | (go_simp; rfl)); (case hp => exact (Reps.one (show Kd.M (Kd.int .u32) _ _ _ ((a0) % 4294967296) [.int .u32 ((a0) % 4294967296)] from rfl) (Reps.one (show Kd.M (Kd.int .u32) _ _ _ ((a0 / 4294967296) % 4294967296) [.int .u32 ((a0 / 4294967296) % 4294967296)] from rfl) (Reps.none _ _)))); intro v654 w3 ho4 hb hg_ hnew_; clear hg_ hnew_; (first | rw [← Ny653.out] at ho4 | (simp only [Int.reduceToNat] at ho4; rw [← Ny653.out] at ho4)); have HO655 := A0_ (Kd.R_lower (Kd.R_newM (M := fun k_ => (w.heap.size ≤ k_)) ho4 (below_size (qm_ HB.out)) (fun k_ h_ => h_)) (below_size (qm_ HB.out))); replace HB := hs_ hb; clear hb ho4; obtain ⟨Ao5, co5, eo5⟩ := Kd.R_slice HO655.out; subst eo5) | ((with_reducible refine gate_callee (f := 105) rfl ?_); refine goesL_ (some 9) rfl rfl Tryz.func105 (by kernel_rfl) rfl #[.slice Ao5 y653.length co5] rfl (am_ rfl) ?_; (with_reducible refine (cutplaneref01_Trim.calls k (fun k_ => some k_ = (.slice Ao5 y653.length co5 : Value).ownBlock) _ _ y653 t656 _ ?side1 A2.out).mono ?_); (case side1 => exact Kd.R_V (Kd.R_tight rfl (HO655.out))); rintro e w6 ⟨v657, rfl, ho0, hb⟩; refine ⟨_, rfl, ?_⟩; have HO658 := A0_ (Kd.V_lower (Kd.V_mono (ok' := fun k_ => (w.heap.size ≤ k_)) ho0 (fun k_ hk_ => Or.elim hk_ (fun hs_ => ((HO655.out).1 k_ hs_.symm).1) (fun hn_ => (Nat.le_trans (below_size (qm_ HB.out)) hn_)))) (below_size (qm_ HB.out))); replace HO655 := A0_ (Kd.R_below (by exact rm_ HO655.out) hb); replace HB := hs_ hb; (try clear hb); (try clear ho0)))
 go_ret
 exact ⟨_, by first | rfl | (simp [errW_none, errW_some] <;> rfl) | (simp [*, errW_none, errW_some] <;> rfl), by (with_reducible repeat (first | apply Kd.V_alloc | apply Kd.V_drewN | apply Kd.V_drew)); exact HO658.out, qm_ HB.out⟩
end Go.Proofs.YtlgapmhjaaajfaaGreat.PA
end

section
namespace Go.Proofs.YtlgapmhjaaajfaaGreat.PA
open Go.RowKit Go.Proofs.YtlgapmhjaaajfaaGreatW.PrintWords Go.Proofs.YtlgapmhjaaajfaaGreatW.PrintLast Go.Proofs.YtlgapmhjaaajfaaGreatW.PrintMore
attribute [local go_sem] max2_int min2_int max_two min_two max_three min_three max_four min_four   -- for this text's walks alone
set_option linter.unusedVariables false
set_option linter.unusedSimpArgs false
def cutplaneref03_Value.f (k : Nat) (a0 : Int) (a1 : Int) : Option (Bool × List Int × Int) := (cutplaneref03_Split.f a0 a1).bind fun bt660 => (if bt660.2.1 = 0 then ((cutplaneref01_Of.f k bt660.2.2).bind fun t664 => ((cutplaneref03_Low.f a0).bind fun t667 => ((cutplaneref02_Form.f k bt660.1 t664 t667).bind fun bt668 => (some (bt668.1, bt668.2.1, bt668.2.2))))) else ((cutplaneref03_Frac.f a0).bind fun t673 => (if 0 ≤ t673 then ((cutplaneref01_Of.f k (IntKind.u64.wrap ((shl .u64 1 t673) + bt660.2.2))).bind fun t674 => ((cutplaneref03_Low.f a0).bind fun t677 => ((cutplaneref02_Form.f k bt660.1 t674 (wrap64 ((wrap64 (bt660.2.1 - 1)) + t677))).bind fun bt678 => (some (bt678.1, bt678.2.1, bt678.2.2))))) else (none))))
theorem cutplaneref03_Value.mono : ∀ a0 a1 k, LeO (cutplaneref03_Value.f k a0 a1) (cutplaneref03_Value.f (k + 1) a0 a1) := by
 intro a0 a1 k
 unfold cutplaneref03_Value.f
 repeat' first
   | (with_reducible exact cutplaneref01_Of.mono _ _)
   | (with_reducible exact cutplaneref02_Form.mono _ _ _ _)
   | (with_reducible exact LeO.refl _)
   | (with_reducible exact LeO.none _)
   | (with_reducible refine LeO.ite ?_ ?_)
   | (with_reducible refine LeO.bind ?_ (fun _ => ?_))
   | exact cutplaneref01_Of.mono _ _
   | exact cutplaneref02_Form.mono _ _ _ _
   | exact LeO.none _
   | refine LeO.ite ?_ ?_
   | refine LeO.bind ?_ (fun _ => ?_)
def cutplaneref03_Value.T3 : Bool × List (List Nat × List Nat) := (true, [([], []), ([0], [0]), ([], []), ([2], [2]), ([3], [3]), ([], []), ([5, 4], [5]), ([1, 4, 6, 6], [1, 4, 6]), ([7, 7, 0, 1, 2, 3, 4, 5, 6, 7], [7])])
def cutplaneref03_Value.B3 : List Nat := [0, 1, 0, 4, 12, 0, 60, 127, 255]
theorem cutplaneref03_Value.tab3 : rtab .any (opsOf Tryz.f68 3) = cutplaneref03_Value.T3 := by kernel_rfl
theorem cutplaneref03_Value.bits3 : waitsOk cutplaneref03_Value.T3.2 cutplaneref03_Value.B3 = true := by kernel_rfl
def cutplaneref03_Value.T4 : Bool × List (List Nat × List Nat) := (true, [([], []), ([0], [0]), ([], []), ([2], [2]), ([3], [3]), ([], []), ([5], [5]), ([4, 6], [4, 6]), ([7, 3], [7]), ([], []), ([9], [9]), ([10], [10]), ([], []), ([12, 8], [12]), ([11, 13], [11, 13]), ([1, 8, 14, 13], [1, 8, 14]), ([15, 15, 0, 1, 2, 3, 4, 5, 6, 7, 8, 9, 10, 11, 12, 13, 14, 15], [15])])
def cutplaneref03_Value.B4 : List Nat := [0, 1, 0, 4, 12, 0, 32, 124, 252, 0, 512, 1536, 0, 4604, 16380, 32767, 65535]
theorem cutplaneref03_Value.tab4 : rtab .any (opsOf Tryz.f68 4) = cutplaneref03_Value.T4 := by kernel_rfl
theorem cutplaneref03_Value.bits4 : waitsOk cutplaneref03_Value.T4.2 cutplaneref03_Value.B4 = true := by kernel_rfl
theorem cutplaneref03_Value.calls (k : Nat) (a0 : Int) (a1 : Int) (r1 : Bool) (r2 : List Int) (r3 : Int) (w : World) (h : cutplaneref03_Value.f k a0 a1 = some (r1, r2, r3)) :
  Calls Tryz.prog 68 #[.int .u8 a0, .int .u64 a1] w fun e w' => ∃ v1_ : Value, e = .returned (.agg #[.bool r1, v1_, .int .i64 r3]) ∧ Kd.V (Kd.int .u32) 132 w' w.heap.size (fun k_ => (w.heap.size ≤ k_)) v1_ r2 ∧ Below w.heap.size w w' := by
 have hu107 := Tryz.underlying107
 have hu61 := Tryz.underlying61
 have HB := A0_ (Below.refl w.heap.size w)
 have H := h
 clear h
 unfold cutplaneref03_Value.f at H
 obtain ⟨⟨t660, t661, t662⟩, A3, H⟩ := bs_ H
 try dsimp -simprocs only at H
 by_cases c4 : t661 = 0
 ·rw [if_pos c4] at H
  have c4b0 : (t661 == 0) = true := beq_iff_eq.mpr c4
  have c4b1 : (t661 != 0) = false := bne_eq_false_iff_eq.mpr c4
  clear c4
  obtain ⟨t664, A5, H⟩ := bs_ H
  try dsimp -simprocs only at H
  obtain ⟨t667, A6, H⟩ := bs_ H
  try dsimp -simprocs only at H
  obtain ⟨⟨t668, t669, t672⟩, A7, H⟩ := bs_ H
  try dsimp -simprocs only at H
  simp only [Option.some.injEq, Prod.mk.injEq] at H
  obtain ⟨rfl, rfl, rfl⟩ := H
  go_enter Tryz.func68, Tryz.ntmps68
  try go_wp2_with (first | ((with_reducible refine gate_dst (N := 4) rfl ?_); refine box_event ?hg (N := 4) ?hd (cs := #[.bool false, .slice none 0 0, .int .i64 0]) (t := 107) ?hr ?_; (case hd => rfl); (case hg => rfl); (case hr => first | (go_simp; done) | (go_simp; rfl)); intro gb659 hg w8 hbox hb; have BK659 := A0_ (hbox); have GW659 := A0_ ((by rw [hg]; exact (below_size (qm_ HB.out)) : w.heap.size ≤ gb659)); have GE659 := GW659; replace HB := hs_ hb; clear hb hbox hg) | ((with_reducible refine gate_callee (f := 23) rfl ?_); refine goesL_ (some 8) rfl rfl Tryz.func23 (by kernel_rfl) rfl #[.int .u8 a0, .int .u64 a1] rfl (am_ rfl) ?_; (with_reducible refine (cutplaneref03_Split.calls a0 a1 t660 t661 t662 _ A3.out).mono ?_); rintro e w9 ⟨rfl, hb⟩; refine ⟨_, rfl, ?_⟩; replace BK659 := bb_ BK659 hb; replace HB := hs_ hb; (try clear hb)) | ((with_reducible refine gate_dst (N := 5) rfl ?_); refine box_event ?hg (N := 5) ?hd (cs := #[.bool false, .int .i64 0, .int .u64 0]) (t := 61) ?hr ?_; (case hd => rfl); (case hg => rfl); (case hr => first | (go_simp; done) | (go_simp; rfl)); intro gb663 hg w10 hbox hb; have BK663 := A0_ (hbox); have GW663 := A0_ ((by rw [hg]; exact (below_size qz_) : w.heap.size ≤ gb663)); have GE663 := GW663; replace HB := hs_ hb; have NB659_663 := nl_ hg BK659; have NB663_659 := ng_ hg BK659; replace BK659 := bb_ BK659 hb; clear hb hbox hg; have hnb11 := NB663_659.out; have hnc11 := NB659_663.out; have hcz12 := bc3_ BK663.out; have hfz12 := bf3_ BK663.out))
  have n0_ : Aside0 ((((w10.setCell ⟨gb663, 0, none⟩ (.bool t660)).setCell ⟨gb663, 1, none⟩ (.int .i64 t661)).setCell ⟨gb663, 2, none⟩ (.int .u64 t662)).heap[gb659]? = some (.cells #[.bool false, .slice none 0 0, .int .i64 0] 107 (0, 0))) := ⟨by (with_reducible repeat first | apply bN_ | apply bD_ | apply bA_); refine blk_far ?_ NB659_663.out _; refine blk_far ?_ NB659_663.out _; refine blk_far ?_ NB659_663.out _; exact bm_ BK659.out⟩
  have n1_ : Aside0 ((((w10.setCell ⟨gb663, 0, none⟩ (.bool t660)).setCell ⟨gb663, 1, none⟩ (.int .i64 t661)).setCell ⟨gb663, 2, none⟩ (.int .u64 t662)).heap[gb663]? = some (.cells #[.bool t660, .int .i64 t661, .int .u64 t662] 61 (0, 0))) := ⟨by (with_reducible repeat first | apply bN_ | apply bD_ | apply bA_); refine blk_put (cs := #[.bool t660, .int .i64 t661, .int .u64 0]) ?_ 2 _ rfl; refine blk_put (cs := #[.bool t660, .int .i64 0, .int .u64 0]) ?_ 1 _ rfl; refine blk_put (cs := #[.bool false, .int .i64 0, .int .u64 0]) ?_ 0 _ rfl; exact bm_ BK663.out⟩
  have n2_ : Aside0 (Below w.heap.size w (((w10.setCell ⟨gb663, 0, none⟩ (.bool t660)).setCell ⟨gb663, 1, none⟩ (.int .i64 t661)).setCell ⟨gb663, 2, none⟩ (.int .u64 t662))) := ⟨qz_⟩
  (try clear BK659)
  (try clear BK663)
  (try clear HB)
  generalize (((w10.setCell ⟨gb663, 0, none⟩ (.bool t660)).setCell ⟨gb663, 1, none⟩ (.int .i64 t661)).setCell ⟨gb663, 2, none⟩ (.int .u64 t662)) = w13 at n0_ n1_ n2_ ⊢
  have BK659 := n0_
  have BK663 := n1_
  have HB := n2_
  clear n0_ n1_ n2_
  replace BK659 := A0_ (blk_drew BK659.out)
  replace BK663 := A0_ (blk_drew BK663.out)
  replace HB := A0_ (below_drew1 HB.out)
  refine start_ (n := 9) (S := fun w' => w'.cell? ⟨gb663, 0, none⟩ = some (.bool t660) ∧ w'.cell? ⟨gb663, 1, none⟩ = some (.int .i64 t661) ∧ w'.cell? ⟨gb663, 2, none⟩ = some (.int .u64 t662)) (ds := []) #[false, false, false, false, false, false, false, false, false] (by kernel_rfl) rfl rfl ⟨bC_ BK663.out 0, bC_ BK663.out 1, bC_ BK663.out 2⟩ (fun hHeld => ?_); refine with_tabW cutplaneref03_Value.tab3 cutplaneref03_Value.bits3 (fun HT_ HW_ => ?_)
  generalize w13.drew = w14 at BK659 BK663 HB hHeld ⊢
  refine pure_ (i := 0) (N := some 12) (v := ?_) (a' := ?_) #[true, false, false, false, false, false, false, false, false] rfl rfl (any_of HT_.out (by kernel_rfl)) (fun _ _ _ h => h) (Or.inl ⟨by rfl, ?_⟩) ?_ ?_
  rotate_left
  ·intro w'
   go_simp
   with_reducible rfl
  rotate_left
  ·simp only [Act.put, sp_, i64_w, i32_w]
   rfl
  refine pure_ (i := 2) (N := some 14) (v := ?_) (a' := ?_) #[true, false, true, false, false, false, false, false, false] rfl rfl (any_of HT_.out (by kernel_rfl)) (fun _ _ _ h => h) (Or.inl ⟨by rfl, ?_⟩) ?_ ?_
  rotate_left
  ·intro w'
   go_simp
   with_reducible rfl
  rotate_left
  ·simp only [Act.put, sp_, i64_w, i32_w]
   rfl
  refine pure_ (i := 5) (N := some 17) (v := ?_) (a' := ?_) #[true, false, true, false, false, true, false, false, false] rfl rfl (any_of HT_.out (by kernel_rfl)) (fun _ _ _ h => h) (Or.inl ⟨by rfl, ?_⟩) ?_ ?_
  rotate_left
  ·intro w'
   go_simp
   with_reducible rfl
  rotate_left
  ·simp only [Act.put, sp_, i64_w, i32_w]
   rfl
  refine take_ (i := 1) (N := some 13) (v := ?_) (a' := ?_) #[true, true, true, false, false, true, false, false, false] rfl rfl (take_ofW HT_.out HW_.out (by kernel_rfl)) (fun _ _ _ h => h) (Or.inl ⟨by rfl, ?_⟩) hHeld ?_ ?_
  rotate_left
  ·rintro w' ⟨s0, s1, s2⟩
   go_simp
   with_reducible rfl
  rotate_left
  ·simp only [Act.put, sp_, i64_w, i32_w]
   rfl
  refine take_ (i := 3) (N := some 15) (v := ?_) (a' := ?_) #[true, true, true, true, false, true, false, false, false] rfl rfl (take_ofW HT_.out HW_.out (by kernel_rfl)) (fun _ _ _ h => h) (Or.inl ⟨by rfl, ?_⟩) hHeld ?_ ?_
  rotate_left
  ·rintro w' ⟨s0, s1, s2⟩
   go_simp
   with_reducible rfl
  rotate_left
  ·simp only [Act.put, sp_, i64_w, i32_w]
   rfl
  refine one_ (i := 4) (N := some 16) #[true, true, true, true, true, true, false, false, false] rfl rfl (one_of HT_.out (by kernel_rfl)) (by decide) (fun K hK => ?_)
  refine goes_ Tryz.func88 (by kernel_rfl) rfl #[.int .u64 t662] (by rfl) rfl rfl (am_ rfl) ?_
  with_reducible refine (cutplaneref01_Of.calls k t662 t664 _ A5.out).mono ?_
  rintro e w15 ⟨v665, rfl, ho0, hb⟩
  refine ⟨_, rfl, ?_⟩
  have HO666 := A0_ (Kd.V_lower (Kd.V_mono (ok' := fun k_ => (w.heap.size ≤ k_) ∧ k_ ≠ gb659 ∧ k_ ≠ gb663) ho0 (fun k_ hk_ => ⟨(Nat.le_trans (below_size qz_) hk_), (Kd.freshB (bm_ BK659.out) k_ hk_), (Kd.freshB (bm_ BK663.out) k_ hk_)⟩)) (below_size qz_))
  replace BK659 := bb_ BK659 hb
  replace BK663 := bb_ BK663 hb
  replace HB := hs_ hb
  (try clear hb)
  (try clear ho0)
  refine hK.out _ _ ⟨bC_ BK663.out 0, bC_ BK663.out 1, bC_ BK663.out 2⟩ (fun hHeld => ?_)
  clear hK K
  refine norm_ (a' := ?_) ?_ ?_
  rotate_left
  ·show Act.put _ (some 16) _ = _
   simp only [Act.put, sp_, i64_w, i32_w]
   rfl
  refine one_ (i := 6) (N := some 18) #[true, true, true, true, true, true, true, false, false] rfl rfl (one_of HT_.out (by kernel_rfl)) (by decide) (fun K hK => ?_)
  refine goes_ Tryz.func79 (by kernel_rfl) rfl #[.int .u8 a0] (by rfl) rfl rfl (am_ rfl) ?_
  with_reducible refine (cutplaneref03_Low.calls a0 t667 _ A6.out).mono ?_
  rintro e w' ⟨rfl, ⟨nd, rfl⟩⟩
  refine ⟨_, rfl, ?_⟩
  obtain ⟨Ao16, co16, eo16⟩ := Kd.V_slice HO666.out
  (first | subst eo16 | (injection eo16 with f1_ f2_ f3_; have f4_ := f1_.symm; have f5_ := f3_.symm; clear f1_ f2_ f3_; subst f4_; subst f5_))
  refine hK.out _ _ ⟨bC_ BK663.out 0, bC_ BK663.out 1, bC_ BK663.out 2⟩ (fun hHeld => ?_)
  clear hK K
  refine norm_ (a' := ?_) ?_ ?_
  rotate_left
  ·show Act.put _ (some 18) _ = _
   simp only [Act.put, sp_, i64_w, i32_w]
   rfl
  refine one_ (i := 7) (N := some 19) #[true, true, true, true, true, true, true, true, false] rfl rfl (one_of HT_.out (by kernel_rfl)) (by decide) (fun K hK => ?_)
  refine goes_ Tryz.func86 (by kernel_rfl) rfl #[.bool t660, .slice Ao16 t664.length co16, .int .i64 t667] (by rfl) rfl rfl (am_ rfl) ?_
  with_reducible refine (cutplaneref02_Form.calls k t660 _ _ t664 t667 t668 t669 t672 _ ?side1 ?side2 A7.out).mono ?_
  (case side1 => repeat (first | exact (Kd.V_reads' HO666.out).2.2 | (with_reducible refine Kd.C_alloc ?_ _) | (with_reducible refine Kd.C_drewN ?_ _) | (with_reducible refine Kd.C_drew ?_)))
  (case side2 => exact (Kd.V_reads' HO666.out).2.1)
  rintro e w17 ⟨v670, rfl, ho0, hb⟩
  refine ⟨_, rfl, ?_⟩
  replace HO666 := A0_ (Kd.V_below (by exact vm_ HO666.out) hb)
  have HO671 := A0_ (Kd.V_lower (Kd.V_mono (ok' := fun k_ => (w.heap.size ≤ k_) ∧ k_ ≠ gb659 ∧ k_ ≠ gb663) ho0 (fun k_ hk_ => ⟨(Nat.le_trans (below_size qz_) hk_), (Kd.freshB (bm_ BK659.out) k_ hk_), (Kd.freshB (bm_ BK663.out) k_ hk_)⟩)) (below_size qz_))
  replace BK659 := bb_ BK659 hb
  replace BK663 := bb_ BK663 hb
  replace HB := hs_ hb
  (try clear hb)
  (try clear ho0)
  obtain ⟨Ao19, co19, eo19⟩ := Kd.V_slice HO671.out
  (first | subst eo19 | (injection eo19 with f1_ f2_ f3_; have f4_ := f1_.symm; have f5_ := f3_.symm; clear f1_ f2_ f3_; subst f4_; subst f5_))
  refine hK.out _ _ ⟨bC_ BK663.out 0, bC_ BK663.out 1, bC_ BK663.out 2⟩ (fun hHeld => ?_)
  clear hK K
  refine norm_ (a' := ?_) ?_ ?_
  rotate_left
  ·show Act.put _ (some 19) _ = _
   simp only [Act.put, sp_, i64_w, i32_w]
   rfl
  refine one_ (i := 8) (N := none) #[true, true, true, true, true, true, true, true, true] rfl rfl (one_of HT_.out (by kernel_rfl)) (by decide) (fun K hK => ?_)
  have hs18 : w17.cell? ⟨gb659, 0, none⟩ = some (.bool false) := (blk_cell BK659.out 0).trans rfl
  have hfs18 := blk_frozen BK659.out 0
  have hns18_1 := NB663_659.out
  have hms18_1 := NB659_663.out
  have hs20 : w17.cell? ⟨gb659, 1, none⟩ = some (.slice none 0 0) := (blk_cell BK659.out 1).trans rfl
  have hfs20 := blk_frozen BK659.out 1
  have hns20_1 := NB663_659.out
  have hms20_1 := NB659_663.out
  have hs21 : w17.cell? ⟨gb659, 2, none⟩ = some (.int .i64 0) := (blk_cell BK659.out 2).trans rfl
  have hfs21 := blk_frozen BK659.out 2
  have hns21_1 := NB663_659.out
  have hms21_1 := NB659_663.out
  refine skip_ (w1 := ?_) (by rfl) rfl ?_ ?_
  rotate_left
  ·go_simp
   rfl
  refine hK.out _ _ ⟨((cell_far (p := ⟨gb659, _, none⟩) NB663_659.out _).trans (((cell_far (p := ⟨gb659, _, none⟩) NB663_659.out _).trans (((cell_far (p := ⟨gb659, _, none⟩) NB663_659.out _).trans (hHeld.1)))))), ((cell_far (p := ⟨gb659, _, none⟩) NB663_659.out _).trans (((cell_far (p := ⟨gb659, _, none⟩) NB663_659.out _).trans (((cell_far (p := ⟨gb659, _, none⟩) NB663_659.out _).trans (hHeld.2.1)))))), ((cell_far (p := ⟨gb659, _, none⟩) NB663_659.out _).trans (((cell_far (p := ⟨gb659, _, none⟩) NB663_659.out _).trans (((cell_far (p := ⟨gb659, _, none⟩) NB663_659.out _).trans (hHeld.2.2))))))⟩ (fun hHeld => ?_)
  clear hK K
  refine done_ (done_of HT_.out (by kernel_rfl)) ?_
  try go_wp2
  refine bodyPost_ret (results_cell_row rfl _ _ gb659 107 #[.bool t668, .slice Ao19 t669.length co19, .int .i64 t672] (0, 0) _ rfl (by (with_reducible repeat first | apply bN_ | apply bD_ | apply bA_); refine blk_put (cs := #[.bool t668, .slice Ao19 t669.length co19, .int .i64 0]) ?_ 2 _ rfl; refine blk_put (cs := #[.bool t668, .slice none 0 0, .int .i64 0]) ?_ 1 _ rfl; refine blk_put (cs := #[.bool false, .slice none 0 0, .int .i64 0]) ?_ 0 _ rfl; exact bm_ BK659.out) Tryz.underlying107 rfl (by kernel_rfl)) rfl ?_
  exact ⟨_, by first | rfl | (simp [errW_none, errW_some] <;> rfl) | (simp [*, errW_none, errW_some] <;> rfl), by (with_reducible repeat (first | apply Kd.V_alloc | apply Kd.V_drewN | apply Kd.V_drew)); exact Kd.V_mono (Kd.V_far (p := ⟨gb659, 2, none⟩) (Kd.V_far (p := ⟨gb659, 1, none⟩) (Kd.V_far (p := ⟨gb659, 0, none⟩) (Kd.V_mono HO671.out (fun k_ hk => (⟨hk, hk.2.1⟩ : _ ∧ k_ ≠ gb659))) (fun _ hk => hk.2) (.bool t668)) (fun _ hk => hk.2) (.slice Ao19 t669.length co19)) (fun _ hk => hk.2) (.int .i64 t672)) (fun _ hk => hk.1.1), qz_⟩
 ·rw [if_neg c4] at H
  have c4b0 : (t661 == 0) = false := beq_eq_false_iff_ne.mpr c4
  have c4b1 : (t661 != 0) = true := bne_iff_ne.mpr c4
  obtain ⟨t673, A22, H⟩ := bs_ H
  try dsimp -simprocs only at H
  obtain ⟨c23, H⟩ := ic_ H
  have c23b0 := eq_true c23
  have c23b1 : decide (0 ≤ t673) = true := decide_eq_true c23
  clear c23
  obtain ⟨ji24, hji24⟩ : ∃ j_ : Int, (shl .u64 1 t673) = j_ := ⟨_, rfl⟩
  replace H : ((cutplaneref01_Of.f k (IntKind.u64.wrap ((ji24) + t662))).bind fun t674 => ((cutplaneref03_Low.f a0).bind fun t677 => ((cutplaneref02_Form.f k t660 t674 (wrap64 ((wrap64 (t661 - 1)) + t677))).bind fun bt678 => (some (bt678.1, bt678.2.1, bt678.2.2))))) = some (r1, r2, r3) := by first | (rw [hji24] at H; exact H) | (simp only [hji24] at H ⊢; exact H)
  (try rw [hji24] at A3)
  (try rw [hji24] at A22)
  have hji24_ : (IntKind.u64.wrap (1 * 2 ^ min t673.toNat 64)) = ji24 := hji24
  have hji24z : t673 ≤ 64 → (IntKind.u64.wrap (1 * 2 ^ t673.toNat)) = ji24 := shl_small hji24
  have hji24u : (IntKind.u64.wrap (2 ^ min t673.toNat 64)) = ji24 := by have h_ := hji24_; rw [Int.one_mul] at h_; exact h_
  have hji24v : t673 ≤ 64 → (IntKind.u64.wrap (2 ^ t673.toNat)) = ji24 := fun hle_ => by have h_ := hji24z hle_; rw [Int.one_mul] at h_; exact h_
  obtain ⟨t674, A25, H⟩ := bs_ H
  try dsimp -simprocs only at H
  obtain ⟨t677, A26, H⟩ := bs_ H
  try dsimp -simprocs only at H
  obtain ⟨⟨t678, t679, t682⟩, A27, H⟩ := bs_ H
  try dsimp -simprocs only at H
  simp only [Option.some.injEq, Prod.mk.injEq] at H
  obtain ⟨rfl, rfl, rfl⟩ := H
  go_enter Tryz.func68, Tryz.ntmps68
  try go_wp2_with (first | ((with_reducible refine gate_dst (N := 4) rfl ?_); refine box_event ?hg (N := 4) ?hd (cs := #[.bool false, .slice none 0 0, .int .i64 0]) (t := 107) ?hr ?_; (case hd => rfl); (case hg => rfl); (case hr => first | (go_simp; done) | (go_simp; rfl)); intro gb659 hg w28 hbox hb; have BK659 := A0_ (hbox); have GW659 := A0_ ((by rw [hg]; exact (below_size (qm_ HB.out)) : w.heap.size ≤ gb659)); have GE659 := GW659; replace HB := hs_ hb; clear hb hbox hg) | ((with_reducible refine gate_callee (f := 23) rfl ?_); refine goesL_ (some 8) rfl rfl Tryz.func23 (by kernel_rfl) rfl #[.int .u8 a0, .int .u64 a1] rfl (am_ rfl) ?_; (with_reducible refine (cutplaneref03_Split.calls a0 a1 t660 t661 t662 _ A3.out).mono ?_); rintro e w29 ⟨rfl, hb⟩; refine ⟨_, rfl, ?_⟩; replace BK659 := bb_ BK659 hb; replace HB := hs_ hb; (try clear hb)) | ((with_reducible refine gate_dst (N := 5) rfl ?_); refine box_event ?hg (N := 5) ?hd (cs := #[.bool false, .int .i64 0, .int .u64 0]) (t := 61) ?hr ?_; (case hd => rfl); (case hg => rfl); (case hr => first | (go_simp; done) | (go_simp; rfl)); intro gb663 hg w30 hbox hb; have BK663 := A0_ (hbox); have GW663 := A0_ ((by rw [hg]; exact (below_size qz_) : w.heap.size ≤ gb663)); have GE663 := GW663; replace HB := hs_ hb; have NB659_663 := nl_ hg BK659; have NB663_659 := ng_ hg BK659; replace BK659 := bb_ BK659 hb; clear hb hbox hg; have hnb31 := NB663_659.out; have hnc31 := NB659_663.out; have hcz32 := bc3_ BK663.out; have hfz32 := bf3_ BK663.out))
  have n0_ : Aside0 ((((w30.setCell ⟨gb663, 0, none⟩ (.bool t660)).setCell ⟨gb663, 1, none⟩ (.int .i64 t661)).setCell ⟨gb663, 2, none⟩ (.int .u64 t662)).heap[gb659]? = some (.cells #[.bool false, .slice none 0 0, .int .i64 0] 107 (0, 0))) := ⟨by (with_reducible repeat first | apply bN_ | apply bD_ | apply bA_); refine blk_far ?_ NB659_663.out _; refine blk_far ?_ NB659_663.out _; refine blk_far ?_ NB659_663.out _; exact bm_ BK659.out⟩
  have n1_ : Aside0 ((((w30.setCell ⟨gb663, 0, none⟩ (.bool t660)).setCell ⟨gb663, 1, none⟩ (.int .i64 t661)).setCell ⟨gb663, 2, none⟩ (.int .u64 t662)).heap[gb663]? = some (.cells #[.bool t660, .int .i64 t661, .int .u64 t662] 61 (0, 0))) := ⟨by (with_reducible repeat first | apply bN_ | apply bD_ | apply bA_); refine blk_put (cs := #[.bool t660, .int .i64 t661, .int .u64 0]) ?_ 2 _ rfl; refine blk_put (cs := #[.bool t660, .int .i64 0, .int .u64 0]) ?_ 1 _ rfl; refine blk_put (cs := #[.bool false, .int .i64 0, .int .u64 0]) ?_ 0 _ rfl; exact bm_ BK663.out⟩
  have n2_ : Aside0 (Below w.heap.size w (((w30.setCell ⟨gb663, 0, none⟩ (.bool t660)).setCell ⟨gb663, 1, none⟩ (.int .i64 t661)).setCell ⟨gb663, 2, none⟩ (.int .u64 t662))) := ⟨qz_⟩
  (try clear BK659)
  (try clear BK663)
  (try clear HB)
  generalize (((w30.setCell ⟨gb663, 0, none⟩ (.bool t660)).setCell ⟨gb663, 1, none⟩ (.int .i64 t661)).setCell ⟨gb663, 2, none⟩ (.int .u64 t662)) = w33 at n0_ n1_ n2_ ⊢
  have BK659 := n0_
  have BK663 := n1_
  have HB := n2_
  clear n0_ n1_ n2_
  replace BK659 := A0_ (blk_drew BK659.out)
  replace BK663 := A0_ (blk_drew BK663.out)
  replace HB := A0_ (below_drew1 HB.out)
  refine start_ (n := 17) (S := fun w' => w'.cell? ⟨gb663, 0, none⟩ = some (.bool t660) ∧ w'.cell? ⟨gb663, 1, none⟩ = some (.int .i64 t661) ∧ w'.cell? ⟨gb663, 2, none⟩ = some (.int .u64 t662)) (ds := []) #[false, false, false, false, false, false, false, false, false, false, false, false, false, false, false, false, false] (by kernel_rfl) rfl rfl ⟨bC_ BK663.out 0, bC_ BK663.out 1, bC_ BK663.out 2⟩ (fun hHeld => ?_); refine with_tabW cutplaneref03_Value.tab4 cutplaneref03_Value.bits4 (fun HT_ HW_ => ?_)
  generalize w33.drew = w34 at BK659 BK663 HB hHeld ⊢
  refine pure_ (i := 0) (N := some 20) (v := ?_) (a' := ?_) #[true, false, false, false, false, false, false, false, false, false, false, false, false, false, false, false, false] rfl rfl (any_of HT_.out (by kernel_rfl)) (fun _ _ _ h => h) (Or.inl ⟨by rfl, ?_⟩) ?_ ?_
  rotate_left
  ·intro w'
   go_simp
   with_reducible rfl
  rotate_left
  ·simp only [Act.put, sp_, i64_w, i32_w]
   rfl
  refine pure_ (i := 2) (N := some 22) (v := ?_) (a' := ?_) #[true, false, true, false, false, false, false, false, false, false, false, false, false, false, false, false, false] rfl rfl (any_of HT_.out (by kernel_rfl)) (fun _ _ _ h => h) (Or.inl ⟨by rfl, ?_⟩) ?_ ?_
  rotate_left
  ·intro w'
   go_simp
   with_reducible rfl
  rotate_left
  ·simp only [Act.put, sp_, i64_w, i32_w]
   rfl
  refine pure_ (i := 5) (N := some 25) (v := ?_) (a' := ?_) #[true, false, true, false, false, true, false, false, false, false, false, false, false, false, false, false, false] rfl rfl (any_of HT_.out (by kernel_rfl)) (fun _ _ _ h => h) (Or.inl ⟨by rfl, ?_⟩) ?_ ?_
  rotate_left
  ·intro w'
   go_simp
   with_reducible rfl
  rotate_left
  ·simp only [Act.put, sp_, i64_w, i32_w]
   rfl
  refine pure_ (i := 9) (N := some 29) (v := ?_) (a' := ?_) #[true, false, true, false, false, true, false, false, false, true, false, false, false, false, false, false, false] rfl rfl (any_of HT_.out (by kernel_rfl)) (fun _ _ _ h => h) (Or.inl ⟨by rfl, ?_⟩) ?_ ?_
  rotate_left
  ·intro w'
   go_simp
   with_reducible rfl
  rotate_left
  ·simp only [Act.put, sp_, i64_w, i32_w]
   rfl
  refine pure_ (i := 12) (N := some 32) (v := ?_) (a' := ?_) #[true, false, true, false, false, true, false, false, false, true, false, false, true, false, false, false, false] rfl rfl (any_of HT_.out (by kernel_rfl)) (fun _ _ _ h => h) (Or.inl ⟨by rfl, ?_⟩) ?_ ?_
  rotate_left
  ·intro w'
   go_simp
   with_reducible rfl
  rotate_left
  ·simp only [Act.put, sp_, i64_w, i32_w]
   rfl
  refine take_ (i := 1) (N := some 21) (v := ?_) (a' := ?_) #[true, true, true, false, false, true, false, false, false, true, false, false, true, false, false, false, false] rfl rfl (take_ofW HT_.out HW_.out (by kernel_rfl)) (fun _ _ _ h => h) (Or.inl ⟨by rfl, ?_⟩) hHeld ?_ ?_
  rotate_left
  ·rintro w' ⟨s0, s1, s2⟩
   go_simp
   with_reducible rfl
  rotate_left
  ·simp only [Act.put, sp_, i64_w, i32_w]
   rfl
  refine take_ (i := 6) (N := some 26) (v := ?_) (a' := ?_) #[true, true, true, false, false, true, true, false, false, true, false, false, true, false, false, false, false] rfl rfl (take_ofW HT_.out HW_.out (by kernel_rfl)) (fun _ _ _ h => h) (Or.inl ⟨by rfl, ?_⟩) hHeld ?_ ?_
  rotate_left
  ·rintro w' ⟨s0, s1, s2⟩
   go_simp
   with_reducible rfl
  rotate_left
  ·simp only [Act.put, sp_, i64_w, i32_w]
   rfl
  refine take_ (i := 10) (N := some 30) (v := ?_) (a' := ?_) #[true, true, true, false, false, true, true, false, false, true, true, false, true, false, false, false, false] rfl rfl (take_ofW HT_.out HW_.out (by kernel_rfl)) (fun _ _ _ h => h) (Or.inl ⟨by rfl, ?_⟩) hHeld ?_ ?_
  rotate_left
  ·rintro w' ⟨s0, s1, s2⟩
   go_simp
   with_reducible rfl
  rotate_left
  ·simp only [Act.put, sp_, i64_w, i32_w]
   rfl
  refine pure_ (i := 11) (N := some 31) (v := ?_) (a' := ?_) #[true, true, true, false, false, true, true, false, false, true, true, true, true, false, false, false, false] rfl rfl (any_of HT_.out (by kernel_rfl)) (fun _ _ _ h => h) (Or.inl ⟨by rfl, ?_⟩) ?_ ?_
  rotate_left
  ·intro w'
   go_simp
   with_reducible rfl
  rotate_left
  ·simp only [Act.put, sp_, i64_w, i32_w]
   rfl
  refine one_ (i := 3) (N := some 23) #[true, true, true, true, false, true, true, false, false, true, true, true, true, false, false, false, false] rfl rfl (one_of HT_.out (by kernel_rfl)) (by decide) (fun K hK => ?_)
  refine goes_ Tryz.func47 (by kernel_rfl) rfl #[.int .u8 a0] (by rfl) rfl rfl (am_ rfl) ?_
  with_reducible refine (cutplaneref03_Frac.calls a0 t673 _ A22.out).mono ?_
  rintro e w' ⟨rfl, ⟨nd, rfl⟩⟩
  refine ⟨_, rfl, ?_⟩
  refine hK.out _ _ ⟨bC_ BK663.out 0, bC_ BK663.out 1, bC_ BK663.out 2⟩ (fun hHeld => ?_)
  clear hK K
  refine norm_ (a' := ?_) ?_ ?_
  rotate_left
  ·show Act.put _ (some 23) _ = _
   simp only [Act.put, sp_, i64_w, i32_w]
   rfl
  refine pure_ (i := 4) (N := some 24) (v := ?_) (a' := ?_) #[true, true, true, true, true, true, true, false, false, true, true, true, true, false, false, false, false] rfl rfl (any_of HT_.out (by kernel_rfl)) (fun _ _ _ h => h) (Or.inl ⟨by rfl, ?_⟩) ?_ ?_
  rotate_left
  ·intro w'
   go_simp
   with_reducible rfl
  rotate_left
  ·simp only [Act.put, sp_, i64_w, i32_w]
   rfl
  refine pure_ (i := 7) (N := some 27) (v := ?_) (a' := ?_) #[true, true, true, true, true, true, true, true, false, true, true, true, true, false, false, false, false] rfl rfl (any_of HT_.out (by kernel_rfl)) (fun _ _ _ h => h) (Or.inl ⟨by rfl, ?_⟩) ?_ ?_
  rotate_left
  ·intro w'
   go_simp
   with_reducible rfl
  rotate_left
  ·simp only [Act.put, sp_, i64_w, i32_w]
   rfl
  refine one_ (i := 8) (N := some 28) #[true, true, true, true, true, true, true, true, true, true, true, true, true, false, false, false, false] rfl rfl (one_of HT_.out (by kernel_rfl)) (by decide) (fun K hK => ?_)
  refine goes_ Tryz.func88 (by kernel_rfl) rfl #[.int .u64 (IntKind.u64.wrap ((ji24) + t662))] (by rfl) rfl rfl (by (try simp only [List.map_toArray, List.map_cons, List.map_nil]); first | done | (simp only [hji24]; rfl) | rfl | (simp only [List.length_drop, List.length_take]; rfl)) ?_
  with_reducible refine (cutplaneref01_Of.calls k (IntKind.u64.wrap ((ji24) + t662)) t674 _ A25.out).mono ?_
  rintro e w35 ⟨v675, rfl, ho0, hb⟩
  refine ⟨_, rfl, ?_⟩
  have HO676 := A0_ (Kd.V_lower (Kd.V_mono (ok' := fun k_ => (w.heap.size ≤ k_) ∧ k_ ≠ gb659 ∧ k_ ≠ gb663) ho0 (fun k_ hk_ => ⟨(Nat.le_trans (below_size qz_) hk_), (Kd.freshB (bm_ BK659.out) k_ hk_), (Kd.freshB (bm_ BK663.out) k_ hk_)⟩)) (below_size qz_))
  replace BK659 := bb_ BK659 hb
  replace BK663 := bb_ BK663 hb
  replace HB := hs_ hb
  (try clear hb)
  (try clear ho0)
  refine hK.out _ _ ⟨bC_ BK663.out 0, bC_ BK663.out 1, bC_ BK663.out 2⟩ (fun hHeld => ?_)
  clear hK K
  refine norm_ (a' := ?_) ?_ ?_
  rotate_left
  ·show Act.put _ (some 28) _ = _
   simp only [Act.put, sp_, i64_w, i32_w]
   rfl
  refine one_ (i := 13) (N := some 33) #[true, true, true, true, true, true, true, true, true, true, true, true, true, true, false, false, false] rfl rfl (one_of HT_.out (by kernel_rfl)) (by decide) (fun K hK => ?_)
  refine goes_ Tryz.func79 (by kernel_rfl) rfl #[.int .u8 a0] (by rfl) rfl rfl (am_ rfl) ?_
  with_reducible refine (cutplaneref03_Low.calls a0 t677 _ A26.out).mono ?_
  rintro e w' ⟨rfl, ⟨nd, rfl⟩⟩
  refine ⟨_, rfl, ?_⟩
  obtain ⟨Ao36, co36, eo36⟩ := Kd.V_slice HO676.out
  (first | subst eo36 | (injection eo36 with f1_ f2_ f3_; have f4_ := f1_.symm; have f5_ := f3_.symm; clear f1_ f2_ f3_; subst f4_; subst f5_))
  refine hK.out _ _ ⟨bC_ BK663.out 0, bC_ BK663.out 1, bC_ BK663.out 2⟩ (fun hHeld => ?_)
  clear hK K
  refine norm_ (a' := ?_) ?_ ?_
  rotate_left
  ·show Act.put _ (some 33) _ = _
   simp only [Act.put, sp_, i64_w, i32_w]
   rfl
  refine pure_ (i := 14) (N := some 34) (v := ?_) (a' := ?_) #[true, true, true, true, true, true, true, true, true, true, true, true, true, true, true, false, false] rfl rfl (any_of HT_.out (by kernel_rfl)) (fun _ _ _ h => h) (Or.inl ⟨by rfl, ?_⟩) ?_ ?_
  rotate_left
  ·intro w'
   go_simp
   with_reducible rfl
  rotate_left
  ·simp only [Act.put, sp_, i64_w, i32_w]
   rfl
  refine one_ (i := 15) (N := some 35) #[true, true, true, true, true, true, true, true, true, true, true, true, true, true, true, true, false] rfl rfl (one_of HT_.out (by kernel_rfl)) (by decide) (fun K hK => ?_)
  refine goes_ Tryz.func86 (by kernel_rfl) rfl #[.bool t660, .slice Ao36 t674.length co36, .int .i64 (wrap64 ((wrap64 (t661 - 1)) + t677))] (by rfl) rfl rfl (am_ rfl) ?_
  with_reducible refine (cutplaneref02_Form.calls k t660 _ _ t674 (wrap64 ((wrap64 (t661 - 1)) + t677)) t678 t679 t682 _ ?side1 ?side2 A27.out).mono ?_
  (case side1 => repeat (first | exact (Kd.V_reads' HO676.out).2.2 | (with_reducible refine Kd.C_alloc ?_ _) | (with_reducible refine Kd.C_drewN ?_ _) | (with_reducible refine Kd.C_drew ?_)))
  (case side2 => exact (Kd.V_reads' HO676.out).2.1)
  rintro e w37 ⟨v680, rfl, ho0, hb⟩
  refine ⟨_, rfl, ?_⟩
  replace HO676 := A0_ (Kd.V_below (by exact vm_ HO676.out) hb)
  have HO681 := A0_ (Kd.V_lower (Kd.V_mono (ok' := fun k_ => (w.heap.size ≤ k_) ∧ k_ ≠ gb659 ∧ k_ ≠ gb663) ho0 (fun k_ hk_ => ⟨(Nat.le_trans (below_size qz_) hk_), (Kd.freshB (bm_ BK659.out) k_ hk_), (Kd.freshB (bm_ BK663.out) k_ hk_)⟩)) (below_size qz_))
  replace BK659 := bb_ BK659 hb
  replace BK663 := bb_ BK663 hb
  replace HB := hs_ hb
  (try clear hb)
  (try clear ho0)
  obtain ⟨Ao39, co39, eo39⟩ := Kd.V_slice HO681.out
  (first | subst eo39 | (injection eo39 with f1_ f2_ f3_; have f4_ := f1_.symm; have f5_ := f3_.symm; clear f1_ f2_ f3_; subst f4_; subst f5_))
  refine hK.out _ _ ⟨bC_ BK663.out 0, bC_ BK663.out 1, bC_ BK663.out 2⟩ (fun hHeld => ?_)
  clear hK K
  refine norm_ (a' := ?_) ?_ ?_
  rotate_left
  ·show Act.put _ (some 35) _ = _
   simp only [Act.put, sp_, i64_w, i32_w]
   rfl
  refine one_ (i := 16) (N := none) #[true, true, true, true, true, true, true, true, true, true, true, true, true, true, true, true, true] rfl rfl (one_of HT_.out (by kernel_rfl)) (by decide) (fun K hK => ?_)
  have hs38 : w37.cell? ⟨gb659, 0, none⟩ = some (.bool false) := (blk_cell BK659.out 0).trans rfl
  have hfs38 := blk_frozen BK659.out 0
  have hns38_1 := NB663_659.out
  have hms38_1 := NB659_663.out
  have hs40 : w37.cell? ⟨gb659, 1, none⟩ = some (.slice none 0 0) := (blk_cell BK659.out 1).trans rfl
  have hfs40 := blk_frozen BK659.out 1
  have hns40_1 := NB663_659.out
  have hms40_1 := NB659_663.out
  have hs41 : w37.cell? ⟨gb659, 2, none⟩ = some (.int .i64 0) := (blk_cell BK659.out 2).trans rfl
  have hfs41 := blk_frozen BK659.out 2
  have hns41_1 := NB663_659.out
  have hms41_1 := NB659_663.out
  refine skip_ (w1 := ?_) (by rfl) rfl ?_ ?_
  rotate_left
  ·go_simp
   rfl
  refine hK.out _ _ ⟨((cell_far (p := ⟨gb659, _, none⟩) NB663_659.out _).trans (((cell_far (p := ⟨gb659, _, none⟩) NB663_659.out _).trans (((cell_far (p := ⟨gb659, _, none⟩) NB663_659.out _).trans (hHeld.1)))))), ((cell_far (p := ⟨gb659, _, none⟩) NB663_659.out _).trans (((cell_far (p := ⟨gb659, _, none⟩) NB663_659.out _).trans (((cell_far (p := ⟨gb659, _, none⟩) NB663_659.out _).trans (hHeld.2.1)))))), ((cell_far (p := ⟨gb659, _, none⟩) NB663_659.out _).trans (((cell_far (p := ⟨gb659, _, none⟩) NB663_659.out _).trans (((cell_far (p := ⟨gb659, _, none⟩) NB663_659.out _).trans (hHeld.2.2))))))⟩ (fun hHeld => ?_)
  clear hK K
  refine done_ (done_of HT_.out (by kernel_rfl)) ?_
  try go_wp2
  refine bodyPost_ret (results_cell_row rfl _ _ gb659 107 #[.bool t678, .slice Ao39 t679.length co39, .int .i64 t682] (0, 0) _ rfl (by (with_reducible repeat first | apply bN_ | apply bD_ | apply bA_); refine blk_put (cs := #[.bool t678, .slice Ao39 t679.length co39, .int .i64 0]) ?_ 2 _ rfl; refine blk_put (cs := #[.bool t678, .slice none 0 0, .int .i64 0]) ?_ 1 _ rfl; refine blk_put (cs := #[.bool false, .slice none 0 0, .int .i64 0]) ?_ 0 _ rfl; exact bm_ BK659.out) Tryz.underlying107 rfl (by kernel_rfl)) rfl ?_
  exact ⟨_, by first | rfl | (simp [errW_none, errW_some] <;> rfl) | (simp only [← hji24]; first | rfl | (simp [errW_none, errW_some] <;> rfl)) | (simp [*, errW_none, errW_some] <;> rfl), by (with_reducible repeat (first | apply Kd.V_alloc | apply Kd.V_drewN | apply Kd.V_drew)); exact Kd.V_mono (Kd.V_far (p := ⟨gb659, 2, none⟩) (Kd.V_far (p := ⟨gb659, 1, none⟩) (Kd.V_far (p := ⟨gb659, 0, none⟩) (Kd.V_mono HO681.out (fun k_ hk => (⟨hk, hk.2.1⟩ : _ ∧ k_ ≠ gb659))) (fun _ hk => hk.2) (.bool t678)) (fun _ hk => hk.2) (.slice Ao39 t679.length co39)) (fun _ hk => hk.2) (.int .i64 t682)) (fun _ hk => hk.1.1), qz_⟩
end Go.Proofs.YtlgapmhjaaajfaaGreat.PA
end
