/- Steps of Go functions that the law RankSorts uses, told as plain Lean functions, each with the proof that its call comes to what it tells; words on memory; plain facts. No condition beyond those that each text names. -/
import Derived.Test.YtnjdaoeebhbmfaaProg
import Derived.Below
import Derived.Deep.Draws
import Derived.Deep.AppendLies
import Derived.Maps.AppendAt
import Derived.OwnWalk
import Derived.Laws.BytesArg
import Derived.Laws.MakeOwn
import Derived.Laws.OwnMore
import Derived.Deep.OwnRows
import Derived.Tactics
import Derived.Lib.ConvBytes
import Derived.Laws.Slices
import Derived.WalkKit
import Derived.KernelRfl
import Derived.RowKit3
import Derived.Deep.LoopGhost
import Derived.Deep.QuietTactic
import Derived.BigQuiet
import Derived.WideLaws
import Derived.Deep.DeepCutAuto
import Derived.Deep.CutBlock
import Derived.Deep.RegionHeld3
import Derived.Laws.Rows
import Derived.Lib.AppendStr
import Derived.ArgAppend
import Derived.Laws.IdiomCopy
import Derived.OrdersHeld
import Derived.Laws.BitsLemmas
import Derived.RowKit
import Derived.Laws.StructEq
import Derived.Test.YtnjdaoeebhbmfaaSRankSorts0
import Derived.Test.YtnjdaoeebhbmfaaSRankSorts1
import Derived.Test.YtnjdaoeebhbmfaaSRankSorts3
import Derived.Test.YtnjdaoeebhbmfaaSRankSorts4
import Derived.Test.YtnjdaoeebhbmfaaSRankSorts5
import Derived.Test.YtnjdaoeebhbmfaaSRankSorts6
import Derived.Test.YtnjdaoeebhbmfaaSRankSorts7
import Derived.Test.YtnjdaoeebhbmfaaSRankSorts8
import Derived.Test.YtnjdaoeebhbmfaaSRankSorts9
import Derived.Test.YtnjdaoeebhbmfaaSRankSorts10
import Derived.Test.YtnjdaoeebhbmfaaSRankSorts11
import Derived.Test.YtnjdaoeebhbmfaaSRankSorts12
import Derived.Test.YtnjdaoeebhbmfaaSRankSorts13
import Derived.Test.YtnjdaoeebhbmfaaSRankSorts14
section
namespace Go.Proofs.Ytnjdaoeebhbmfaa.PA
open Go.RowKit Go.Proofs.YtnjdaoeebhbmfaaW.PrintWords Go.Proofs.YtnjdaoeebhbmfaaW.PrintLast Go.Proofs.YtnjdaoeebhbmfaaW.PrintMore
attribute [local go_sem] max2_int min2_int max_two min_two max_three min_three max_four min_four   -- for this text's walks alone
set_option linter.unusedVariables false
set_option linter.unusedSimpArgs false
def cutplanelaw07_same.l0 : Nat → List Int → List Int → Int → Option (Bool)
 | 0, _, _, _ => none
 | k + 1, x0, x1, x5 => if x5 < (x0.length : Int) then (if 0 ≤ x5 then (if x5 < (x1.length : Int) then (if (rd x0 x5) = (rd x1 x5) then (cutplanelaw07_same.l0 k x0 x1 (wrap64 (x5 + 1))) else (some false)) else (none)) else (none)) else (some true)
def cutplanelaw07_same.f (k : Nat) (l0 : List Int) (l1 : List Int) : Option (Bool) := if (l0.length : Int) = (l1.length : Int) then (cutplanelaw07_same.l0 k l0 l1 0) else (some false)
set_option maxHeartbeats 2000000 in
set_option maxRecDepth 100000 in
theorem cutplanelaw07_same.calls (k : Nat) (A0 : Option Addr) (c0 : Nat) (l0 : List Int) (A1 : Option Addr) (c1 : Nat) (l1 : List Int) (r : Bool) (w : World) (hr0 : Kd.C (Kd.int .u64) w A0 l0.length l0) (hc0 : l0.length ≤ c0) (hr1 : Kd.C (Kd.int .u64) w A1 l1.length l1) (hc1 : l1.length ≤ c1) (h : cutplanelaw07_same.f k l0 l1 = some r) :
  Calls Try.prog 31 #[.slice A0 l0.length c0, .slice A1 l1.length c1] w fun e w' => e = .returned (.bool r) ∧ Drawn0 w w' := by
 have HR0 := A0_ hr0
 have HC0 := A0_ hc0
 clear hr0 hc0
 have HR1 := A0_ hr1
 have HC1 := A0_ hc1
 clear hr1 hc1
 have H : (if (l0.length : Int) = (l1.length : Int) then (cutplanelaw07_same.l0 k l0 l1 0) else (some false)) = some r := h
 clear h
 by_cases c3 : (l0.length : Int) = (l1.length : Int)
 ·rw [if_pos c3] at H
  have c3b0 : ((l0.length : Int) == (l1.length : Int)) = true := beq_iff_eq.mpr c3
  have c3b1 : ((l0.length : Int) != (l1.length : Int)) = false := bne_eq_false_iff_eq.mpr c3
  have c3b2 : (l0.length == l1.length) = true := by first | simpa using c3 | (simp at c3 ⊢; omega)
  clear c3
  have H' := A0_ H
  clear H
  go_enter Try.func31, Try.ntmps31
  go_wp2
  repeat (go_quiet (fail); try go_wp2)
  go_loopg [5] k (fun kq v5 w' => ∃ (x5_1 : Int), v5 = .int .i64 x5_1 ∧ Aside0 (cutplanelaw07_same.l0 kq l0 l1 x5_1 = some r) ∧ Aside0 (kq ≤ k) ∧ Drawn0 w w')
  case atStart => exact ⟨(0), (by first | rfl | (simp; done) | (simp [*]; done)), H', ⟨Nat.le_refl _⟩, by repeat (first | exact Drawn0.refl _ | apply Drawn0.step)⟩
  case round =>
   clear H'
   try clear c1
   try clear p2
   try clear c3
   try clear c3b0
   try clear c3b1
   try clear c3b2
   obtain ⟨x5_1, rfl, HA, HK1, ⟨m1, rfl⟩⟩ := hrel
   cases gk with
   | zero => exact absurd HA.out (by simp [cutplanelaw07_same.l0])
   | succ k1 =>
    have H := HA.out
    clear HA
    simp only [cutplanelaw07_same.l0] at H
    by_cases c4 : x5_1 < (l0.length : Int)
    ·rw [if_pos c4] at H
     have c4b0 : decide (x5_1 < (l0.length : Int)) = true := decide_eq_true c4
     clear c4
     by_cases c5 : 0 ≤ x5_1
     ·rw [if_pos c5] at H
      have c5b0 : decide (0 ≤ x5_1) = true := decide_eq_true c5
      clear c5
      by_cases c6 : x5_1 < (l1.length : Int)
      ·rw [if_pos c6] at H
       have c6b0 : decide (x5_1 < (l1.length : Int)) = true := decide_eq_true c6
       clear c6
       by_cases c7 : (rd l0 x5_1) = (rd l1 x5_1)
       ·rw [if_pos c7] at H
        have c7b0 : ((rd l0 x5_1) == (rd l1 x5_1)) = true := beq_iff_eq.mpr c7
        have c7b1 : ((rd l0 x5_1) != (rd l1 x5_1)) = false := bne_eq_false_iff_eq.mpr c7
        clear c7
        have H' := A0_ H
        clear H
        have p698 : 0 ≤ (x5_1 : Int) := of_decide_eq_true (by first | (with_reducible assumption) | assumption)
        have q698 : x5_1 < (l0.length : Int) := of_decide_eq_true (by first | (with_reducible assumption) | assumption)
        obtain ⟨ad698, e698, hx698_0⟩ := Kd.at_int HR0.out x5_1 p698 q698
        cases e698
        replace p698 := eq_true p698
        replace q698 := eq_true q698
        have p699 : 0 ≤ (x5_1 : Int) := of_decide_eq_true (by first | (with_reducible assumption) | assumption)
        have q699 : x5_1 < (l1.length : Int) := of_decide_eq_true (by first | (with_reducible assumption) | assumption)
        obtain ⟨ad699, e699, hx699_0⟩ := Kd.at_int HR1.out x5_1 p699 q699
        cases e699
        replace p699 := eq_true p699
        replace q699 := eq_true q699
        go_wp2
        repeat (go_quiet (fail); try go_wp2)
        go_roundg k1
        case measure => have := HK1.out; omega
        case rel => exact ⟨(wrap64 (x5_1 + 1)), (by first | rfl | (simp; done) | (simp [*]; done)), H', ⟨by have := HK1.out; omega⟩, by repeat (first | exact Drawn0.refl _ | apply Drawn0.step)⟩
       ·rw [if_neg c7] at H
        have c7b0 : ((rd l0 x5_1) == (rd l1 x5_1)) = false := beq_eq_false_iff_ne.mpr c7
        have c7b1 : ((rd l0 x5_1) != (rd l1 x5_1)) = true := bne_iff_ne.mpr c7
        obtain rfl := Option.some.inj H
        have p698 : 0 ≤ (x5_1 : Int) := of_decide_eq_true (by first | (with_reducible assumption) | assumption)
        have q698 : x5_1 < (l0.length : Int) := of_decide_eq_true (by first | (with_reducible assumption) | assumption)
        obtain ⟨ad698, e698, hx698_0⟩ := Kd.at_int HR0.out x5_1 p698 q698
        cases e698
        replace p698 := eq_true p698
        replace q698 := eq_true q698
        have p699 : 0 ≤ (x5_1 : Int) := of_decide_eq_true (by first | (with_reducible assumption) | assumption)
        have q699 : x5_1 < (l1.length : Int) := of_decide_eq_true (by first | (with_reducible assumption) | assumption)
        obtain ⟨ad699, e699, hx699_0⟩ := Kd.at_int HR1.out x5_1 p699 q699
        cases e699
        replace p699 := eq_true p699
        replace q699 := eq_true q699
        go_wp2
        repeat (go_quiet (fail); try go_wp2)
        go_ret
        exact ⟨by first | rfl | (simp; done) | (simp [*]; done), by repeat (first | exact Drawn0.refl _ | apply Drawn0.step)⟩
      ·rw [if_neg c6] at H
       exact absurd H (by simp)
     ·rw [if_neg c5] at H
      exact absurd H (by simp)
    ·rw [if_neg c4] at H
     have c4b0 : decide (x5_1 < (l0.length : Int)) = false := decide_eq_false c4
     clear c4
     obtain rfl := Option.some.inj H
     go_wp2
     repeat (go_quiet (fail); try go_wp2)
     go_ret
     exact ⟨by first | rfl | (simp; done) | (simp [*]; done), by repeat (first | exact Drawn0.refl _ | apply Drawn0.step)⟩
 ·rw [if_neg c3] at H
  have c3b0 : ((l0.length : Int) == (l1.length : Int)) = false := beq_eq_false_iff_ne.mpr c3
  have c3b1 : ((l0.length : Int) != (l1.length : Int)) = true := bne_iff_ne.mpr c3
  have c3b2 : (l0.length == l1.length) = false := by first | simpa using c3 | (simp at c3 ⊢; omega)
  obtain rfl := Option.some.inj H
  go_enter Try.func31, Try.ntmps31
  go_wp2
  repeat (go_quiet (fail); try go_wp2)
  go_ret
  exact ⟨by first | rfl | (simp; done) | (simp [*]; done), by repeat (first | exact Drawn0.refl _ | apply Drawn0.step)⟩
end Go.Proofs.Ytnjdaoeebhbmfaa.PA
end

section
namespace Go.Proofs.Ytnjdaoeebhbmfaa.PA
open Go.RowKit Go.Proofs.YtnjdaoeebhbmfaaW.PrintWords Go.Proofs.YtnjdaoeebhbmfaaW.PrintLast Go.Proofs.YtnjdaoeebhbmfaaW.PrintMore
attribute [local go_sem] max2_int min2_int max_two min_two max_three min_three max_four min_four   -- for this text's walks alone
set_option linter.unusedVariables false
set_option linter.unusedSimpArgs false
mutual
def cutplaneref07_Sort.l0 : Nat → Int → List Int → List Int → Int → Option (List Int)
 | 0, _, _, _, _ => none
 | k + 1, x0, x1, x5, x6 => if x6 < (x1.length : Int) then (if 0 ≤ x6 then ((cutplaneref03_Canon.f k x0 (rd x1 x6)).bind fun t701 => (if x5.length < 17592186044416 then ((some (x5 ++ [t701] : List Int)).bind fun y702 => (cutplaneref07_Sort.l1 k x0 x1 y702 x6 t701 (wrap64 ((y702.length : Int) - 1)))) else (none))) else (none)) else (some x5)
def cutplaneref07_Sort.l1 : Nat → Int → List Int → List Int → Int → Int → Int → Option (List Int)
 | 0, _, _, _, _, _, _ => none
 | k + 1, x0, x1, x5, x6, x7, x8 => if x8 > 0 then (if 0 ≤ (wrap64 (x8 - 1)) then (if (wrap64 (x8 - 1)) < (x5.length : Int) then ((cutplaneref07_Total.f k x0 (rd x5 (wrap64 (x8 - 1))) x7).bind fun t706 => (if t706 > 0 then (if 0 ≤ x8 then (if x8 < (x5.length : Int) then (cutplaneref07_Sort.l1 k x0 x1 ((x5.set (x8 : Int).toNat (rd x5 (wrap64 (x8 - 1)))).set ((wrap64 (x8 - 1)) : Int).toNat x7) x6 x7 (wrap64 (x8 - 1))) else (none)) else (none)) else (cutplaneref07_Sort.l0 k x0 x1 x5 (wrap64 (x6 + 1))))) else (none)) else (none)) else (cutplaneref07_Sort.l0 k x0 x1 x5 (wrap64 (x6 + 1)))
end
def cutplaneref07_Sort.f (k : Nat) (a0 : Int) (l1 : List Int) : Option (List Int) := cutplaneref07_Sort.l0 k a0 l1 ([] : List Int) 0
theorem cutplaneref07_Sort.mono_l : ∀ k, (∀ y0 y1 y2 y3, LeO (cutplaneref07_Sort.l0 k y0 y1 y2 y3) (cutplaneref07_Sort.l0 (k + 1) y0 y1 y2 y3)) ∧ (∀ y0 y1 y2 y3 y4 y5, LeO (cutplaneref07_Sort.l1 k y0 y1 y2 y3 y4 y5) (cutplaneref07_Sort.l1 (k + 1) y0 y1 y2 y3 y4 y5))
 | 0 => ⟨fun _ _ _ _ r h => by simp [cutplaneref07_Sort.l0] at h, fun _ _ _ _ _ _ r h => by simp [cutplaneref07_Sort.l1] at h⟩
 | k + 1 => by
  obtain ⟨ih0, ih1⟩ := cutplaneref07_Sort.mono_l k
  refine ⟨?_, ?_⟩
  ·intro y0 y1 y2 y3
   unfold cutplaneref07_Sort.l0
   repeat' first
   | (with_reducible exact ih0 _ _ _ _)
   | (with_reducible exact ih1 _ _ _ _ _ _)
   | (with_reducible exact cutplaneref03_Canon.mono _ _ _)
   | (with_reducible exact cutplaneref07_Total.mono _ _ _ _)
   | (with_reducible exact LeO.refl _)
   | (with_reducible exact LeO.none _)
   | (with_reducible refine LeO.ite ?_ ?_)
   | (with_reducible refine LeO.bind ?_ (fun _ => ?_))
   | exact ih0 _ _ _ _
   | exact ih1 _ _ _ _ _ _
   | exact cutplaneref03_Canon.mono _ _ _
   | exact cutplaneref07_Total.mono _ _ _ _
   | exact LeO.none _
   | refine LeO.ite ?_ ?_
   | refine LeO.bind ?_ (fun _ => ?_)
  ·intro y0 y1 y2 y3 y4 y5
   unfold cutplaneref07_Sort.l1
   repeat' first
   | (with_reducible exact ih0 _ _ _ _)
   | (with_reducible exact ih1 _ _ _ _ _ _)
   | (with_reducible exact cutplaneref03_Canon.mono _ _ _)
   | (with_reducible exact cutplaneref07_Total.mono _ _ _ _)
   | (with_reducible exact LeO.refl _)
   | (with_reducible exact LeO.none _)
   | (with_reducible refine LeO.ite ?_ ?_)
   | (with_reducible refine LeO.bind ?_ (fun _ => ?_))
   | exact ih0 _ _ _ _
   | exact ih1 _ _ _ _ _ _
   | exact cutplaneref03_Canon.mono _ _ _
   | exact cutplaneref07_Total.mono _ _ _ _
   | exact LeO.none _
   | refine LeO.ite ?_ ?_
   | refine LeO.bind ?_ (fun _ => ?_)
set_option maxHeartbeats 2000000 in
set_option maxRecDepth 100000 in
theorem cutplaneref07_Sort.calls (k : Nat) (a0 : Int) (A1 : Option Addr) (c1 : Nat) (l1 : List Int) (r : List Int) (w : World) (hr1 : Kd.C (Kd.int .u64) w A1 l1.length l1) (hc1 : l1.length ≤ c1) (h : cutplaneref07_Sort.f k a0 l1 = some r) :
  Calls Try.prog 33 #[.int .u8 a0, .slice A1 l1.length c1] w fun e w' => ∃ v0_ : Value, e = .returned (v0_) ∧ Kd.R (Kd.int .u64) 23 w' w.heap.size (fun _ => True) v0_ r ∧ Below w.heap.size w w' := by
 have HR1 := A0_ hr1
 have HC1 := A0_ hc1
 clear hr1 hc1
 have HB := A0_ (Below.refl w.heap.size w)
 have H : (cutplaneref07_Sort.l0 k a0 l1 ([] : List Int) 0) = some r := h
 clear h
 have H' := A0_ H
 clear H
 go_enter Try.func33, Try.ntmps33
 go_wp2
 go_loopg [5, 6] k (fun kq v5 v6 w' => ∃ (x5_1 : List Int) (x6_1 : Int), v6 = .int .i64 x6_1 ∧ Aside0 (cutplaneref07_Sort.l0 kq a0 l1 x5_1 x6_1 = some r) ∧ Aside0 (kq ≤ k) ∧ Aside0 (Kd.R (Kd.int .u64) 23 w' w.heap.size (fun _ => True) v5 x5_1) ∧ Aside0 (Below w.heap.size w w'))
 case atStart => exact ⟨(([] : List Int)), (0), (by first | rfl | (simp; done) | (simp [*]; done)), H', ⟨Nat.le_refl _⟩, ⟨by first | exact Kd.R_nil _ _ _ _ _ | exact Kd.N_nil _ _ _ _ _ | exact Kd.V_nil _ _ _ _ _ | exact Kd.Q_nil _ _ _ _ _ | exact Kd.S_nil _ _ _ _ _⟩, ⟨qm_ HB.out⟩⟩
 case round =>
  clear H'
  try clear c1
  try clear p2
  obtain ⟨x5_1, x6_1, rfl, HA, HK1, HO_5, HB⟩ := hrel
  cases gk with
  | zero => exact absurd HA.out (by simp [cutplaneref07_Sort.l0])
  | succ k1 =>
   have H := HA.out
   clear HA
   simp only [cutplaneref07_Sort.l0] at H
   by_cases c3 : x6_1 < (l1.length : Int)
   ·rw [if_pos c3] at H
    have c3b0 : decide (x6_1 < (l1.length : Int)) = true := decide_eq_true c3
    clear c3
    by_cases c4 : 0 ≤ x6_1
    ·rw [if_pos c4] at H
     have c4b0 : decide (0 ≤ x6_1) = true := decide_eq_true c4
     clear c4
     replace H := Option.bind_eq_some_iff.mp H
     obtain ⟨t701, A50, H⟩ := H
     replace H : (if x5_1.length < 17592186044416 then ((some (x5_1 ++ [t701] : List Int)).bind fun y702 => (cutplaneref07_Sort.l1 k1 a0 l1 y702 x6_1 t701 (wrap64 ((y702.length : Int) - 1)))) else (none)) = some r := H
     have A5 := A0_ A50
     clear A50
     by_cases c6 : x5_1.length < 17592186044416
     ·rw [if_pos c6] at H
      have LMc6 := A0_ c6
      clear c6
      obtain ⟨y702, hy702⟩ : ∃ y_ : List Int, y_ = (x5_1 ++ [t701]) := ⟨_, rfl⟩
      replace H : (cutplaneref07_Sort.l1 k1 a0 l1 y702 x6_1 t701 (wrap64 ((y702.length : Int) - 1))) = some r := by first | (rw [hy702]; with_reducible exact H) | (have H2_ := (Option.bind_some _ _).symm.trans H; rw [hy702]; with_reducible exact H2_) | (have H2_ := (Option.bind_some _ _).symm.trans H; with_reducible exact H2_) | with_reducible exact H | (rw [hy702]; exact H) | exact H
      have Ny702 := A0_ hy702
      clear hy702
      have H' := A0_ H
      clear H
      have p700 : 0 ≤ (x6_1 : Int) := of_decide_eq_true (by first | (with_reducible assumption) | assumption)
      have q700 : x6_1 < (l1.length : Int) := of_decide_eq_true (by first | (with_reducible assumption) | assumption)
      obtain ⟨ad700, e700, hx700_0⟩ := Kd.at_int HR1.out x6_1 p700 q700
      cases e700
      replace hx700_0 := (HB.out.cell (World.block_lt_of_cell? w _ hx700_0)).trans hx700_0
      replace p700 := eq_true p700
      replace q700 := eq_true q700
      go_wp2_with (first | ((with_reducible refine gate_callee (f := 17) rfl ?_); refine goesL_ (some 20) rfl rfl Try.func17 (by kernel_rfl) rfl #[.int .u8 a0, .int .u64 (rd l1 x6_1)] rfl (by (try simp only [List.map_toArray, List.map_cons, List.map_nil]); first | done | rfl | (simp only [List.length_drop, List.length_take]; rfl)) ?_; (with_reducible refine (cutplaneref03_Canon.calls k1 a0 (rd l1 x6_1) t701 _ A5.out).mono ?_); rintro e w7 ⟨rfl, hb⟩; refine ⟨_, rfl, ?_⟩; have n0_ := A0_ (Kd.R_below (by exact rm_ HO_5.out) hb); have n1_ := A0_ (below_step (qm_ HB.out) hb); clear HO_5 HB; have HO_5 := n0_; have HB := n1_; clear n0_ n1_; (try clear hb)) | ((with_reducible refine gate_builtin (b := .append) (xs := #[.tmp 21, .tmp 23]) rfl ?_); at_builtin; refine Kd.R_append (Kd.int .u64) (w0 := w) w.heap.size rfl (.tmp 21) (.tmp 23) 50 23 (.int .u64 0) 8 rfl Try.underlying50 info23 rfl (by decide) (by omega) u5 x5_1 t701 [.int .u64 t701] (fun _ => True) (fun _ => False) rfl rfl ?aP (fun _ hk => hk.elim) ?aF ?aO ?aB ?aS ?aL ?_; (case aP => exact rfl); (case aB => exact (qm_ HB.out)); (case aF => exact (fun _ _ => trivial)); (case aO => exact (by exact rm_ HO_5.out)); (case aS => exact (below_size (qm_ HB.out))); (case aL => have := LMc6.out; omega); intro v703 w8 ho hb hg hat; rw [← Ny702.out] at ho; have n0_ := A0_ (hb); have n1_ := A0_ (ho); clear HB HO_5; have HB := n0_; have HO704 := n1_; clear n0_ n1_ ho hb hg hat; obtain ⟨Ao9, co9, eo9⟩ := Kd.R_slice HO704.out; subst eo9))
      go_loopg [8] k1 (fun kq v8 w' => ∃ (x5_2 : List Int) (x8_2 : Int), v8 = .int .i64 x8_2 ∧ Aside0 (cutplaneref07_Sort.l1 kq a0 l1 x5_2 x6_1 t701 x8_2 = some r) ∧ Aside0 (kq ≤ k1) ∧ Aside0 (Kd.R (Kd.int .u64) 23 w' w.heap.size (fun _ => True) (.slice Ao9 y702.length co9) x5_2) ∧ Aside0 (Below w.heap.size w w'))
      case atStart => exact ⟨(y702), (wrap64 ((y702.length : Int) - 1)), (by first | rfl | (simp; done) | (simp [*]; done)), H', ⟨Nat.le_refl _⟩, ⟨by exact rm_ HO704.out⟩, ⟨qm_ HB.out⟩⟩
      case round =>
       clear H'
       try clear c1
       try clear p2
       try clear c3
       try clear c3b0
       try clear c4
       try clear c4b0
       try clear c6
       try clear p6
       try clear p7
       try clear q7
       try clear hx7
       try clear hx700_0
       try clear p2
       try clear p700
       try clear q700
       obtain ⟨x5_2, x8_2, rfl, HA, HK2, HO_5, HB⟩ := hrel
       have hl5_2 := (Kd.R_reads' HO_5.out).1
       rw [hl5_2] at HO_5
       (try simp only [hl5_2])
       cases gk with
       | zero => exact absurd HA.out (by simp [cutplaneref07_Sort.l1])
       | succ k2 =>
        have H := HA.out
        clear HA
        simp only [cutplaneref07_Sort.l1] at H
        by_cases c10 : x8_2 > 0
        ·rw [if_pos c10] at H
         have c10b0 : decide (0 < x8_2) = true := decide_eq_true c10
         clear c10
         obtain ⟨ji11, hji11⟩ : ∃ j_ : Int, (wrap64 (x8_2 - 1)) = j_ := ⟨_, rfl⟩
         replace H : (if 0 ≤ (ji11) then (if (ji11) < (x5_2.length : Int) then ((cutplaneref07_Total.f k2 a0 (rd x5_2 (ji11)) t701).bind fun t706 => (if t706 > 0 then (if 0 ≤ x8_2 then (if x8_2 < (x5_2.length : Int) then (cutplaneref07_Sort.l1 k2 a0 l1 ((x5_2.set (x8_2 : Int).toNat (rd x5_2 (ji11))).set ((ji11) : Int).toNat t701) x6_1 t701 ji11) else (none)) else (none)) else (cutplaneref07_Sort.l0 k2 a0 l1 x5_2 (wrap64 (x6_1 + 1))))) else (none)) else (none)) = some r := by first | (rw [hji11] at H; exact H) | (simp only [hji11] at H ⊢; exact H)
         have hji11w : (IntKind.i64.wrap (x8_2 - 1)) = ji11 := (i64_w _).trans hji11
         by_cases c12 : 0 ≤ (ji11)
         ·rw [if_pos c12] at H
          have c12b0 : decide (0 ≤ (ji11)) = true := decide_eq_true c12
          clear c12
          by_cases c13 : (ji11) < (x5_2.length : Int)
          ·rw [if_pos c13] at H
           have c13b0 : decide ((ji11) < (x5_2.length : Int)) = true := decide_eq_true c13
           clear c13
           replace H := Option.bind_eq_some_iff.mp H
           obtain ⟨t706, A140, H⟩ := H
           replace H : (if t706 > 0 then (if 0 ≤ x8_2 then (if x8_2 < (x5_2.length : Int) then (cutplaneref07_Sort.l1 k2 a0 l1 ((x5_2.set (x8_2 : Int).toNat (rd x5_2 (ji11))).set ((ji11) : Int).toNat t701) x6_1 t701 ji11) else (none)) else (none)) else (cutplaneref07_Sort.l0 k2 a0 l1 x5_2 (wrap64 (x6_1 + 1)))) = some r := H
           have A14 := A0_ A140
           clear A140
           by_cases c15 : t706 > 0
           ·rw [if_pos c15] at H
            have c15b0 : decide (0 < t706) = true := decide_eq_true c15
            clear c15
            by_cases c16 : 0 ≤ x8_2
            ·rw [if_pos c16] at H
             have c16b0 : decide (0 ≤ x8_2) = true := decide_eq_true c16
             clear c16
             by_cases c17 : x8_2 < (x5_2.length : Int)
             ·rw [if_pos c17] at H
              have c17b0 : decide (x8_2 < (x5_2.length : Int)) = true := decide_eq_true c17
              clear c17
              obtain ⟨y708, hy708⟩ : ∃ y_ : List Int, y_ = (x5_2.set (x8_2 : Int).toNat (rd x5_2 (ji11))) := ⟨_, rfl⟩
              replace H : (cutplaneref07_Sort.l1 k2 a0 l1 (y708.set ((ji11) : Int).toNat t701) x6_1 t701 ji11) = some r := by first | (rw [hy708]; with_reducible exact H) | (have H2_ := (Option.bind_some _ _).symm.trans H; rw [hy708]; with_reducible exact H2_) | (have H2_ := (Option.bind_some _ _).symm.trans H; with_reducible exact H2_) | with_reducible exact H | (rw [hy708]; exact H) | exact H
              have Ny708 := A0_ hy708
              clear hy708
              obtain ⟨y709, hy709⟩ : ∃ y_ : List Int, y_ = (y708.set ((ji11) : Int).toNat t701) := ⟨_, rfl⟩
              replace H : (cutplaneref07_Sort.l1 k2 a0 l1 y709 x6_1 t701 ji11) = some r := by first | (rw [hy709]; with_reducible exact H) | (have H2_ := (Option.bind_some _ _).symm.trans H; rw [hy709]; with_reducible exact H2_) | (have H2_ := (Option.bind_some _ _).symm.trans H; with_reducible exact H2_) | with_reducible exact H | (rw [hy709]; exact H) | exact H
              have Ny709 := A0_ hy709
              clear hy709
              have H' := A0_ H
              clear H
              have p705 : 0 ≤ ((ji11) : Int) := of_decide_eq_true (by first | (with_reducible assumption) | assumption)
              have q705 : (ji11) < (x5_2.length : Int) := of_decide_eq_true (by first | (with_reducible assumption) | assumption)
              obtain ⟨ad705, e705, hx705_0⟩ := Kd.at_int (Kd.R_reads' HO_5.out).2.2 (ji11) p705 q705
              cases e705
              replace p705 := eq_true p705
              replace q705 := eq_true q705
              go_wp2_with (first | (go_at_call 16; (with_reducible refine (cutplaneref07_Total.calls k2 a0 (rd x5_2 (ji11)) t701 t706 _ A14.out).mono ?_); rintro e w20 ⟨rfl, hb⟩; have n0_ := A0_ (Kd.R_below (by exact rm_ HO_5.out) hb); have n1_ := A0_ (below_step (qm_ HB.out) hb); clear HO_5 HB; have HO_5 := n0_; have HB := n1_; clear n0_ n1_; (try clear hb); have p707 : 0 ≤ ((ji11) : Int) := of_decide_eq_true (by first | (with_reducible assumption) | assumption); have q707 : (ji11) < (x5_2.length : Int) := of_decide_eq_true (by first | (with_reducible assumption) | assumption); obtain ⟨ad707, e707, hx707_0⟩ := Kd.at_int (Kd.R_reads' HO_5.out).2.2 (ji11) p707 q707; obtain rfl : ad705 = ad707 := (by injection e707); replace p707 := eq_true p707; replace q707 := eq_true q707; have p18 : 0 ≤ (x8_2 : Int) := of_decide_eq_true (by first | (with_reducible assumption) | assumption); have q18 : (x8_2 : Int) < ((x5_2.length : Int) : Int) := of_decide_eq_true (by first | (with_reducible assumption) | assumption); obtain ⟨go18, co18, eo18, gb18, gl18, cl18, HG18⟩ := Kd.R_form HO_5.out (by omega); (first | cases eo18 | (injection eo18 with ea_ en_ ec_; (first | subst ea_ | (injection ea_ with ea_; subst ea_)); subst ec_; clear en_)); have GB18 := A0_ gb18; have GG18 := A0_ HG18; clear gb18 gl18 HG18; (first | simp only [add_plain] at hx705_0 | skip); (first | simp only [add_plain] at hx707_0 | skip); obtain ⟨hx18_0, hf18_0⟩ := Kd.R_celln 0 HO_5.out (x8_2 : Int) p18 q18; replace p18 := eq_true p18; replace q18 := eq_true q18; obtain ⟨hy21_, hz21_⟩ := Kd.R_celln 0 HO_5.out (x8_2 : Int) (of_decide_eq_true (by first | (with_reducible assumption) | assumption)) (of_decide_eq_true (by first | (with_reducible assumption) | assumption)); have HP21 := Kd.R_putg HO_5.out (x8_2 : Int) (rd x5_2 (ji11))) | ((with_reducible refine gate_store (t := 23) (p := 50) rfl ?_); refine store_event (t := 23) (p := 50) (v := ?vo_w22) (w1 := (w20.setCell ⟨go18, (x8_2 : Int).toNat, none⟩ (.int .u64 (rd x5_2 (ji11))))) ?hg ?ho ?hn ?hr ?_; (case ho => rfl); (case hg => rfl); (case hn => rfl); (case hr => first | (go_simp; done) | (go_simp; rfl)); intro w22 hw; have hg : w20.grownBy w22 (some go18) := (by rw [hw]; exact HP21.2); have hp_ : Kd.R (Kd.int .u64) 23 w22 w.heap.size (fun _ => True) (.slice (some ⟨go18, 0, none⟩) x5_2.length co9) y708 := (by rw [hw, Ny708.out]; exact HP21.1); clear HP21; have n0_ := A0_ (hp_); have n1_ := A0_ ((by rw [hw]; exact below_set (HB.out) GB18.out : Below w.heap.size w w22)); clear HO_5 HB; have HO_5 := n0_; have HB := n1_; clear n0_ n1_ hg hw hp_; have p19 : 0 ≤ ((ji11) : Int) := of_decide_eq_true (by first | (with_reducible assumption) | assumption); have q19 : ((ji11) : Int) < ((x5_2.length : Int) : Int) := of_decide_eq_true (by first | (with_reducible assumption) | assumption); obtain ⟨hx19_0, hf19_0⟩ := Kd.R_celln 0 HO_5.out ((ji11) : Int) p19 q19; replace p19 := eq_true p19; replace q19 := eq_true q19; obtain ⟨hy23_, hz23_⟩ := Kd.R_celln 0 HO_5.out ((ji11) : Int) (of_decide_eq_true (by first | (with_reducible assumption) | assumption)) (of_decide_eq_true (by first | (with_reducible assumption) | assumption)); have HP23 := Kd.R_putg HO_5.out ((ji11) : Int) t701) | ((with_reducible refine gate_store (t := 23) (p := 55) rfl ?_); refine store_event (t := 23) (p := 55) (v := ?vo_w24) (w1 := (w22.setCell ⟨go18, ((ji11) : Int).toNat, none⟩ (.int .u64 t701))) ?hg ?ho ?hn ?hr ?_; (case ho => rfl); (case hg => rfl); (case hn => rfl); (case hr => first | (go_simp; done) | (go_simp; rfl)); intro w24 hw; have hg : w22.grownBy w24 (some go18) := (by rw [hw]; exact HP23.2); have hp_ : Kd.R (Kd.int .u64) 23 w24 w.heap.size (fun _ => True) (.slice (some ⟨go18, 0, none⟩) x5_2.length co9) y709 := (by rw [hw, Ny709.out]; exact HP23.1); clear HP23; have n0_ := A0_ (hp_); have n1_ := A0_ ((by rw [hw]; exact below_set (HB.out) GB18.out : Below w.heap.size w w24)); clear HO_5 HB; have HO_5 := n0_; have HB := n1_; clear n0_ n1_ hg hw hp_))
              (try simp only [← hl5_2])
              first | go_roundg k2 | ((try subst hji11); go_roundg k2)
              case measure => have := HK1.out; have := HK2.out; omega
              case rel => exact ⟨(y709), (ji11), (by first | rfl | (simp; done) | (simp only [← hji11] <;> (first | rfl | simp)) | (simp [*]; done)), H', ⟨by have := HK1.out; have := HK2.out; omega⟩, ⟨by (try simp only [hl5_2]); exact rm_ HO_5.out⟩, ⟨qm_ HB.out⟩⟩
             ·rw [if_neg c17] at H
              exact absurd H (by simp)
            ·rw [if_neg c16] at H
             exact absurd H (by simp)
           ·rw [if_neg c15] at H
            have c15b0 : decide (0 < t706) = false := decide_eq_false c15
            clear c15
            have H' := A0_ H
            clear H
            have p705 : 0 ≤ ((ji11) : Int) := of_decide_eq_true (by first | (with_reducible assumption) | assumption)
            have q705 : (ji11) < (x5_2.length : Int) := of_decide_eq_true (by first | (with_reducible assumption) | assumption)
            obtain ⟨ad705, e705, hx705_0⟩ := Kd.at_int (Kd.R_reads' HO_5.out).2.2 (ji11) p705 q705
            cases e705
            replace p705 := eq_true p705
            replace q705 := eq_true q705
            go_wp2_with (first | (go_at_call 16; (with_reducible refine (cutplaneref07_Total.calls k2 a0 (rd x5_2 (ji11)) t701 t706 _ A14.out).mono ?_); rintro e w25 ⟨rfl, hb⟩; have n0_ := A0_ (Kd.R_below (by exact rm_ HO_5.out) hb); have n1_ := A0_ (below_step (qm_ HB.out) hb); clear HO_5 HB; have HO_5 := n0_; have HB := n1_; clear n0_ n1_; (try clear hb)))
            (try simp only [← hl5_2])
            first | go_roundg k2 | ((try subst hji11); go_roundg k2)
            case measure => have := HK1.out; have := HK2.out; omega
            case rel => exact ⟨(x5_2), (wrap64 (x6_1 + 1)), (by first | rfl | (simp; done) | (simp [*]; done)), H', ⟨by have := HK1.out; have := HK2.out; omega⟩, ⟨by (try simp only [hl5_2]); exact rm_ HO_5.out⟩, ⟨qm_ HB.out⟩⟩
          ·rw [if_neg c13] at H
           exact absurd H (by simp)
         ·rw [if_neg c12] at H
          exact absurd H (by simp)
        ·rw [if_neg c10] at H
         have c10b0 : decide (0 < x8_2) = false := decide_eq_false c10
         clear c10
         have H' := A0_ H
         clear H
         go_wp2
         (try simp only [← hl5_2])
         first | go_roundg k2 | ((try subst hji11); go_roundg k2)
         case measure => have := HK1.out; have := HK2.out; omega
         case rel => exact ⟨(x5_2), (wrap64 (x6_1 + 1)), (by first | rfl | (simp; done) | (simp [*]; done)), H', ⟨by have := HK1.out; have := HK2.out; omega⟩, ⟨by (try simp only [hl5_2]); exact rm_ HO_5.out⟩, ⟨qm_ HB.out⟩⟩
     ·rw [if_neg c6] at H
      exact absurd H (by simp)
    ·rw [if_neg c4] at H
     exact absurd H (by simp)
   ·rw [if_neg c3] at H
    have c3b0 : decide (x6_1 < (l1.length : Int)) = false := decide_eq_false c3
    clear c3
    obtain rfl := Option.some.inj H
    go_wp2
    go_ret
    exact ⟨_, by first | rfl | (simp [errW_none, errW_some] <;> rfl) | (simp [*, errW_none, errW_some] <;> rfl), by (with_reducible repeat (first | apply Kd.R_alloc | apply Kd.R_drewN | apply Kd.R_drew)); exact HO_5.out, qm_ HB.out⟩
end Go.Proofs.Ytnjdaoeebhbmfaa.PA
end
