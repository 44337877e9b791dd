/- Steps of Go functions that the law SpecialProducts uses, told as plain Lean functions, each with the proof that its call comes to what it tells; words on memory; plain facts. No condition beyond those that each text names. -/
import Derived.Test.YtlgapmhjaaajfaaProg
import Derived.WalkMore
import Derived.Test.YtlgapmhjaaajfaaSSpecialProducts0
import Derived.Test.YtlgapmhjaaajfaaSSpecialProducts1
import Derived.Test.YtlgapmhjaaajfaaSSpecialProducts5
import Derived.Test.YtlgapmhjaaajfaaSSpecialProducts6
import Derived.Test.YtlgapmhjaaajfaaSSpecialProducts7
set_option maxHeartbeats 2000000
set_option maxRecDepth 100000
section
namespace Go.Proofs.Ytlgapmhjaaajfaa.PA
open Go.RowKit Go.Proofs.YtlgapmhjaaajfaaW.PrintWords Go.Proofs.YtlgapmhjaaajfaaW.PrintLast Go.Proofs.YtlgapmhjaaajfaaW.PrintMore
attribute [local go_sem] max2_int min2_int max_two min_two max_three min_three max_four min_four   -- for this text's walks alone
set_option linter.unusedVariables false
set_option linter.unusedSimpArgs false
def cutplaneref01_Down.l0 : Nat → List Int → Bool → List Int → Int → Int → Option (List Int × Bool)
 | 0, _, _, _, _, _ => none
 | k + 1, x0, x6, x7, x8, x9 => if x9 < (x0.length : Int) then (if 0 ≤ x9 then (if 0 ≤ x8 then (if (wrap64 (x9 + 1)) < (x0.length : Int) then (if 0 ≤ (wrap64 (x9 + 1)) then (if 0 ≤ (wrap64 (32 - x8)) then (if x7.length < 35184372088832 then (cutplaneref01_Down.l0 k x0 x6 (x7 ++ [(Go.bits .or .u64 (shr .u64 (IntKind.u64.wrap (rd x0 x9)) x8) (shl .u64 (IntKind.u64.wrap (rd x0 (wrap64 (x9 + 1)))) (wrap64 (32 - x8)))) % 4294967296]) x8 (wrap64 (x9 + 1))) else (none)) else (none)) else (none)) else (if x7.length < 35184372088832 then (cutplaneref01_Down.l0 k x0 x6 (x7 ++ [(shr .u64 (IntKind.u64.wrap (rd x0 x9)) x8) % 4294967296]) x8 (wrap64 (x9 + 1))) else (none))) else (none)) else (none)) else ((cutplaneref01_Trim.f k x7).bind fun t400 => (some (t400, x6)))
def cutplaneref01_Down.f (k : Nat) (l0 : List Int) (a1 : Int) : Option (List Int × Bool) := (cutplaneref01_Len.f k l0).bind fun t390 => (if a1 ≥ t390 then (some (([] : List Int), decide ((l0.length : Int) > 0))) else ((cutplaneref01_Low.f k l0).bind fun t391 => (cutplaneref01_Down.l0 k l0 (decide (a1 > t391)) ([] : List Int) (Int.tmod a1 32) (wrap64 (Int.tdiv a1 32)))))
theorem cutplaneref01_Down.mono_l : ∀ k, (∀ y0 y1 y2 y3 y4, LeO (cutplaneref01_Down.l0 k y0 y1 y2 y3 y4) (cutplaneref01_Down.l0 (k + 1) y0 y1 y2 y3 y4))
 | 0 => fun _ _ _ _ _ r h => by simp [cutplaneref01_Down.l0] at h
 | k + 1 => by
  have ih0 := cutplaneref01_Down.mono_l k
  ·intro y0 y1 y2 y3 y4
   unfold cutplaneref01_Down.l0
   repeat' first
   | (with_reducible exact ih0 _ _ _ _ _)
   | (with_reducible exact cutplaneref01_Len.mono _ _)
   | (with_reducible exact cutplaneref01_Low.mono _ _)
   | (with_reducible exact cutplaneref01_Trim.mono _ _)
   | (with_reducible exact LeO.refl _)
   | (with_reducible exact LeO.none _)
   | (with_reducible refine LeO.ite ?_ ?_)
   | (with_reducible refine LeO.bind ?_ (fun _ => ?_))
   | exact ih0 _ _ _ _ _
   | exact cutplaneref01_Len.mono _ _
   | exact cutplaneref01_Low.mono _ _
   | exact cutplaneref01_Trim.mono _ _
   | exact LeO.none _
   | refine LeO.ite ?_ ?_
   | refine LeO.bind ?_ (fun _ => ?_)
theorem cutplaneref01_Down.mono : ∀ a0 a1 k, LeO (cutplaneref01_Down.f k a0 a1) (cutplaneref01_Down.f (k + 1) a0 a1) := by
 intro a0 a1 k
 have ih0 := cutplaneref01_Down.mono_l k
 unfold cutplaneref01_Down.f
 repeat' first
   | (with_reducible exact ih0 _ _ _ _ _)
   | (with_reducible exact cutplaneref01_Len.mono _ _)
   | (with_reducible exact cutplaneref01_Low.mono _ _)
   | (with_reducible exact cutplaneref01_Trim.mono _ _)
   | (with_reducible exact LeO.refl _)
   | (with_reducible exact LeO.none _)
   | (with_reducible refine LeO.ite ?_ ?_)
   | (with_reducible refine LeO.bind ?_ (fun _ => ?_))
   | exact ih0 _ _ _ _ _
   | exact cutplaneref01_Len.mono _ _
   | exact cutplaneref01_Low.mono _ _
   | exact cutplaneref01_Trim.mono _ _
   | exact LeO.none _
   | refine LeO.ite ?_ ?_
   | refine LeO.bind ?_ (fun _ => ?_)
theorem cutplaneref01_Down.calls (k : Nat) (A0 : Option Addr) (c0 : Nat) (l0 : List Int) (a1 : Int) (r1 : List Int) (r2 : Bool) (w : World) (hr0 : Kd.C (Kd.int .u32) w A0 l0.length l0) (hc0 : l0.length ≤ c0) (h : cutplaneref01_Down.f k l0 a1 = some (r1, r2)) :
  Calls Try.prog 109 #[.slice A0 l0.length c0, .int .i64 a1] w fun e w' => ∃ v0_ : Value, e = .returned (.tuple #[v0_, .bool r2]) ∧ Kd.V (Kd.int .u32) 66 w' w.heap.size (fun k_ => (w.heap.size ≤ k_)) v0_ r1 ∧ Below w.heap.size w w' := by
 have HR0 := A0_ hr0
 have HC0 := A0_ hc0
 clear hr0 hc0
 have HB := A0_ (Below.refl w.heap.size w)
 have H := h
 clear h
 unfold cutplaneref01_Down.f at H
 obtain ⟨t390, A3, H⟩ := bs_ H
 try dsimp -simprocs only at H
 by_cases c4 : a1 ≥ t390
 ·rw [if_pos c4] at H
  have c4b0 : decide (t390 ≤ a1) = true := decide_eq_true c4
  clear c4
  simp only [Option.some.injEq, Prod.mk.injEq] at H
  obtain ⟨rfl, rfl⟩ := H
  go_enter Try.func109, Try.ntmps109
  go_wp2_with (first | ((with_reducible refine gate_callee (f := 100) rfl ?_); refine goesL_ (some 13) rfl rfl Try.func100 (by kernel_rfl) rfl #[.slice A0 l0.length c0] rfl (am_ rfl) ?_; (with_reducible refine (cutplaneref01_Len.calls k _ _ l0 t390 _ ?side1 ?side2 A3.out).mono ?_); (case side1 => repeat (first | exact HR0.out | (with_reducible refine Kd.C_alloc ?_ _) | (with_reducible refine Kd.C_drewN ?_ _) | (with_reducible refine Kd.C_drew ?_))); (case side2 => exact HC0.out); rintro e w' ⟨rfl, ⟨nd, rfl⟩⟩; refine ⟨_, rfl, ?_⟩))
  go_ret2
  exact ⟨_, by first | rfl | (simp [errW_none, errW_some] <;> rfl) | (simp [*, errW_none, errW_some] <;> rfl), (Kd.V_nil _ _ _ _ _), qm_ HB.out⟩
 ·rw [if_neg c4] at H
  have c4b0 : decide (t390 ≤ a1) = false := decide_eq_false c4
  clear c4
  obtain ⟨t391, A5, H⟩ := bs_ H
  try dsimp -simprocs only at H
  have H' := A0_ H
  clear H
  go_enter Try.func109, Try.ntmps109
  go_wp2_with (first | ((with_reducible refine gate_callee (f := 100) rfl ?_); refine goesL_ (some 13) rfl rfl Try.func100 (by kernel_rfl) rfl #[.slice A0 l0.length c0] rfl (am_ rfl) ?_; (with_reducible refine (cutplaneref01_Len.calls k _ _ l0 t390 _ ?side1 ?side2 A3.out).mono ?_); (case side1 => repeat (first | exact HR0.out | (with_reducible refine Kd.C_alloc ?_ _) | (with_reducible refine Kd.C_drewN ?_ _) | (with_reducible refine Kd.C_drew ?_))); (case side2 => exact HC0.out); rintro e w' ⟨rfl, ⟨nd, rfl⟩⟩; refine ⟨_, rfl, ?_⟩) | ((with_reducible refine gate_callee (f := 108) rfl ?_); refine goesL_ (some 20) rfl rfl Try.func108 (by kernel_rfl) rfl #[.slice A0 l0.length c0] rfl (am_ rfl) ?_; (with_reducible refine (cutplaneref01_Low.calls k _ _ l0 t391 _ ?side1 ?side2 A5.out).mono ?_); (case side1 => repeat (first | exact HR0.out | (with_reducible refine Kd.C_alloc ?_ _) | (with_reducible refine Kd.C_drewN ?_ _) | (with_reducible refine Kd.C_drew ?_))); (case side2 => exact HC0.out); rintro e w' ⟨rfl, ⟨nd, rfl⟩⟩; refine ⟨_, rfl, ?_⟩))
  go_loopg [7, 9] k (fun kq v7 v9 w' => ∃ (x7_1 : List Int) (x9_1 : Int), v9 = .int .i64 x9_1 ∧ Aside0 (cutplaneref01_Down.l0 kq l0 (decide (a1 > t391)) x7_1 (Int.tmod a1 32) x9_1 = some (r1, r2)) ∧ Aside0 (kq ≤ k) ∧ Aside0 (Kd.R (Kd.int .u32) 66 w' w.heap.size (fun k_ => (w.heap.size ≤ k_)) v7 x7_1) ∧ Aside0 (Below w.heap.size w w'))
  case atStart => exact ⟨(([] : List Int)), (wrap64 (Int.tdiv a1 32)), (by first | rfl | (simp; done) | (simp [*]; done)), H', ⟨Nat.le_refl _⟩, ⟨by first | exact Kd.R_nil _ _ _ _ _ | exact Kd.N_nil _ _ _ _ _ | exact Kd.V_nil _ _ _ _ _ | exact Kd.Q_nil _ _ _ _ _ | exact Kd.S_nil _ _ _ _ _⟩, ⟨qm_ HB.out⟩⟩
  case round =>
   clear H'
   try clear c1
   try clear p2
   try clear c4
   try clear c4b0
   obtain ⟨x7_1, x9_1, rfl, HA, HK1, HO_7, HB⟩ := hrel
   cases gk with
   | zero => exact absurd HA.out (by simp [cutplaneref01_Down.l0])
   | succ k1 =>
    have H := HA.out
    clear HA
    simp only [cutplaneref01_Down.l0] at H
    by_cases c6 : x9_1 < (l0.length : Int)
    ·rw [if_pos c6] at H
     have c6b0 : decide (x9_1 < (l0.length : Int)) = true := decide_eq_true c6
     clear c6
     obtain ⟨c7, H⟩ := ic_ H
     have c7b0 : decide (0 ≤ x9_1) = true := decide_eq_true c7
     clear c7
     obtain ⟨ji8, hji8⟩ : ∃ j_ : Int, (Int.tmod a1 32) = j_ := ⟨_, rfl⟩
     replace H : (if 0 ≤ (ji8) then (if (wrap64 (x9_1 + 1)) < (l0.length : Int) then (if 0 ≤ (wrap64 (x9_1 + 1)) then (if 0 ≤ (wrap64 (32 - (ji8))) then (if x7_1.length < 35184372088832 then (cutplaneref01_Down.l0 k1 l0 (decide (a1 > t391)) (x7_1 ++ [(Go.bits .or .u64 (shr .u64 (IntKind.u64.wrap (rd l0 x9_1)) (ji8)) (shl .u64 (IntKind.u64.wrap (rd l0 (wrap64 (x9_1 + 1)))) (wrap64 (32 - (ji8))))) % 4294967296]) (ji8) (wrap64 (x9_1 + 1))) else (none)) else (none)) else (none)) else (if x7_1.length < 35184372088832 then (cutplaneref01_Down.l0 k1 l0 (decide (a1 > t391)) (x7_1 ++ [(shr .u64 (IntKind.u64.wrap (rd l0 x9_1)) (ji8)) % 4294967296]) (ji8) (wrap64 (x9_1 + 1))) else (none))) else (none)) = some (r1, r2) := by first | (rw [hji8] at H; exact H) | (simp only [hji8] at H ⊢; exact H)
     obtain ⟨c9, H⟩ := ic_ H
     have c9b0 := eq_true c9
     have c9b1 : decide (0 ≤ (ji8)) = true := decide_eq_true c9
     clear c9
     obtain ⟨ji10, hji10⟩ : ∃ j_ : Int, (shr .u64 (IntKind.u64.wrap (rd l0 x9_1)) (ji8)) = j_ := ⟨_, rfl⟩
     replace H : (if (wrap64 (x9_1 + 1)) < (l0.length : Int) then (if 0 ≤ (wrap64 (x9_1 + 1)) then (if 0 ≤ (wrap64 (32 - (ji8))) then (if x7_1.length < 35184372088832 then (cutplaneref01_Down.l0 k1 l0 (decide (a1 > t391)) (x7_1 ++ [(Go.bits .or .u64 (ji10) (shl .u64 (IntKind.u64.wrap (rd l0 (wrap64 (x9_1 + 1)))) (wrap64 (32 - (ji8))))) % 4294967296]) (ji8) (wrap64 (x9_1 + 1))) else (none)) else (none)) else (none)) else (if x7_1.length < 35184372088832 then (cutplaneref01_Down.l0 k1 l0 (decide (a1 > t391)) (x7_1 ++ [(ji10) % 4294967296]) (ji8) (wrap64 (x9_1 + 1))) else (none))) = some (r1, r2) := by first | (rw [hji10] at H; exact H) | (simp only [hji10] at H ⊢; exact H)
     have hji10_ : ((IntKind.u64.wrap (rd l0 x9_1)) / 2 ^ min (ji8).toNat 64) = ji10 := hji10
     have hji10z : (ji8) ≤ 64 → ((IntKind.u64.wrap (rd l0 x9_1)) / 2 ^ (ji8).toNat) = ji10 := shr_small hji10
     by_cases c11 : (wrap64 (x9_1 + 1)) < (l0.length : Int)
     ·rw [if_pos c11] at H
      have c11b0 : decide ((wrap64 (x9_1 + 1)) < (l0.length : Int)) = true := decide_eq_true c11
      clear c11
      obtain ⟨ji12, hji12⟩ : ∃ j_ : Int, (wrap64 (x9_1 + 1)) = j_ := ⟨_, rfl⟩
      replace H : (if 0 ≤ (ji12) then (if 0 ≤ (wrap64 (32 - (ji8))) then (if x7_1.length < 35184372088832 then (cutplaneref01_Down.l0 k1 l0 (decide (a1 > t391)) (x7_1 ++ [(Go.bits .or .u64 (ji10) (shl .u64 (IntKind.u64.wrap (rd l0 (ji12))) (wrap64 (32 - (ji8))))) % 4294967296]) (ji8) ji12) else (none)) else (none)) else (none)) = some (r1, r2) := by first | (rw [hji12] at H; exact H) | (simp only [hji12] at H ⊢; exact H)
      (try rw [hji12] at c11b0)
      have hji12w : (IntKind.i64.wrap (x9_1 + 1)) = ji12 := (i64_w _).trans hji12
      obtain ⟨c13, H⟩ := ic_ H
      have c13b0 : decide (0 ≤ (ji12)) = true := decide_eq_true c13
      clear c13
      obtain ⟨ji14, hji14⟩ : ∃ j_ : Int, (wrap64 (32 - (ji8))) = j_ := ⟨_, rfl⟩
      replace H : (if 0 ≤ (ji14) then (if x7_1.length < 35184372088832 then (cutplaneref01_Down.l0 k1 l0 (decide (a1 > t391)) (x7_1 ++ [(Go.bits .or .u64 (ji10) (shl .u64 (IntKind.u64.wrap (rd l0 (ji12))) (ji14))) % 4294967296]) (ji8) ji12) else (none)) else (none)) = some (r1, r2) := by first | (rw [hji14] at H; exact H) | (simp only [hji14] at H ⊢; exact H)
      have hji14w : (IntKind.i64.wrap (32 - (ji8))) = ji14 := (i64_w _).trans hji14
      obtain ⟨c15, H⟩ := ic_ H
      have c15b0 := eq_true c15
      have c15b1 : decide (0 ≤ (ji14)) = true := decide_eq_true c15
      clear c15
      obtain ⟨ji16, hji16⟩ : ∃ j_ : Int, (shl .u64 (IntKind.u64.wrap (rd l0 (ji12))) (ji14)) = j_ := ⟨_, rfl⟩
      replace H : (if x7_1.length < 35184372088832 then (cutplaneref01_Down.l0 k1 l0 (decide (a1 > t391)) (x7_1 ++ [(Go.bits .or .u64 (ji10) (ji16)) % 4294967296]) (ji8) ji12) else (none)) = some (r1, r2) := by first | (rw [hji16] at H; exact H) | (simp only [hji16] at H ⊢; exact H)
      have hji16_ : (IntKind.u64.wrap ((IntKind.u64.wrap (rd l0 (ji12))) * 2 ^ min (ji14).toNat 64)) = ji16 := hji16
      have hji16z : (ji14) ≤ 64 → (IntKind.u64.wrap ((IntKind.u64.wrap (rd l0 (ji12))) * 2 ^ (ji14).toNat)) = ji16 := shl_small hji16
      obtain ⟨c17, H⟩ := ic_ H
      have LMc17 := A0_ c17
      clear c17
      obtain ⟨y394, hy394⟩ : ∃ y_ : List Int, y_ = (x7_1 ++ [(Go.bits .or .u64 (ji10) (ji16)) % 4294967296]) := ⟨_, rfl⟩
      replace H : (cutplaneref01_Down.l0 k1 l0 (decide (a1 > t391)) y394 (ji8) ji12) = some (r1, r2) := by first | (rw [hy394]; with_reducible exact H) | (have H2_ := (Option.bind_some _ _).symm.trans H; rw [hy394]; with_reducible exact H2_) | (have H2_ := (Option.bind_some _ _).symm.trans H; with_reducible exact H2_) | with_reducible exact H | (rw [hy394]; exact H) | exact H
      have Ny394 := A0_ hy394
      clear hy394
      have H' := A0_ H
      clear H
      have p392 : 0 ≤ (x9_1 : Int) := of_decide_eq_true (by first | (with_reducible assumption) | assumption)
      have q392 : x9_1 < (l0.length : Int) := of_decide_eq_true (by first | (with_reducible assumption) | assumption)
      obtain ⟨ad392, e392, hx392_0⟩ := Kd.at_int HR0.out x9_1 p392 q392
      cases e392
      replace hx392_0 := (HB.out.cell (World.block_lt_of_cell? w _ hx392_0)).trans hx392_0
      replace p392 := eq_true p392
      replace q392 := eq_true q392
      have p393 : 0 ≤ ((ji12) : Int) := of_decide_eq_true (by first | (with_reducible assumption) | assumption)
      have q393 : (ji12) < (l0.length : Int) := of_decide_eq_true (by first | (with_reducible assumption) | assumption)
      obtain ⟨ad393, e393, hx393_0⟩ := Kd.at_int HR0.out (ji12) p393 q393
      obtain rfl : ad392 = ad393 := (by injection e393)
      replace hx393_0 := (HB.out.cell (World.block_lt_of_cell? w _ hx393_0)).trans hx393_0
      replace p393 := eq_true p393
      replace q393 := eq_true q393
      go_wp2_with (first | ((with_reducible refine gate_builtin (b := .append) (xs := #[.tmp 55, .tmp 58]) rfl ?_); at_builtin; refine Kd.R_append (Kd.int .u32) (w0 := w) w.heap.size rfl (.tmp 55) (.tmp 58) 67 66 (.int .u32 0) 4 rfl Try.underlying67 info66 rfl (by decide) (by omega) u7 x7_1 ((Go.bits .or .u64 (ji10) (ji16)) % 4294967296) [.int .u32 ((Go.bits .or .u64 (ji10) (ji16)) % 4294967296)] (fun k_ => (w.heap.size ≤ k_)) (fun _ => False) rfl rfl ?aP (fun _ hk => hk.elim) ?aF ?aO ?aB ?aS ?aL ?_; (case aP => exact rfl); (case aB => exact (qm_ HB.out)); (case aF => exact (fun k_ hk => (Nat.le_trans (below_size (qm_ HB.out)) hk))); (case aO => exact (by exact rm_ HO_7.out)); (case aS => exact (below_size (qm_ HB.out))); (case aL => have := LMc17.out; omega); intro v395 w18 ho hb hg hat; rw [← Ny394.out] at ho; replace HB := A0_ (hb); have HO396 := A0_ (ho); clear HO_7 ho hb hg hat))
      first | go_roundg k1 | ((try subst hji16); (try subst hji14); (try subst hji8); go_roundg k1)
      case measure => have := HK1.out; omega
      case rel => exact ⟨(y394), (ji12), (by first | rfl | (simp; done) | (simp only [← hji12] <;> (first | rfl | simp)) | (simp [*]; done)), H', ⟨by have := HK1.out; omega⟩, ⟨by exact rm_ HO396.out⟩, ⟨qm_ HB.out⟩⟩
     ·rw [if_neg c11] at H
      have c11b0 : decide ((wrap64 (x9_1 + 1)) < (l0.length : Int)) = false := decide_eq_false c11
      clear c11
      obtain ⟨c19, H⟩ := ic_ H
      have LMc19 := A0_ c19
      clear c19
      obtain ⟨y397, hy397⟩ : ∃ y_ : List Int, y_ = (x7_1 ++ [(ji10) % 4294967296]) := ⟨_, rfl⟩
      replace H : (cutplaneref01_Down.l0 k1 l0 (decide (a1 > t391)) y397 (ji8) (wrap64 (x9_1 + 1))) = some (r1, r2) := by first | (rw [hy397]; with_reducible exact H) | (have H2_ := (Option.bind_some _ _).symm.trans H; rw [hy397]; with_reducible exact H2_) | (have H2_ := (Option.bind_some _ _).symm.trans H; with_reducible exact H2_) | with_reducible exact H | (rw [hy397]; exact H) | exact H
      have Ny397 := A0_ hy397
      clear hy397
      have H' := A0_ H
      clear H
      have p392 : 0 ≤ (x9_1 : Int) := of_decide_eq_true (by first | (with_reducible assumption) | assumption)
      have q392 : x9_1 < (l0.length : Int) := of_decide_eq_true (by first | (with_reducible assumption) | assumption)
      obtain ⟨ad392, e392, hx392_0⟩ := Kd.at_int HR0.out x9_1 p392 q392
      cases e392
      replace hx392_0 := (HB.out.cell (World.block_lt_of_cell? w _ hx392_0)).trans hx392_0
      replace p392 := eq_true p392
      replace q392 := eq_true q392
      go_wp2_with (first | ((with_reducible refine gate_builtin (b := .append) (xs := #[.tmp 55, .tmp 58]) rfl ?_); at_builtin; refine Kd.R_append (Kd.int .u32) (w0 := w) w.heap.size rfl (.tmp 55) (.tmp 58) 67 66 (.int .u32 0) 4 rfl Try.underlying67 info66 rfl (by decide) (by omega) u7 x7_1 ((ji10) % 4294967296) [.int .u32 ((ji10) % 4294967296)] (fun k_ => (w.heap.size ≤ k_)) (fun _ => False) rfl rfl ?aP (fun _ hk => hk.elim) ?aF ?aO ?aB ?aS ?aL ?_; (case aP => exact rfl); (case aB => exact (qm_ HB.out)); (case aF => exact (fun k_ hk => (Nat.le_trans (below_size (qm_ HB.out)) hk))); (case aO => exact (by exact rm_ HO_7.out)); (case aS => exact (below_size (qm_ HB.out))); (case aL => have := LMc19.out; omega); intro v398 w20 ho hb hg hat; rw [← Ny397.out] at ho; replace HB := A0_ (hb); have HO399 := A0_ (ho); clear HO_7 ho hb hg hat))
      first | go_roundg k1 | ((try subst hji16); (try subst hji14); (try subst hji8); go_roundg k1)
      case measure => have := HK1.out; omega
      case rel => exact ⟨(y397), (wrap64 (x9_1 + 1)), (by first | rfl | (simp; done) | (simp [*]; done)), H', ⟨by have := HK1.out; omega⟩, ⟨by exact rm_ HO399.out⟩, ⟨qm_ HB.out⟩⟩
    ·rw [if_neg c6] at H
     have c6b0 : decide (x9_1 < (l0.length : Int)) = false := decide_eq_false c6
     clear c6
     obtain ⟨t400, A21, H⟩ := bs_ H
     try dsimp -simprocs only at H
     simp only [Option.some.injEq, Prod.mk.injEq] at H
     obtain ⟨rfl, rfl⟩ := H
     obtain ⟨Ao22, co22, eo22⟩ := Kd.R_slice HO_7.out
     subst eo22
     go_wp2_with (first | ((with_reducible refine gate_callee (f := 110) rfl ?_); refine goesL_ (some 61) rfl rfl Try.func110 (by kernel_rfl) rfl #[.slice Ao22 x7_1.length co22] rfl (am_ rfl) ?_; (with_reducible refine (cutplaneref01_Trim.calls k1 (fun k_ => some k_ = (.slice Ao22 x7_1.length co22 : Value).ownBlock) _ _ x7_1 t400 _ ?side1 A21.out).mono ?_); (case side1 => exact Kd.R_V (Kd.R_tight rfl (HO_7.out))); rintro e w23 ⟨v401, rfl, ho0, hb⟩; refine ⟨_, rfl, ?_⟩; have HO402 := A0_ (Kd.V_lower (Kd.V_mono (ok' := fun k_ => (w.heap.size ≤ k_)) ho0 (fun k_ hk_ => Or.elim hk_ (fun hs_ => ((HO_7.out).1 k_ hs_.symm)) (fun hn_ => (Nat.le_trans (below_size (qm_ HB.out)) hn_)))) (below_size (qm_ HB.out))); replace HO_7 := A0_ (Kd.R_below (by exact rm_ HO_7.out) hb); replace HB := hs_ hb; (try clear hb); (try clear ho0)))
     go_ret2
     exact ⟨_, by first | rfl | (simp [errW_none, errW_some] <;> rfl) | (simp [*, errW_none, errW_some] <;> rfl), by (with_reducible repeat (first | apply Kd.V_alloc | apply Kd.V_drewN | apply Kd.V_drew)); exact HO402.out, qm_ HB.out⟩
def cutplaneref02_Form.f (k : Nat) (a0 : Bool) (l1 : List Int) (a2 : Int) : Option (Bool × List Int × Int) := if (l1.length : Int) = 0 then (some (false, ([] : List Int), 0)) else ((cutplaneref01_Low.f k l1).bind fun t404 => ((cutplaneref01_Down.f k l1 t404).bind fun bt405 => (some (a0, bt405.1, wrap64 (a2 + t404)))))
theorem cutplaneref02_Form.mono : ∀ a0 a1 a2 k, LeO (cutplaneref02_Form.f k a0 a1 a2) (cutplaneref02_Form.f (k + 1) a0 a1 a2) := by
 intro a0 a1 a2 k
 unfold cutplaneref02_Form.f
 repeat' first
   | (with_reducible exact cutplaneref01_Down.mono _ _ _)
   | (with_reducible exact cutplaneref01_Low.mono _ _)
   | (with_reducible exact LeO.refl _)
   | (with_reducible exact LeO.none _)
   | (with_reducible refine LeO.ite ?_ ?_)
   | (with_reducible refine LeO.bind ?_ (fun _ => ?_))
   | exact cutplaneref01_Down.mono _ _ _
   | exact cutplaneref01_Low.mono _ _
   | exact LeO.none _
   | refine LeO.ite ?_ ?_
   | refine LeO.bind ?_ (fun _ => ?_)
theorem cutplaneref02_Form.calls (k : Nat) (a0 : Bool) (A1 : Option Addr) (c1 : Nat) (l1 : List Int) (a2 : Int) (r1 : Bool) (r2 : List Int) (r3 : Int) (w : World) (hr1 : Kd.C (Kd.int .u32) w A1 l1.length l1) (hc1 : l1.length ≤ c1) (h : cutplaneref02_Form.f k a0 l1 a2 = some (r1, r2, r3)) :
  Calls Try.prog 93 #[.bool a0, .slice A1 l1.length c1, .int .i64 a2] w fun e w' => ∃ v1_ : Value, e = .returned (.agg #[.bool r1, v1_, .int .i64 r3]) ∧ Kd.V (Kd.int .u32) 66 w' w.heap.size (fun k_ => (w.heap.size ≤ k_)) v1_ r2 ∧ Below w.heap.size w w' := by
 have hu69 := Try.underlying69
 have HR1 := A0_ hr1
 have HC1 := A0_ hc1
 clear hr1 hc1
 have HB := A0_ (Below.refl w.heap.size w)
 have H := h
 clear h
 unfold cutplaneref02_Form.f at H
 by_cases c4 : (l1.length : Int) = 0
 ·rw [if_pos c4] at H
  have c4b0 : ((l1.length : Int) == 0) = true := beq_iff_eq.mpr c4
  have c4b1 : ((l1.length : Int) != 0) = false := bne_eq_false_iff_eq.mpr c4
  clear c4
  simp only [Option.some.injEq, Prod.mk.injEq] at H
  obtain ⟨rfl, rfl, rfl⟩ := H
  go_enter Try.func93, Try.ntmps93
  go_wp2_with (first | ((with_reducible refine gate_dst (N := 6) rfl ?_); refine box_event ?hg (N := 6) ?hd (cs := #[.bool false, .slice none 0 0, .int .i64 0]) (t := 69) ?hr ?_; (case hd => rfl); (case hg => rfl); (case hr => first | (go_simp; done) | (go_simp; rfl)); intro gb403 hg w5 hbox hb; have BK403 := A0_ (hbox); have GW403 := A0_ ((by rw [hg]; exact (below_size (qm_ HB.out)) : w.heap.size ≤ gb403)); have GE403 := GW403; replace HB := hs_ hb; clear hb hbox hg; have hcz6 := bc3_ BK403.out; have hfz6 := bf3_ BK403.out))
  refine bodyPost_ret (results_cell_row rfl _ _ gb403 69 #[.bool false, .slice none 0 0, .int .i64 0] (0, 0) _ rfl (by (with_reducible repeat first | apply bN_ | apply bD_ | apply bA_); refine blk_put (cs := #[.bool false, .slice none 0 0, .int .i64 0]) ?_ 2 _ rfl; refine blk_put (cs := #[.bool false, .slice none 0 0, .int .i64 0]) ?_ 1 _ rfl; refine blk_put (cs := #[.bool false, .slice none 0 0, .int .i64 0]) ?_ 0 _ rfl; exact bm_ BK403.out) Try.underlying69 rfl (by kernel_rfl)) rfl ?_
  exact ⟨_, by first | rfl | (simp [errW_none, errW_some] <;> rfl) | (simp [*, errW_none, errW_some] <;> rfl), (Kd.V_nil _ _ _ _ _), qz_⟩
 ·rw [if_neg c4] at H
  have c4b0 : ((l1.length : Int) == 0) = false := beq_eq_false_iff_ne.mpr c4
  have c4b1 : ((l1.length : Int) != 0) = true := bne_iff_ne.mpr c4
  have c4b2 : ¬ (l1 = []) := fun h_ => c4 (by rw [h_]; rfl)
  obtain ⟨t404, A7, H⟩ := bs_ H
  try dsimp -simprocs only at H
  obtain ⟨⟨t405, t408⟩, A8, H⟩ := bs_ H
  try dsimp -simprocs only at H
  simp only [Option.some.injEq, Prod.mk.injEq] at H
  obtain ⟨rfl, rfl, rfl⟩ := H
  go_enter Try.func93, Try.ntmps93
  go_wp2_with (first | ((with_reducible refine gate_dst (N := 6) rfl ?_); refine box_event ?hg (N := 6) ?hd (cs := #[.bool false, .slice none 0 0, .int .i64 0]) (t := 69) ?hr ?_; (case hd => rfl); (case hg => rfl); (case hr => first | (go_simp; done) | (go_simp; rfl)); intro gb403 hg w9 hbox hb; have BK403 := A0_ (hbox); have GW403 := A0_ ((by rw [hg]; exact (below_size (qm_ HB.out)) : w.heap.size ≤ gb403)); have GE403 := GW403; replace HB := hs_ hb; clear hb hbox hg) | ((with_reducible refine gate_callee (f := 108) rfl ?_); refine goesL_ (some 15) rfl rfl Try.func108 (by kernel_rfl) rfl #[.slice A1 l1.length c1] rfl (am_ rfl) ?_; (with_reducible refine (cutplaneref01_Low.calls k _ _ l1 t404 _ ?side1 ?side2 A7.out).mono ?_); (case side1 => repeat (first | exact (Kd.C_below HR1.out HB.out) | (with_reducible refine Kd.C_alloc ?_ _) | (with_reducible refine Kd.C_drewN ?_ _) | (with_reducible refine Kd.C_drew ?_))); (case side2 => exact HC1.out); rintro e w' ⟨rfl, ⟨nd, rfl⟩⟩; refine ⟨_, rfl, ?_⟩; (try (rw [drewN_self w9]; generalize hq_ : World.drewN w9 _ = w9; have n0_ : Aside0 (w9.heap[gb403]? = some (.cells #[.bool false, .slice none 0 0, .int .i64 0] 69 (0, 0))) := ⟨by rw [← hq_]; exact (bm_ BK403.out)⟩; have n1_ : Aside0 (Below w.heap.size w w9) := ⟨by rw [← hq_]; exact qz_⟩; clear BK403 HB hq_; have BK403 := n0_; have HB := n1_; clear n0_ n1_))) | ((with_reducible refine gate_callee (f := 109) rfl ?_); refine goesL_ (some 19) rfl rfl Try.func109 (by kernel_rfl) rfl #[.slice A1 l1.length c1, .int .i64 t404] rfl (am_ rfl) ?_; (with_reducible refine (cutplaneref01_Down.calls k _ _ l1 t404 t405 t408 _ ?side1 ?side2 A8.out).mono ?_); (case side1 => repeat (first | exact (Kd.C_below HR1.out HB.out) | (with_reducible refine Kd.C_alloc ?_ _) | (with_reducible refine Kd.C_drewN ?_ _) | (with_reducible refine Kd.C_drew ?_))); (case side2 => exact HC1.out); rintro e w10 ⟨v406, rfl, ho0, hb⟩; refine ⟨_, rfl, ?_⟩; have HO407 := A0_ (Kd.V_lower (Kd.V_mono (ok' := fun k_ => (w.heap.size ≤ k_) ∧ k_ ≠ gb403) ho0 (fun k_ hk_ => ⟨(Nat.le_trans (below_size qz_) hk_), (Kd.freshB (bm_ BK403.out) k_ hk_)⟩)) (below_size qz_)); replace BK403 := bb_ BK403 hb; replace HB := hs_ hb; (try clear hb); (try clear ho0); obtain ⟨Ao11, co11, eo11⟩ := Kd.V_slice HO407.out; subst eo11; have hcz12 := bc3_ BK403.out; have hfz12 := bf3_ BK403.out))
  refine bodyPost_ret (results_cell_row rfl _ _ gb403 69 #[.bool a0, .slice Ao11 t405.length co11, .int .i64 (wrap64 (a2 + t404))] (0, 0) _ rfl (by (with_reducible repeat first | apply bN_ | apply bD_ | apply bA_); refine blk_put (cs := #[.bool a0, .slice Ao11 t405.length co11, .int .i64 0]) ?_ 2 _ rfl; refine blk_put (cs := #[.bool a0, .slice none 0 0, .int .i64 0]) ?_ 1 _ rfl; refine blk_put (cs := #[.bool false, .slice none 0 0, .int .i64 0]) ?_ 0 _ rfl; exact bm_ BK403.out) Try.underlying69 rfl (by kernel_rfl)) rfl ?_
  exact ⟨_, by first | rfl | (simp [errW_none, errW_some] <;> rfl) | (simp [*, errW_none, errW_some] <;> rfl), by (with_reducible repeat (first | apply Kd.V_alloc | apply Kd.V_drewN | apply Kd.V_drew)); exact Kd.V_mono (Kd.V_far (p := ⟨gb403, 2, none⟩) (Kd.V_far (p := ⟨gb403, 1, none⟩) (Kd.V_far (p := ⟨gb403, 0, none⟩) (Kd.V_mono HO407.out (fun k_ hk => (⟨hk, hk.2⟩ : _ ∧ k_ ≠ gb403))) (fun _ hk => hk.2) (.bool a0)) (fun _ hk => hk.2) (.slice Ao11 t405.length co11)) (fun _ hk => hk.2) (.int .i64 (wrap64 (a2 + t404)))) (fun _ hk => hk.1.1), qz_⟩
end Go.Proofs.Ytlgapmhjaaajfaa.PA
end

section
namespace Go.Proofs.Ytlgapmhjaaajfaa.PA
open Go.RowKit Go.Proofs.YtlgapmhjaaajfaaW.PrintWords Go.Proofs.YtlgapmhjaaajfaaW.PrintLast Go.Proofs.YtlgapmhjaaajfaaW.PrintMore
attribute [local go_sem] max2_int min2_int max_two min_two max_three min_three max_four min_four   -- for this text's walks alone
set_option linter.unusedVariables false
set_option linter.unusedSimpArgs false
mutual
def cutplaneref01_Mul.j0 : Nat → List Int → List Int → Bool → Option (List Int)
 | 0, _, _, _ => none
 | k + 1, x0, x1, x19 => if x19 = true then (some ([] : List Int)) else (cutplaneref01_Mul.l0 k x0 x1 ([] : List Int) 0 0 0)
def cutplaneref01_Mul.l0 : Nat → List Int → List Int → List Int → Int → Int → Int → Option (List Int)
 | 0, _, _, _, _, _, _ => none
 | k + 1, x0, x1, x5, x6, x7, x8 => if x8 < (wrap64 ((x0.length : Int) + (x1.length : Int))) then (if x8 ≥ (x1.length : Int) then (cutplaneref01_Mul.j2 k x0 x1 x5 x6 x7 x8 (wrap64 ((wrap64 (x8 - (x1.length : Int))) + 1))) else (cutplaneref01_Mul.j2 k x0 x1 x5 x6 x7 x8 0)) else ((cutplaneref01_Trim.f k x5).bind fun t605 => (some t605))
def cutplaneref01_Mul.j2 : Nat → List Int → List Int → List Int → Int → Int → Int → Int → Option (List Int)
 | 0, _, _, _, _, _, _, _ => none
 | k + 1, x0, x1, x5, x6, x7, x8, x9 => cutplaneref01_Mul.l1 k x0 x1 x5 x6 x7 x8 x9
def cutplaneref01_Mul.l1 : Nat → List Int → List Int → List Int → Int → Int → Int → Int → Option (List Int)
 | 0, _, _, _, _, _, _, _ => none
 | k + 1, x0, x1, x5, x6, x7, x8, x10 => if x10 ≤ x8 then (cutplaneref01_Mul.j4 k x0 x1 x5 x6 x7 x8 x10 (decide (x10 < (x0.length : Int)))) else (cutplaneref01_Mul.j4 k x0 x1 x5 x6 x7 x8 x10 false)
def cutplaneref01_Mul.j4 : Nat → List Int → List Int → List Int → Int → Int → Int → Int → Bool → Option (List Int)
 | 0, _, _, _, _, _, _, _, _ => none
 | k + 1, x0, x1, x5, x6, x7, x8, x10, x47 => if x47 = true then (if 0 ≤ x10 then (if x10 < (x0.length : Int) then (if 0 ≤ (wrap64 (x8 - x10)) then (if (wrap64 (x8 - x10)) < (x1.length : Int) then (if (IntKind.u64.wrap (x6 + (IntKind.u64.wrap ((IntKind.u64.wrap (rd x0 x10)) * (IntKind.u64.wrap (rd x1 (wrap64 (x8 - x10)))))))) < (IntKind.u64.wrap ((IntKind.u64.wrap (rd x0 x10)) * (IntKind.u64.wrap (rd x1 (wrap64 (x8 - x10)))))) then (cutplaneref01_Mul.l1 k x0 x1 x5 (IntKind.u64.wrap (x6 + (IntKind.u64.wrap ((IntKind.u64.wrap (rd x0 x10)) * (IntKind.u64.wrap (rd x1 (wrap64 (x8 - x10)))))))) (IntKind.u64.wrap (x7 + 1)) x8 (wrap64 (x10 + 1))) else (cutplaneref01_Mul.l1 k x0 x1 x5 (IntKind.u64.wrap (x6 + (IntKind.u64.wrap ((IntKind.u64.wrap (rd x0 x10)) * (IntKind.u64.wrap (rd x1 (wrap64 (x8 - x10)))))))) x7 x8 (wrap64 (x10 + 1)))) else (none)) else (none)) else (none)) else (none)) else (if x5.length < 35184372088832 then (cutplaneref01_Mul.l0 k x0 x1 (x5 ++ [(x6) % 4294967296]) (Go.bits .or .u64 (x6 / 4294967296) (IntKind.u64.wrap (x7 * 4294967296))) (x7 / 4294967296) (wrap64 (x8 + 1))) else (none))
end
def cutplaneref01_Mul.f (k : Nat) (l0 : List Int) (l1 : List Int) : Option (List Int) := if (l0.length : Int) = 0 then (cutplaneref01_Mul.j0 k l0 l1 true) else (cutplaneref01_Mul.j0 k l0 l1 ((l1.length : Int) == 0))
theorem cutplaneref01_Mul.mono_l : ∀ k, (∀ y0 y1 y2, LeO (cutplaneref01_Mul.j0 k y0 y1 y2) (cutplaneref01_Mul.j0 (k + 1) y0 y1 y2)) ∧ (∀ y0 y1 y2 y3 y4 y5, LeO (cutplaneref01_Mul.l0 k y0 y1 y2 y3 y4 y5) (cutplaneref01_Mul.l0 (k + 1) y0 y1 y2 y3 y4 y5)) ∧ (∀ y0 y1 y2 y3 y4 y5 y6, LeO (cutplaneref01_Mul.j2 k y0 y1 y2 y3 y4 y5 y6) (cutplaneref01_Mul.j2 (k + 1) y0 y1 y2 y3 y4 y5 y6)) ∧ (∀ y0 y1 y2 y3 y4 y5 y6, LeO (cutplaneref01_Mul.l1 k y0 y1 y2 y3 y4 y5 y6) (cutplaneref01_Mul.l1 (k + 1) y0 y1 y2 y3 y4 y5 y6)) ∧ (∀ y0 y1 y2 y3 y4 y5 y6 y7, LeO (cutplaneref01_Mul.j4 k y0 y1 y2 y3 y4 y5 y6 y7) (cutplaneref01_Mul.j4 (k + 1) y0 y1 y2 y3 y4 y5 y6 y7))
 | 0 => ⟨fun _ _ _ r h => by simp [cutplaneref01_Mul.j0] at h, fun _ _ _ _ _ _ r h => by simp [cutplaneref01_Mul.l0] at h, fun _ _ _ _ _ _ _ r h => by simp [cutplaneref01_Mul.j2] at h, fun _ _ _ _ _ _ _ r h => by simp [cutplaneref01_Mul.l1] at h, fun _ _ _ _ _ _ _ _ r h => by simp [cutplaneref01_Mul.j4] at h⟩
 | k + 1 => by
  obtain ⟨ih0, ih1, ih2, ih3, ih4⟩ := cutplaneref01_Mul.mono_l k
  refine ⟨?_, ?_, ?_, ?_, ?_⟩
  ·intro y0 y1 y2
   unfold cutplaneref01_Mul.j0
   repeat' first
   | (with_reducible exact ih0 _ _ _)
   | (with_reducible exact ih1 _ _ _ _ _ _)
   | (with_reducible exact ih2 _ _ _ _ _ _ _)
   | (with_reducible exact ih3 _ _ _ _ _ _ _)
   | (with_reducible exact ih4 _ _ _ _ _ _ _ _)
   | (with_reducible exact cutplaneref01_Trim.mono _ _)
   | (with_reducible exact LeO.refl _)
   | (with_reducible exact LeO.none _)
   | (with_reducible refine LeO.ite ?_ ?_)
   | (with_reducible refine LeO.bind ?_ (fun _ => ?_))
   | exact ih0 _ _ _
   | exact ih1 _ _ _ _ _ _
   | exact ih2 _ _ _ _ _ _ _
   | exact ih3 _ _ _ _ _ _ _
   | exact ih4 _ _ _ _ _ _ _ _
   | exact cutplaneref01_Trim.mono _ _
   | exact LeO.none _
   | refine LeO.ite ?_ ?_
   | refine LeO.bind ?_ (fun _ => ?_)
  ·intro y0 y1 y2 y3 y4 y5
   unfold cutplaneref01_Mul.l0
   repeat' first
   | (with_reducible exact ih0 _ _ _)
   | (with_reducible exact ih1 _ _ _ _ _ _)
   | (with_reducible exact ih2 _ _ _ _ _ _ _)
   | (with_reducible exact ih3 _ _ _ _ _ _ _)
   | (with_reducible exact ih4 _ _ _ _ _ _ _ _)
   | (with_reducible exact cutplaneref01_Trim.mono _ _)
   | (with_reducible exact LeO.refl _)
   | (with_reducible exact LeO.none _)
   | (with_reducible refine LeO.ite ?_ ?_)
   | (with_reducible refine LeO.bind ?_ (fun _ => ?_))
   | exact ih0 _ _ _
   | exact ih1 _ _ _ _ _ _
   | exact ih2 _ _ _ _ _ _ _
   | exact ih3 _ _ _ _ _ _ _
   | exact ih4 _ _ _ _ _ _ _ _
   | exact cutplaneref01_Trim.mono _ _
   | exact LeO.none _
   | refine LeO.ite ?_ ?_
   | refine LeO.bind ?_ (fun _ => ?_)
  ·intro y0 y1 y2 y3 y4 y5 y6
   unfold cutplaneref01_Mul.j2
   repeat' first
   | (with_reducible exact ih0 _ _ _)
   | (with_reducible exact ih1 _ _ _ _ _ _)
   | (with_reducible exact ih2 _ _ _ _ _ _ _)
   | (with_reducible exact ih3 _ _ _ _ _ _ _)
   | (with_reducible exact ih4 _ _ _ _ _ _ _ _)
   | (with_reducible exact cutplaneref01_Trim.mono _ _)
   | (with_reducible exact LeO.refl _)
   | (with_reducible exact LeO.none _)
   | (with_reducible refine LeO.ite ?_ ?_)
   | (with_reducible refine LeO.bind ?_ (fun _ => ?_))
   | exact ih0 _ _ _
   | exact ih1 _ _ _ _ _ _
   | exact ih2 _ _ _ _ _ _ _
   | exact ih3 _ _ _ _ _ _ _
   | exact ih4 _ _ _ _ _ _ _ _
   | exact cutplaneref01_Trim.mono _ _
   | exact LeO.none _
   | refine LeO.ite ?_ ?_
   | refine LeO.bind ?_ (fun _ => ?_)
  ·intro y0 y1 y2 y3 y4 y5 y6
   unfold cutplaneref01_Mul.l1
   repeat' first
   | (with_reducible exact ih0 _ _ _)
   | (with_reducible exact ih1 _ _ _ _ _ _)
   | (with_reducible exact ih2 _ _ _ _ _ _ _)
   | (with_reducible exact ih3 _ _ _ _ _ _ _)
   | (with_reducible exact ih4 _ _ _ _ _ _ _ _)
   | (with_reducible exact cutplaneref01_Trim.mono _ _)
   | (with_reducible exact LeO.refl _)
   | (with_reducible exact LeO.none _)
   | (with_reducible refine LeO.ite ?_ ?_)
   | (with_reducible refine LeO.bind ?_ (fun _ => ?_))
   | exact ih0 _ _ _
   | exact ih1 _ _ _ _ _ _
   | exact ih2 _ _ _ _ _ _ _
   | exact ih3 _ _ _ _ _ _ _
   | exact ih4 _ _ _ _ _ _ _ _
   | exact cutplaneref01_Trim.mono _ _
   | exact LeO.none _
   | refine LeO.ite ?_ ?_
   | refine LeO.bind ?_ (fun _ => ?_)
  ·intro y0 y1 y2 y3 y4 y5 y6 y7
   unfold cutplaneref01_Mul.j4
   repeat' first
   | (with_reducible exact ih0 _ _ _)
   | (with_reducible exact ih1 _ _ _ _ _ _)
   | (with_reducible exact ih2 _ _ _ _ _ _ _)
   | (with_reducible exact ih3 _ _ _ _ _ _ _)
   | (with_reducible exact ih4 _ _ _ _ _ _ _ _)
   | (with_reducible exact cutplaneref01_Trim.mono _ _)
   | (with_reducible exact LeO.refl _)
   | (with_reducible exact LeO.none _)
   | (with_reducible refine LeO.ite ?_ ?_)
   | (with_reducible refine LeO.bind ?_ (fun _ => ?_))
   | exact ih0 _ _ _
   | exact ih1 _ _ _ _ _ _
   | exact ih2 _ _ _ _ _ _ _
   | exact ih3 _ _ _ _ _ _ _
   | exact ih4 _ _ _ _ _ _ _ _
   | exact cutplaneref01_Trim.mono _ _
   | exact LeO.none _
   | refine LeO.ite ?_ ?_
   | refine LeO.bind ?_ (fun _ => ?_)
theorem cutplaneref01_Mul.mono : ∀ a0 a1 k, LeO (cutplaneref01_Mul.f k a0 a1) (cutplaneref01_Mul.f (k + 1) a0 a1) := by
 intro a0 a1 k
 obtain ⟨ih0, ih1, ih2, ih3, ih4⟩ := cutplaneref01_Mul.mono_l k
 unfold cutplaneref01_Mul.f
 repeat' first
   | (with_reducible exact ih0 _ _ _)
   | (with_reducible exact ih1 _ _ _ _ _ _)
   | (with_reducible exact ih2 _ _ _ _ _ _ _)
   | (with_reducible exact ih3 _ _ _ _ _ _ _)
   | (with_reducible exact ih4 _ _ _ _ _ _ _ _)
   | (with_reducible exact cutplaneref01_Trim.mono _ _)
   | (with_reducible exact LeO.refl _)
   | (with_reducible exact LeO.none _)
   | (with_reducible refine LeO.ite ?_ ?_)
   | (with_reducible refine LeO.bind ?_ (fun _ => ?_))
   | exact ih0 _ _ _
   | exact ih1 _ _ _ _ _ _
   | exact ih2 _ _ _ _ _ _ _
   | exact ih3 _ _ _ _ _ _ _
   | exact ih4 _ _ _ _ _ _ _ _
   | exact cutplaneref01_Trim.mono _ _
   | exact LeO.none _
   | refine LeO.ite ?_ ?_
   | refine LeO.bind ?_ (fun _ => ?_)
theorem cutplaneref01_Mul.calls (k : Nat) (A0 : Option Addr) (c0 : Nat) (l0 : List Int) (A1 : Option Addr) (c1 : Nat) (l1 : List Int) (r : List Int) (w : World) (hr0 : Kd.C (Kd.int .u32) w A0 l0.length l0) (hc0 : l0.length ≤ c0) (hr1 : Kd.C (Kd.int .u32) w A1 l1.length l1) (hc1 : l1.length ≤ c1) (h : cutplaneref01_Mul.f k l0 l1 = some r) :
  Calls Try.prog 94 #[.slice A0 l0.length c0, .slice A1 l1.length c1] w fun e w' => ∃ v0_ : Value, e = .returned (v0_) ∧ Kd.V (Kd.int .u32) 66 w' w.heap.size (fun k_ => (w.heap.size ≤ k_)) v0_ r ∧ Below w.heap.size w w' := by
 have HR0 := A0_ hr0
 have HC0 := A0_ hc0
 clear hr0 hc0
 have HR1 := A0_ hr1
 have HC1 := A0_ hc1
 clear hr1 hc1
 have HB := A0_ (Below.refl w.heap.size w)
 have H := h
 clear h
 unfold cutplaneref01_Mul.f at H
 have HC3 := A0_ H
 clear H
 go_enter Try.func94, Try.ntmps94
 go_upto_region 1 with (fail)
 repeat (go_quiet (fail); go_upto_region 1 with (fail))
 go_cut [19] (fun v19 wc => ∃ (kq : Nat) (x19_2 : Bool), v19 = .bool x19_2 ∧ Aside0 (cutplaneref01_Mul.j0 kq l0 l1 x19_2 = some r) ∧ Aside0 (kq ≤ k) ∧ Aside0 (Below w.heap.size w wc))
 case first =>
  have H := HC3.out
  clear HC3
  by_cases c4 : (l0.length : Int) = 0
  ·rw [if_pos c4] at H
   have c4b0 : ((l0.length : Int) == 0) = true := beq_iff_eq.mpr c4
   have c4b1 : ((l0.length : Int) != 0) = false := bne_eq_false_iff_eq.mpr c4
   clear c4
   (first | rw [c4b0] | (simp only [i64_w, i32_w]; rw [c4b0]) | skip)
   have H' := A0_ H
   clear H
   go_wp2
   repeat (go_quiet (fail); try go_wp2)
   go_meet
   case rel => exact ⟨_, (true), (by first | rfl | (simp; done) | (simp [*]; done)), H', ⟨by first | omega | exact Nat.le_refl _⟩, ⟨qm_ HB.out⟩⟩
  ·rw [if_neg c4] at H
   have c4b0 : ((l0.length : Int) == 0) = false := beq_eq_false_iff_ne.mpr c4
   have c4b1 : ((l0.length : Int) != 0) = true := bne_iff_ne.mpr c4
   have c4b2 : ¬ (l0 = []) := fun h_ => c4 (by rw [h_]; rfl)
   (first | rw [c4b0] | (simp only [i64_w, i32_w]; rw [c4b0]) | skip)
   have H' := A0_ H
   clear H
   go_wp2
   repeat (go_quiet (fail); try go_wp2)
   go_meet
   case rel => exact ⟨_, (((l1.length : Int) == 0)), (by first | rfl | (simp; done) | (simp [*]; done)), H', ⟨by first | omega | exact Nat.le_refl _⟩, ⟨qm_ HB.out⟩⟩
 case rest =>
  clear HC3
  try clear c1
  try clear p2
  try clear c4
  try clear c4b0
  try clear c4b1
  try clear c4b2
  obtain ⟨kq, x19_2, rfl, HA, HJ2, HB⟩ := hcut
  cases kq with
  | zero => exact absurd HA.out (by simp [cutplaneref01_Mul.j0])
  | succ kj2 =>
   have H := HA.out
   clear HA
   simp only [cutplaneref01_Mul.j0] at H
   by_cases c5 : x19_2 = true
   ·subst c5
    rw [if_pos rfl] at H
    obtain rfl := Option.some.inj H
    go_wp2
    repeat (go_quiet (fail); try go_wp2)
    go_ret
    exact ⟨_, by first | rfl | (simp [errW_none, errW_some] <;> rfl) | (simp [*, errW_none, errW_some] <;> rfl), (Kd.V_nil _ _ _ _ _), qm_ HB.out⟩
   ·replace c5 := Bool.eq_false_iff.mpr c5
    subst c5
    rw [if_neg (show ¬ (false = true) by decide)] at H
    have H' := A0_ H
    clear H
    go_wp2
    repeat (go_quiet (fail); try go_wp2)
    go_loopg [5, 6, 7, 8] kj2 (fun kq v5 v6 v7 v8 w' => ∃ (x5_2 : List Int) (x6_2 : Int) (x7_2 : Int) (x8_2 : Int), v6 = .int .u64 x6_2 ∧ v7 = .int .u64 x7_2 ∧ v8 = .int .i64 x8_2 ∧ Aside0 (cutplaneref01_Mul.l0 kq l0 l1 x5_2 x6_2 x7_2 x8_2 = some r) ∧ Aside0 (kq ≤ kj2) ∧ Aside0 (Kd.R (Kd.int .u32) 66 w' w.heap.size (fun k_ => (w.heap.size ≤ k_)) v5 x5_2) ∧ Aside0 (Below w.heap.size w w'))
    case atStart => exact ⟨(([] : List Int)), (0), (0), (0), (by first | rfl | (simp; done) | (simp [*]; done)), (by first | rfl | (simp; done) | (simp [*]; done)), (by first | rfl | (simp; done) | (simp [*]; done)), H', ⟨Nat.le_refl _⟩, ⟨by first | exact Kd.R_nil _ _ _ _ _ | exact Kd.N_nil _ _ _ _ _ | exact Kd.V_nil _ _ _ _ _ | exact Kd.Q_nil _ _ _ _ _ | exact Kd.S_nil _ _ _ _ _⟩, ⟨qm_ HB.out⟩⟩
    case round =>
     clear H'
     try clear c1
     try clear p2
     try clear c4
     try clear c4b0
     try clear c4b1
     try clear c4b2
     try clear c5
     try clear p2
     obtain ⟨x5_2, x6_2, x7_2, x8_2, rfl, rfl, rfl, HA, HK2, HO_5, HB⟩ := hrel
     cases gk with
     | zero => exact absurd HA.out (by simp [cutplaneref01_Mul.l0])
     | succ k2 =>
      have H := HA.out
      clear HA
      simp only [cutplaneref01_Mul.l0] at H
      by_cases c6 : x8_2 < (wrap64 ((l0.length : Int) + (l1.length : Int)))
      ·rw [if_pos c6] at H
       have c6b0 : decide (x8_2 < (wrap64 ((l0.length : Int) + (l1.length : Int)))) = true := decide_eq_true c6
       clear c6
       have HC7 := A0_ H
       clear H
       go_upto_if 32 with (fail)
       repeat (go_quiet (fail); go_upto_if 32 with (fail))
       go_cut [9] (fun v9 wc => ∃ (kq : Nat) (x9_6 : Int), v9 = .int .i64 x9_6 ∧ Aside0 (cutplaneref01_Mul.j2 kq l0 l1 x5_2 x6_2 x7_2 x8_2 x9_6 = some r) ∧ Aside0 (kq ≤ k2) ∧ Aside0 (Kd.R (Kd.int .u32) 66 wc w.heap.size (fun k_ => (w.heap.size ≤ k_)) u5 x5_2) ∧ Aside0 (Below w.heap.size w wc))
       case first =>
        have H := HC7.out
        clear HC7
        by_cases c8 : x8_2 ≥ (l1.length : Int)
        ·rw [if_pos c8] at H
         have c8b0 : decide ((l1.length : Int) ≤ x8_2) = true := decide_eq_true c8
         clear c8
         (first | rw [c8b0] | (simp only [i64_w, i32_w]; rw [c8b0]) | skip)
         have H' := A0_ H
         clear H
         go_wp2
         repeat (go_quiet (fail); try go_wp2)
         go_meet
         case rel => exact ⟨_, (wrap64 ((wrap64 (x8_2 - (l1.length : Int))) + 1)), (by first | rfl | (simp; done) | (simp [*]; done)), H', ⟨by have := HJ2.out; have := HK2.out; first | omega | exact Nat.le_refl _⟩, ⟨by exact rm_ HO_5.out⟩, ⟨qm_ HB.out⟩⟩
        ·rw [if_neg c8] at H
         have c8b0 : decide ((l1.length : Int) ≤ x8_2) = false := decide_eq_false c8
         clear c8
         (first | rw [c8b0] | (simp only [i64_w, i32_w]; rw [c8b0]) | skip)
         have H' := A0_ H
         clear H
         go_wp2
         repeat (go_quiet (fail); try go_wp2)
         go_meet
         case rel => exact ⟨_, (0), (by first | rfl | (simp; done) | (simp [*]; done)), H', ⟨by have := HJ2.out; have := HK2.out; first | omega | exact Nat.le_refl _⟩, ⟨by exact rm_ HO_5.out⟩, ⟨qm_ HB.out⟩⟩
       case rest =>
        clear HC7
        try clear c1
        try clear p2
        try clear c4
        try clear c4b0
        try clear c4b1
        try clear c4b2
        try clear c5
        try clear c6
        try clear c6b0
        try clear p6
        try clear c8
        try clear c8b0
        try clear p2
        obtain ⟨kq, x9_6, rfl, HA, HJ6, HO_5, HB⟩ := hcut
        cases kq with
        | zero => exact absurd HA.out (by simp [cutplaneref01_Mul.j2])
        | succ kj6 =>
         have H := HA.out
         clear HA
         simp only [cutplaneref01_Mul.j2] at H
         have H' := A0_ H
         clear H
         go_wp2
         repeat (go_quiet (fail); try go_wp2)
         go_loopg [6, 7, 10] kj6 (fun kq v6 v7 v10 w' => ∃ (x6_4 : Int) (x7_4 : Int) (x10_4 : Int), v6 = .int .u64 x6_4 ∧ v7 = .int .u64 x7_4 ∧ v10 = .int .i64 x10_4 ∧ Aside0 (cutplaneref01_Mul.l1 kq l0 l1 x5_2 x6_4 x7_4 x8_2 x10_4 = some r) ∧ Aside0 (kq ≤ kj6) ∧ Aside0 (Kd.R (Kd.int .u32) 66 w' w.heap.size (fun k_ => (w.heap.size ≤ k_)) u5 x5_2) ∧ Aside0 (Below w.heap.size w w'))
         case atStart => exact ⟨(x6_2), (x7_2), (x9_6), (by first | rfl | (simp; done) | (simp [*]; done)), (by first | rfl | (simp; done) | (simp [*]; done)), (by first | rfl | (simp; done) | (simp [*]; done)), H', ⟨Nat.le_refl _⟩, ⟨by exact rm_ HO_5.out⟩, ⟨qm_ HB.out⟩⟩
         case round =>
          clear H'
          try clear c1
          try clear p2
          try clear c4
          try clear c4b0
          try clear c4b1
          try clear c4b2
          try clear c5
          try clear c6
          try clear c6b0
          try clear p6
          try clear c8
          try clear c8b0
          try clear p2
          try clear p6
          obtain ⟨x6_4, x7_4, x10_4, rfl, rfl, rfl, HA, HK4, HO_5, HB⟩ := hrel
          cases gk with
          | zero => exact absurd HA.out (by simp [cutplaneref01_Mul.l1])
          | succ k4 =>
           have H := HA.out
           clear HA
           simp only [cutplaneref01_Mul.l1] at H
           have HC9 := A0_ H
           clear H
           go_upto_region 13 with (fail)
           repeat (go_quiet (fail); go_upto_region 13 with (fail))
           go_cut [47] (fun v47 wc => ∃ (kq : Nat) (x47_8 : Bool), v47 = .bool x47_8 ∧ Aside0 (cutplaneref01_Mul.j4 kq l0 l1 x5_2 x6_4 x7_4 x8_2 x10_4 x47_8 = some r) ∧ Aside0 (kq ≤ k4) ∧ Aside0 (Kd.R (Kd.int .u32) 66 wc w.heap.size (fun k_ => (w.heap.size ≤ k_)) u5 x5_2) ∧ Aside0 (Below w.heap.size w wc))
           case first =>
            have H := HC9.out
            clear HC9
            by_cases c10 : x10_4 ≤ x8_2
            ·rw [if_pos c10] at H
             have c10b0 : decide (x10_4 ≤ x8_2) = true := decide_eq_true c10
             clear c10
             (first | rw [c10b0] | (simp only [i64_w, i32_w]; rw [c10b0]) | skip)
             have H' := A0_ H
             clear H
             go_wp2
             repeat (go_quiet (fail); try go_wp2)
             go_meet
             case rel => exact ⟨_, (decide (x10_4 < (l0.length : Int))), (by first | rfl | (simp; done) | (simp [*]; done)), H', ⟨by have := HJ2.out; have := HK2.out; have := HJ6.out; have := HK4.out; first | omega | exact Nat.le_refl _⟩, ⟨by exact rm_ HO_5.out⟩, ⟨qm_ HB.out⟩⟩
            ·rw [if_neg c10] at H
             have c10b0 : decide (x10_4 ≤ x8_2) = false := decide_eq_false c10
             clear c10
             (first | rw [c10b0] | (simp only [i64_w, i32_w]; rw [c10b0]) | skip)
             have H' := A0_ H
             clear H
             go_wp2
             repeat (go_quiet (fail); try go_wp2)
             go_meet
             case rel => exact ⟨_, (false), (by first | rfl | (simp; done) | (simp [*]; done)), H', ⟨by have := HJ2.out; have := HK2.out; have := HJ6.out; have := HK4.out; first | omega | exact Nat.le_refl _⟩, ⟨by exact rm_ HO_5.out⟩, ⟨qm_ HB.out⟩⟩
           case rest =>
            clear HC9
            try clear c1
            try clear p2
            try clear c4
            try clear c4b0
            try clear c4b1
            try clear c4b2
            try clear c5
            try clear c6
            try clear c6b0
            try clear p6
            try clear c8
            try clear c8b0
            try clear c9
            try clear c10
            try clear c10b0
            try clear p2
            try clear p6
            obtain ⟨kq, x47_8, rfl, HA, HJ8, HO_5, HB⟩ := hcut
            cases kq with
            | zero => exact absurd HA.out (by simp [cutplaneref01_Mul.j4])
            | succ kj8 =>
             have H := HA.out
             clear HA
             simp only [cutplaneref01_Mul.j4] at H
             by_cases c11 : x47_8 = true
             ·subst c11
              rw [if_pos rfl] at H
              obtain ⟨c12, H⟩ := ic_ H
              have c12b0 : decide (0 ≤ x10_4) = true := decide_eq_true c12
              clear c12
              obtain ⟨c13, H⟩ := ic_ H
              have c13b0 : decide (x10_4 < (l0.length : Int)) = true := decide_eq_true c13
              clear c13
              obtain ⟨ji14, hji14⟩ : ∃ j_ : Int, (wrap64 (x8_2 - x10_4)) = j_ := ⟨_, rfl⟩
              replace H : (if 0 ≤ (ji14) then (if (ji14) < (l1.length : Int) then (if (IntKind.u64.wrap (x6_4 + (IntKind.u64.wrap ((IntKind.u64.wrap (rd l0 x10_4)) * (IntKind.u64.wrap (rd l1 (ji14))))))) < (IntKind.u64.wrap ((IntKind.u64.wrap (rd l0 x10_4)) * (IntKind.u64.wrap (rd l1 (ji14))))) then (cutplaneref01_Mul.l1 kj8 l0 l1 x5_2 (IntKind.u64.wrap (x6_4 + (IntKind.u64.wrap ((IntKind.u64.wrap (rd l0 x10_4)) * (IntKind.u64.wrap (rd l1 (ji14))))))) (IntKind.u64.wrap (x7_4 + 1)) x8_2 (wrap64 (x10_4 + 1))) else (cutplaneref01_Mul.l1 kj8 l0 l1 x5_2 (IntKind.u64.wrap (x6_4 + (IntKind.u64.wrap ((IntKind.u64.wrap (rd l0 x10_4)) * (IntKind.u64.wrap (rd l1 (ji14))))))) x7_4 x8_2 (wrap64 (x10_4 + 1)))) else (none)) else (none)) = some r := by first | (rw [hji14] at H; exact H) | (simp only [hji14] at H ⊢; exact H)
              have hji14w : (IntKind.i64.wrap (x8_2 - x10_4)) = ji14 := (i64_w _).trans hji14
              obtain ⟨c15, H⟩ := ic_ H
              have c15b0 : decide (0 ≤ (ji14)) = true := decide_eq_true c15
              clear c15
              obtain ⟨c16, H⟩ := ic_ H
              have c16b0 : decide ((ji14) < (l1.length : Int)) = true := decide_eq_true c16
              clear c16
              by_cases c17 : (IntKind.u64.wrap (x6_4 + (IntKind.u64.wrap ((IntKind.u64.wrap (rd l0 x10_4)) * (IntKind.u64.wrap (rd l1 (ji14))))))) < (IntKind.u64.wrap ((IntKind.u64.wrap (rd l0 x10_4)) * (IntKind.u64.wrap (rd l1 (ji14)))))
              ·rw [if_pos c17] at H
               have c17b0 : decide ((IntKind.u64.wrap (x6_4 + (IntKind.u64.wrap ((IntKind.u64.wrap (rd l0 x10_4)) * (IntKind.u64.wrap (rd l1 (ji14))))))) < (IntKind.u64.wrap ((IntKind.u64.wrap (rd l0 x10_4)) * (IntKind.u64.wrap (rd l1 (ji14)))))) = true := decide_eq_true c17
               clear c17
               have H' := A0_ H
               clear H
               have p608 : 0 ≤ (x10_4 : Int) := of_decide_eq_true (by first | (with_reducible assumption) | assumption)
               have q608 : x10_4 < (l0.length : Int) := of_decide_eq_true (by first | (with_reducible assumption) | assumption)
               obtain ⟨ad608, e608, hx608_0⟩ := Kd.at_int HR0.out x10_4 p608 q608
               cases e608
               replace hx608_0 := (HB.out.cell (World.block_lt_of_cell? w _ hx608_0)).trans hx608_0
               replace p608 := eq_true p608
               replace q608 := eq_true q608
               have p609 : 0 ≤ ((ji14) : Int) := of_decide_eq_true (by first | (with_reducible assumption) | assumption)
               have q609 : (ji14) < (l1.length : Int) := of_decide_eq_true (by first | (with_reducible assumption) | assumption)
               obtain ⟨ad609, e609, hx609_0⟩ := Kd.at_int HR1.out (ji14) p609 q609
               cases e609
               replace hx609_0 := (HB.out.cell (World.block_lt_of_cell? w _ hx609_0)).trans hx609_0
               replace p609 := eq_true p609
               replace q609 := eq_true q609
               go_wp2
               repeat (go_quiet (fail); try go_wp2)
               first | go_roundg kj8 | ((try subst hji14); go_roundg kj8)
               case measure => have := HJ2.out; have := HK2.out; have := HJ6.out; have := HK4.out; have := HJ8.out; omega
               case rel => exact ⟨(IntKind.u64.wrap (x6_4 + (IntKind.u64.wrap ((IntKind.u64.wrap (rd l0 x10_4)) * (IntKind.u64.wrap (rd l1 (ji14))))))), (IntKind.u64.wrap (x7_4 + 1)), (wrap64 (x10_4 + 1)), (by first | rfl | (simp; done) | (simp only [← hji14] <;> (first | rfl | simp)) | (simp [*]; done)), (by first | rfl | (simp; done) | (simp [*]; done)), (by first | rfl | (simp; done) | (simp [*]; done)), H', ⟨by have := HJ2.out; have := HK2.out; have := HJ6.out; have := HK4.out; have := HJ8.out; omega⟩, ⟨by exact rm_ HO_5.out⟩, ⟨qm_ HB.out⟩⟩
              ·rw [if_neg c17] at H
               have c17b0 : decide ((IntKind.u64.wrap (x6_4 + (IntKind.u64.wrap ((IntKind.u64.wrap (rd l0 x10_4)) * (IntKind.u64.wrap (rd l1 (ji14))))))) < (IntKind.u64.wrap ((IntKind.u64.wrap (rd l0 x10_4)) * (IntKind.u64.wrap (rd l1 (ji14)))))) = false := decide_eq_false c17
               clear c17
               have H' := A0_ H
               clear H
               have p608 : 0 ≤ (x10_4 : Int) := of_decide_eq_true (by first | (with_reducible assumption) | assumption)
               have q608 : x10_4 < (l0.length : Int) := of_decide_eq_true (by first | (with_reducible assumption) | assumption)
               obtain ⟨ad608, e608, hx608_0⟩ := Kd.at_int HR0.out x10_4 p608 q608
               cases e608
               replace hx608_0 := (HB.out.cell (World.block_lt_of_cell? w _ hx608_0)).trans hx608_0
               replace p608 := eq_true p608
               replace q608 := eq_true q608
               have p609 : 0 ≤ ((ji14) : Int) := of_decide_eq_true (by first | (with_reducible assumption) | assumption)
               have q609 : (ji14) < (l1.length : Int) := of_decide_eq_true (by first | (with_reducible assumption) | assumption)
               obtain ⟨ad609, e609, hx609_0⟩ := Kd.at_int HR1.out (ji14) p609 q609
               cases e609
               replace hx609_0 := (HB.out.cell (World.block_lt_of_cell? w _ hx609_0)).trans hx609_0
               replace p609 := eq_true p609
               replace q609 := eq_true q609
               go_wp2
               repeat (go_quiet (fail); try go_wp2)
               first | go_roundg kj8 | ((try subst hji14); go_roundg kj8)
               case measure => have := HJ2.out; have := HK2.out; have := HJ6.out; have := HK4.out; have := HJ8.out; omega
               case rel => exact ⟨(IntKind.u64.wrap (x6_4 + (IntKind.u64.wrap ((IntKind.u64.wrap (rd l0 x10_4)) * (IntKind.u64.wrap (rd l1 (ji14))))))), (x7_4), (wrap64 (x10_4 + 1)), (by first | rfl | (simp; done) | (simp only [← hji14] <;> (first | rfl | simp)) | (simp [*]; done)), (by first | rfl | (simp; done) | (simp [*]; done)), (by first | rfl | (simp; done) | (simp [*]; done)), H', ⟨by have := HJ2.out; have := HK2.out; have := HJ6.out; have := HK4.out; have := HJ8.out; omega⟩, ⟨by exact rm_ HO_5.out⟩, ⟨qm_ HB.out⟩⟩
             ·replace c11 := Bool.eq_false_iff.mpr c11
              subst c11
              rw [if_neg (show ¬ (false = true) by decide)] at H
              obtain ⟨c18, H⟩ := ic_ H
              have LMc18 := A0_ c18
              clear c18
              obtain ⟨y610, hy610⟩ : ∃ y_ : List Int, y_ = (x5_2 ++ [(x6_4) % 4294967296]) := ⟨_, rfl⟩
              replace H : (cutplaneref01_Mul.l0 kj8 l0 l1 y610 (Go.bits .or .u64 (x6_4 / 4294967296) (IntKind.u64.wrap (x7_4 * 4294967296))) (x7_4 / 4294967296) (wrap64 (x8_2 + 1))) = some r := by first | (rw [hy610]; with_reducible exact H) | (have H2_ := (Option.bind_some _ _).symm.trans H; rw [hy610]; with_reducible exact H2_) | (have H2_ := (Option.bind_some _ _).symm.trans H; with_reducible exact H2_) | with_reducible exact H | (rw [hy610]; exact H) | exact H
              have Ny610 := A0_ hy610
              clear hy610
              have H' := A0_ H
              clear H
              go_wp2_with (first | ((with_reducible refine gate_builtin (b := .append) (xs := #[.tmp 71, .tmp 74]) rfl ?_); at_builtin; refine Kd.R_append (Kd.int .u32) (w0 := w) w.heap.size rfl (.tmp 71) (.tmp 74) 67 66 (.int .u32 0) 4 rfl Try.underlying67 info66 rfl (by decide) (by omega) u5 x5_2 ((x6_4) % 4294967296) [.int .u32 ((x6_4) % 4294967296)] (fun k_ => (w.heap.size ≤ k_)) (fun _ => False) rfl rfl ?aP (fun _ hk => hk.elim) ?aF ?aO ?aB ?aS ?aL ?_; (case aP => exact rfl); (case aB => exact (qm_ HB.out)); (case aF => exact (fun k_ hk => (Nat.le_trans (below_size (qm_ HB.out)) hk))); (case aO => exact (by exact rm_ HO_5.out)); (case aS => exact (below_size (qm_ HB.out))); (case aL => have := LMc18.out; omega); intro v611 w19 ho hb hg hat; rw [← Ny610.out] at ho; replace HB := A0_ (hb); have HO612 := A0_ (ho); clear HO_5 ho hb hg hat))
              repeat (go_quiet (first | ((with_reducible refine gate_builtin (b := .append) (xs := #[.tmp 71, .tmp 74]) rfl ?_); at_builtin; refine Kd.R_append (Kd.int .u32) (w0 := w) w.heap.size rfl (.tmp 71) (.tmp 74) 67 66 (.int .u32 0) 4 rfl Try.underlying67 info66 rfl (by decide) (by omega) u5 x5_2 ((x6_4) % 4294967296) [.int .u32 ((x6_4) % 4294967296)] (fun k_ => (w.heap.size ≤ k_)) (fun _ => False) rfl rfl ?aP (fun _ hk => hk.elim) ?aF ?aO ?aB ?aS ?aL ?_; (case aP => exact rfl); (case aB => exact (qm_ HB.out)); (case aF => exact (fun k_ hk => (Nat.le_trans (below_size (qm_ HB.out)) hk))); (case aO => exact (by exact rm_ HO_5.out)); (case aS => exact (below_size (qm_ HB.out))); (case aL => have := LMc18.out; omega); intro v611 w19 ho hb hg hat; rw [← Ny610.out] at ho; replace HB := A0_ (hb); have HO612 := A0_ (ho); clear HO_5 ho hb hg hat)); try go_wp2_with (first | ((with_reducible refine gate_builtin (b := .append) (xs := #[.tmp 71, .tmp 74]) rfl ?_); at_builtin; refine Kd.R_append (Kd.int .u32) (w0 := w) w.heap.size rfl (.tmp 71) (.tmp 74) 67 66 (.int .u32 0) 4 rfl Try.underlying67 info66 rfl (by decide) (by omega) u5 x5_2 ((x6_4) % 4294967296) [.int .u32 ((x6_4) % 4294967296)] (fun k_ => (w.heap.size ≤ k_)) (fun _ => False) rfl rfl ?aP (fun _ hk => hk.elim) ?aF ?aO ?aB ?aS ?aL ?_; (case aP => exact rfl); (case aB => exact (qm_ HB.out)); (case aF => exact (fun k_ hk => (Nat.le_trans (below_size (qm_ HB.out)) hk))); (case aO => exact (by exact rm_ HO_5.out)); (case aS => exact (below_size (qm_ HB.out))); (case aL => have := LMc18.out; omega); intro v611 w19 ho hb hg hat; rw [← Ny610.out] at ho; replace HB := A0_ (hb); have HO612 := A0_ (ho); clear HO_5 ho hb hg hat)))
              first | go_roundg kj8 | ((try subst hji14); go_roundg kj8)
              case measure => have := HJ2.out; have := HK2.out; have := HJ6.out; have := HK4.out; have := HJ8.out; omega
              case rel => exact ⟨(y610), (Go.bits .or .u64 (x6_4 / 4294967296) (IntKind.u64.wrap (x7_4 * 4294967296))), (x7_4 / 4294967296), (wrap64 (x8_2 + 1)), (by first | rfl | (simp; done) | (simp [*]; done)), (by first | rfl | (simp; done) | (simp [*]; done)), (by first | rfl | (simp; done) | (simp [*]; done)), H', ⟨by have := HJ2.out; have := HK2.out; have := HJ6.out; have := HK4.out; have := HJ8.out; omega⟩, ⟨by exact rm_ HO612.out⟩, ⟨qm_ HB.out⟩⟩
      ·rw [if_neg c6] at H
       have c6b0 : decide (x8_2 < (wrap64 ((l0.length : Int) + (l1.length : Int)))) = false := decide_eq_false c6
       clear c6
       obtain ⟨t605, A20, H⟩ := bs_ H
       try dsimp -simprocs only at H
       obtain rfl := Option.some.inj H
       obtain ⟨Ao21, co21, eo21⟩ := Kd.R_slice HO_5.out
       subst eo21
       go_wp2_with (first | (go_at_call 110; (with_reducible refine (cutplaneref01_Trim.calls k2 (fun k_ => some k_ = (.slice Ao21 x5_2.length co21 : Value).ownBlock) _ _ x5_2 t605 _ ?side1 A20.out).mono ?_); (case side1 => exact Kd.R_V (Kd.R_tight rfl (HO_5.out))); rintro e w22 ⟨v606, rfl, ho0, hb⟩; have HO607 := A0_ (Kd.V_lower (Kd.V_mono (ok' := fun k_ => (w.heap.size ≤ k_)) ho0 (fun k_ hk_ => Or.elim hk_ (fun hs_ => ((HO_5.out).1 k_ hs_.symm)) (fun hn_ => (Nat.le_trans (below_size (qm_ HB.out)) hn_)))) (below_size (qm_ HB.out))); replace HO_5 := A0_ (Kd.R_below (by exact rm_ HO_5.out) hb); replace HB := hs_ hb; (try clear hb); (try clear ho0)))
       repeat (go_quiet (first | (go_at_call 110; (with_reducible refine (cutplaneref01_Trim.calls k2 (fun k_ => some k_ = (.slice Ao21 x5_2.length co21 : Value).ownBlock) _ _ x5_2 t605 _ ?side1 A20.out).mono ?_); (case side1 => exact Kd.R_V (Kd.R_tight rfl (HO_5.out))); rintro e w22 ⟨v606, rfl, ho0, hb⟩; have HO607 := A0_ (Kd.V_lower (Kd.V_mono (ok' := fun k_ => (w.heap.size ≤ k_)) ho0 (fun k_ hk_ => Or.elim hk_ (fun hs_ => ((HO_5.out).1 k_ hs_.symm)) (fun hn_ => (Nat.le_trans (below_size (qm_ HB.out)) hn_)))) (below_size (qm_ HB.out))); replace HO_5 := A0_ (Kd.R_below (by exact rm_ HO_5.out) hb); replace HB := hs_ hb; (try clear hb); (try clear ho0))); try go_wp2_with (first | (go_at_call 110; (with_reducible refine (cutplaneref01_Trim.calls k2 (fun k_ => some k_ = (.slice Ao21 x5_2.length co21 : Value).ownBlock) _ _ x5_2 t605 _ ?side1 A20.out).mono ?_); (case side1 => exact Kd.R_V (Kd.R_tight rfl (HO_5.out))); rintro e w22 ⟨v606, rfl, ho0, hb⟩; have HO607 := A0_ (Kd.V_lower (Kd.V_mono (ok' := fun k_ => (w.heap.size ≤ k_)) ho0 (fun k_ hk_ => Or.elim hk_ (fun hs_ => ((HO_5.out).1 k_ hs_.symm)) (fun hn_ => (Nat.le_trans (below_size (qm_ HB.out)) hn_)))) (below_size (qm_ HB.out))); replace HO_5 := A0_ (Kd.R_below (by exact rm_ HO_5.out) hb); replace HB := hs_ hb; (try clear hb); (try clear ho0))))
       go_ret
       exact ⟨_, by first | rfl | (simp [errW_none, errW_some] <;> rfl) | (simp [*, errW_none, errW_some] <;> rfl), by (with_reducible repeat (first | apply Kd.V_alloc | apply Kd.V_drewN | apply Kd.V_drew)); exact HO607.out, qm_ HB.out⟩
end Go.Proofs.Ytlgapmhjaaajfaa.PA
end

section
namespace Go.Proofs.Ytlgapmhjaaajfaa.PA
open Go.RowKit Go.Proofs.YtlgapmhjaaajfaaW.PrintWords Go.Proofs.YtlgapmhjaaajfaaW.PrintLast Go.Proofs.YtlgapmhjaaajfaaW.PrintMore
attribute [local go_sem] max2_int min2_int max_two min_two max_three min_three max_four min_four   -- for this text's walks alone
set_option linter.unusedVariables false
set_option linter.unusedSimpArgs false
def cutplaneref02_Mul.f (k : Nat) (a0_0 : Bool) (l0_1 : List Int) (a0_2 : Int) (a1_0 : Bool) (l1_1 : List Int) (a1_2 : Int) : Option (Bool × List Int × Int) := (cutplaneref01_Mul.f k l0_1 l1_1).bind fun t616 => ((cutplaneref02_Form.f k (a0_0 != a1_0) t616 (wrap64 (a0_2 + a1_2))).bind fun bt619 => (some (bt619.1, bt619.2.1, bt619.2.2)))
theorem cutplaneref02_Mul.mono : ∀ a0 a1 a2 a3 a4 a5 k, LeO (cutplaneref02_Mul.f k a0 a1 a2 a3 a4 a5) (cutplaneref02_Mul.f (k + 1) a0 a1 a2 a3 a4 a5) := by
 intro a0 a1 a2 a3 a4 a5 k
 unfold cutplaneref02_Mul.f
 repeat' first
   | (with_reducible exact cutplaneref01_Mul.mono _ _ _)
   | (with_reducible exact cutplaneref02_Form.mono _ _ _ _)
   | (with_reducible exact LeO.refl _)
   | (with_reducible exact LeO.none _)
   | (with_reducible refine LeO.ite ?_ ?_)
   | (with_reducible refine LeO.bind ?_ (fun _ => ?_))
   | exact cutplaneref01_Mul.mono _ _ _
   | exact cutplaneref02_Form.mono _ _ _ _
   | exact LeO.none _
   | refine LeO.ite ?_ ?_
   | refine LeO.bind ?_ (fun _ => ?_)
def cutplaneref02_Mul.T1 : Bool × List (List Nat × List Nat) := (true, [([], []), ([0], [0]), ([], []), ([2], [2]), ([1, 3], [1, 3]), ([], []), ([5], [5]), ([], []), ([7], [7]), ([6, 8], [6, 8]), ([], []), ([10], [10]), ([], []), ([12], [12]), ([11, 13], [11, 13]), ([4, 9, 14, 9], [4, 9, 14]), ([15, 15, 0, 1, 2, 3, 4, 5, 6, 7, 8, 9, 10, 11, 12, 13, 14, 15], [15])])
def cutplaneref02_Mul.B1 : List Nat := [0, 1, 0, 4, 15, 0, 32, 0, 128, 480, 0, 1024, 0, 4096, 15360, 32767, 65535]
theorem cutplaneref02_Mul.tab1 : rtab .any (opsOf Try.f73 1) = cutplaneref02_Mul.T1 := by kernel_rfl
theorem cutplaneref02_Mul.bits1 : waitsOk cutplaneref02_Mul.T1.2 cutplaneref02_Mul.B1 = true := by kernel_rfl
theorem cutplaneref02_Mul.calls (k : Nat) (a0_0 : Bool) (A0_1 : Option Addr) (c0_1 : Nat) (l0_1 : List Int) (a0_2 : Int) (a1_0 : Bool) (A1_1 : Option Addr) (c1_1 : Nat) (l1_1 : List Int) (a1_2 : Int) (r1 : Bool) (r2 : List Int) (r3 : Int) (w : World) (hr0_1 : Kd.C (Kd.int .u32) w A0_1 l0_1.length l0_1) (hc0_1 : l0_1.length ≤ c0_1) (hr1_1 : Kd.C (Kd.int .u32) w A1_1 l1_1.length l1_1) (hc1_1 : l1_1.length ≤ c1_1) (h : cutplaneref02_Mul.f k a0_0 l0_1 a0_2 a1_0 l1_1 a1_2 = some (r1, r2, r3)) :
  Calls Try.prog 73 #[.agg #[.bool a0_0, .slice A0_1 l0_1.length c0_1, .int .i64 a0_2], .agg #[.bool a1_0, .slice A1_1 l1_1.length c1_1, .int .i64 a1_2]] w fun e w' => ∃ v1_ : Value, e = .returned (.agg #[.bool r1, v1_, .int .i64 r3]) ∧ Kd.V (Kd.int .u32) 66 w' w.heap.size (fun k_ => (w.heap.size ≤ k_)) v1_ r2 ∧ Below w.heap.size w w' := by
 have hu69 := Try.underlying69
 have HR0_1 := A0_ hr0_1
 have HC0_1 := A0_ hc0_1
 clear hr0_1 hc0_1
 have HR1_1 := A0_ hr1_1
 have HC1_1 := A0_ hc1_1
 clear hr1_1 hc1_1
 have HB := A0_ (Below.refl w.heap.size w)
 have H := h
 clear h
 unfold cutplaneref02_Mul.f at H
 obtain ⟨t616, A3, H⟩ := bs_ H
 try dsimp -simprocs only at H
 obtain ⟨⟨t619, t620, t623⟩, A4, H⟩ := bs_ H
 try dsimp -simprocs only at H
 simp only [Option.some.injEq, Prod.mk.injEq] at H
 obtain ⟨rfl, rfl, rfl⟩ := H
 go_enter Try.func73, Try.ntmps73
 try go_wp2_with (first | ((with_reducible refine gate_dst (N := 2) rfl ?_); refine box_event ?hg (N := 2) ?hd (cs := #[.bool a0_0, .slice A0_1 l0_1.length c0_1, .int .i64 a0_2]) (t := 69) ?hr ?_; (case hd => rfl); (case hg => rfl); (case hr => first | (go_simp; done) | (go_simp; rfl)); intro gb613 hg w5 hbox hb; have BK613 := A0_ (hbox); have GW613 := A0_ ((by rw [hg]; exact (below_size (qm_ HB.out)) : w.heap.size ≤ gb613)); have GE613 := GW613; replace HB := hs_ hb; clear hb hbox hg) | ((with_reducible refine gate_dst (N := 3) rfl ?_); refine box_event ?hg (N := 3) ?hd (cs := #[.bool a1_0, .slice A1_1 l1_1.length c1_1, .int .i64 a1_2]) (t := 69) ?hr ?_; (case hd => rfl); (case hg => rfl); (case hr => first | (go_simp; done) | (go_simp; rfl)); intro gb614 hg w6 hbox hb; have BK614 := A0_ (hbox); have GW614 := A0_ ((by rw [hg]; exact (below_size qz_) : w.heap.size ≤ gb614)); have GE614 := GW614; replace HB := hs_ hb; have NB613_614 := nl_ hg BK613; have NB614_613 := ng_ hg BK613; replace BK613 := bb_ BK613 hb; clear hb hbox hg) | ((with_reducible refine gate_dst (N := 4) rfl ?_); refine box_event ?hg (N := 4) ?hd (cs := #[.bool false, .slice none 0 0, .int .i64 0]) (t := 69) ?hr ?_; (case hd => rfl); (case hg => rfl); (case hr => first | (go_simp; done) | (go_simp; rfl)); intro gb615 hg w7 hbox hb; have BK615 := A0_ (hbox); have GW615 := A0_ ((by rw [hg]; exact (below_size qz_) : w.heap.size ≤ gb615)); have GE615 := GW615; replace HB := hs_ hb; have NB613_615 := nl_ hg BK613; have NB615_613 := ng_ hg BK613; replace BK613 := bb_ BK613 hb; have NB614_615 := nl_ hg BK614; have NB615_614 := ng_ hg BK614; replace BK614 := bb_ BK614 hb; clear hb hbox hg))
 replace BK613 := A0_ (blk_drew BK613.out)
 replace BK614 := A0_ (blk_drew BK614.out)
 replace BK615 := A0_ (blk_drew BK615.out)
 replace HB := A0_ (below_drew1 HB.out)
 refine start_ (n := 17) (S := fun w' => w'.cell? ⟨gb613, 0, none⟩ = some (.bool a0_0) ∧ w'.cell? ⟨gb613, 1, none⟩ = some (.slice A0_1 l0_1.length c0_1) ∧ w'.cell? ⟨gb613, 2, none⟩ = some (.int .i64 a0_2) ∧ w'.cell? ⟨gb614, 0, none⟩ = some (.bool a1_0) ∧ w'.cell? ⟨gb614, 1, none⟩ = some (.slice A1_1 l1_1.length c1_1) ∧ w'.cell? ⟨gb614, 2, none⟩ = some (.int .i64 a1_2)) (ds := []) #[false, false, false, false, false, false, false, false, false, false, false, false, false, false, false, false, false] (by kernel_rfl) rfl rfl ⟨bC_ BK613.out 0, bC_ BK613.out 1, bC_ BK613.out 2, bC_ BK614.out 0, bC_ BK614.out 1, bC_ BK614.out 2⟩ (fun hHeld => ?_); refine with_tabW cutplaneref02_Mul.tab1 cutplaneref02_Mul.bits1 (fun HT_ HW_ => ?_)
 generalize w7.drew = w8 at BK613 BK614 BK615 HB hHeld ⊢
 refine pure_ (i := 0) (N := some 5) (v := ?_) (a' := ?_) #[true, false, false, false, false, false, false, false, false, false, false, false, false, false, false, false, false] rfl rfl (any_of HT_.out (by kernel_rfl)) (fun _ _ _ h => h) (Or.inl ⟨by rfl, ?_⟩) ?_ ?_
 rotate_left
 ·intro w'
  go_simp
  with_reducible rfl
 rotate_left
 ·simp only [Act.put, sp_, i64_w, i32_w]
  rfl
 refine pure_ (i := 2) (N := some 7) (v := ?_) (a' := ?_) #[true, false, true, false, false, false, false, false, false, false, false, false, false, false, false, false, false] rfl rfl (any_of HT_.out (by kernel_rfl)) (fun _ _ _ h => h) (Or.inl ⟨by rfl, ?_⟩) ?_ ?_
 rotate_left
 ·intro w'
  go_simp
  with_reducible rfl
 rotate_left
 ·simp only [Act.put, sp_, i64_w, i32_w]
  rfl
 refine pure_ (i := 5) (N := some 10) (v := ?_) (a' := ?_) #[true, false, true, false, false, true, false, false, false, false, false, false, false, false, false, false, false] rfl rfl (any_of HT_.out (by kernel_rfl)) (fun _ _ _ h => h) (Or.inl ⟨by rfl, ?_⟩) ?_ ?_
 rotate_left
 ·intro w'
  go_simp
  with_reducible rfl
 rotate_left
 ·simp only [Act.put, sp_, i64_w, i32_w]
  rfl
 refine pure_ (i := 7) (N := some 12) (v := ?_) (a' := ?_) #[true, false, true, false, false, true, false, true, false, false, false, false, false, false, false, false, false] rfl rfl (any_of HT_.out (by kernel_rfl)) (fun _ _ _ h => h) (Or.inl ⟨by rfl, ?_⟩) ?_ ?_
 rotate_left
 ·intro w'
  go_simp
  with_reducible rfl
 rotate_left
 ·simp only [Act.put, sp_, i64_w, i32_w]
  rfl
 refine pure_ (i := 10) (N := some 15) (v := ?_) (a' := ?_) #[true, false, true, false, false, true, false, true, false, false, true, false, false, false, false, false, false] rfl rfl (any_of HT_.out (by kernel_rfl)) (fun _ _ _ h => h) (Or.inl ⟨by rfl, ?_⟩) ?_ ?_
 rotate_left
 ·intro w'
  go_simp
  with_reducible rfl
 rotate_left
 ·simp only [Act.put, sp_, i64_w, i32_w]
  rfl
 refine pure_ (i := 12) (N := some 17) (v := ?_) (a' := ?_) #[true, false, true, false, false, true, false, true, false, false, true, false, true, false, false, false, false] rfl rfl (any_of HT_.out (by kernel_rfl)) (fun _ _ _ h => h) (Or.inl ⟨by rfl, ?_⟩) ?_ ?_
 rotate_left
 ·intro w'
  go_simp
  with_reducible rfl
 rotate_left
 ·simp only [Act.put, sp_, i64_w, i32_w]
  rfl
 refine take_ (i := 1) (N := some 6) (v := ?_) (a' := ?_) #[true, true, true, false, false, true, false, true, false, false, true, false, true, false, false, false, false] rfl rfl (take_ofW HT_.out HW_.out (by kernel_rfl)) (fun _ _ _ h => h) (Or.inl ⟨by rfl, ?_⟩) hHeld ?_ ?_
 rotate_left
 ·rintro w' ⟨s0, s1, s2, s3, s4, s5⟩
  go_simp
  with_reducible rfl
 rotate_left
 ·simp only [Act.put, sp_, i64_w, i32_w]
  rfl
 refine take_ (i := 3) (N := some 8) (v := ?_) (a' := ?_) #[true, true, true, true, false, true, false, true, false, false, true, false, true, false, false, false, false] rfl rfl (take_ofW HT_.out HW_.out (by kernel_rfl)) (fun _ _ _ h => h) (Or.inl ⟨by rfl, ?_⟩) hHeld ?_ ?_
 rotate_left
 ·rintro w' ⟨s0, s1, s2, s3, s4, s5⟩
  go_simp
  with_reducible rfl
 rotate_left
 ·simp only [Act.put, sp_, i64_w, i32_w]
  rfl
 refine pure_ (i := 4) (N := some 9) (v := ?_) (a' := ?_) #[true, true, true, true, true, true, false, true, false, false, true, false, true, false, false, false, false] rfl rfl (any_of HT_.out (by kernel_rfl)) (fun _ _ _ h => h) (Or.inl ⟨by rfl, ?_⟩) ?_ ?_
 rotate_left
 ·intro w'
  go_simp
  with_reducible rfl
 rotate_left
 ·simp only [Act.put, sp_, i64_w, i32_w]
  rfl
 refine take_ (i := 6) (N := some 11) (v := ?_) (a' := ?_) #[true, true, true, true, true, true, true, true, false, false, true, false, true, false, false, false, false] rfl rfl (take_ofW HT_.out HW_.out (by kernel_rfl)) (fun _ _ _ h => h) (Or.inl ⟨by rfl, ?_⟩) hHeld ?_ ?_
 rotate_left
 ·rintro w' ⟨s0, s1, s2, s3, s4, s5⟩
  go_simp
  with_reducible rfl
 rotate_left
 ·simp only [Act.put, sp_, i64_w, i32_w]
  rfl
 refine take_ (i := 8) (N := some 13) (v := ?_) (a' := ?_) #[true, true, true, true, true, true, true, true, true, false, true, false, true, false, false, false, false] rfl rfl (take_ofW HT_.out HW_.out (by kernel_rfl)) (fun _ _ _ h => h) (Or.inl ⟨by rfl, ?_⟩) hHeld ?_ ?_
 rotate_left
 ·rintro w' ⟨s0, s1, s2, s3, s4, s5⟩
  go_simp
  with_reducible rfl
 rotate_left
 ·simp only [Act.put, sp_, i64_w, i32_w]
  rfl
 refine take_ (i := 11) (N := some 16) (v := ?_) (a' := ?_) #[true, true, true, true, true, true, true, true, true, false, true, true, true, false, false, false, false] rfl rfl (take_ofW HT_.out HW_.out (by kernel_rfl)) (fun _ _ _ h => h) (Or.inl ⟨by rfl, ?_⟩) hHeld ?_ ?_
 rotate_left
 ·rintro w' ⟨s0, s1, s2, s3, s4, s5⟩
  go_simp
  with_reducible rfl
 rotate_left
 ·simp only [Act.put, sp_, i64_w, i32_w]
  rfl
 refine take_ (i := 13) (N := some 18) (v := ?_) (a' := ?_) #[true, true, true, true, true, true, true, true, true, false, true, true, true, true, false, false, false] rfl rfl (take_ofW HT_.out HW_.out (by kernel_rfl)) (fun _ _ _ h => h) (Or.inl ⟨by rfl, ?_⟩) hHeld ?_ ?_
 rotate_left
 ·rintro w' ⟨s0, s1, s2, s3, s4, s5⟩
  go_simp
  with_reducible rfl
 rotate_left
 ·simp only [Act.put, sp_, i64_w, i32_w]
  rfl
 refine pure_ (i := 14) (N := some 19) (v := ?_) (a' := ?_) #[true, true, true, true, true, true, true, true, true, false, true, true, true, true, true, false, false] rfl rfl (any_of HT_.out (by kernel_rfl)) (fun _ _ _ h => h) (Or.inl ⟨by rfl, ?_⟩) ?_ ?_
 rotate_left
 ·intro w'
  go_simp
  with_reducible rfl
 rotate_left
 ·simp only [Act.put, sp_, i64_w, i32_w]
  rfl
 refine one_ (i := 9) (N := some 14) #[true, true, true, true, true, true, true, true, true, true, true, true, true, true, true, false, false] rfl rfl (one_of HT_.out (by kernel_rfl)) (by decide) (fun K hK => ?_)
 refine goes_ Try.func94 (by kernel_rfl) rfl #[.slice A0_1 l0_1.length c0_1, .slice A1_1 l1_1.length c1_1] (by rfl) rfl rfl (am_ rfl) ?_
 with_reducible refine (cutplaneref01_Mul.calls k _ _ l0_1 _ _ l1_1 t616 _ ?side1 ?side2 ?side3 ?side4 A3.out).mono ?_
 (case side1 => repeat (first | exact (Kd.C_below HR0_1.out HB.out) | (with_reducible refine Kd.C_alloc ?_ _) | (with_reducible refine Kd.C_drewN ?_ _) | (with_reducible refine Kd.C_drew ?_)))
 (case side2 => exact HC0_1.out)
 (case side3 => repeat (first | exact (Kd.C_below HR1_1.out HB.out) | (with_reducible refine Kd.C_alloc ?_ _) | (with_reducible refine Kd.C_drewN ?_ _) | (with_reducible refine Kd.C_drew ?_)))
 (case side4 => exact HC1_1.out)
 rintro e w9 ⟨v617, rfl, ho0, hb⟩
 refine ⟨_, rfl, ?_⟩
 have HO618 := A0_ (Kd.V_lower (Kd.V_mono (ok' := fun k_ => (w.heap.size ≤ k_) ∧ k_ ≠ gb613 ∧ k_ ≠ gb614 ∧ k_ ≠ gb615) ho0 (fun k_ hk_ => ⟨(Nat.le_trans (below_size qz_) hk_), (Kd.freshB (bm_ BK613.out) k_ hk_), (Kd.freshB (bm_ BK614.out) k_ hk_), (Kd.freshB (bm_ BK615.out) k_ hk_)⟩)) (below_size qz_))
 replace BK613 := bb_ BK613 hb
 replace BK614 := bb_ BK614 hb
 replace BK615 := bb_ BK615 hb
 replace HB := hs_ hb
 (try clear hb)
 (try clear ho0)
 obtain ⟨Ao10, co10, eo10⟩ := Kd.V_slice HO618.out
 (first | subst eo10 | (injection eo10 with f1_ f2_ f3_; have f4_ := f1_.symm; have f5_ := f3_.symm; clear f1_ f2_ f3_; subst f4_; subst f5_))
 refine hK.out _ _ ⟨bC_ BK613.out 0, bC_ BK613.out 1, bC_ BK613.out 2, bC_ BK614.out 0, bC_ BK614.out 1, bC_ BK614.out 2⟩ (fun hHeld => ?_)
 clear hK K
 refine norm_ (a' := ?_) ?_ ?_
 rotate_left
 ·show Act.put _ (some 14) _ = _
  simp only [Act.put, sp_, i64_w, i32_w]
  rfl
 refine one_ (i := 15) (N := some 20) #[true, true, true, true, true, true, true, true, true, true, true, true, true, true, true, true, false] rfl rfl (one_of HT_.out (by kernel_rfl)) (by decide) (fun K hK => ?_)
 refine goes_ Try.func93 (by kernel_rfl) rfl #[.bool (a0_0 != a1_0), .slice Ao10 t616.length co10, .int .i64 (wrap64 (a0_2 + a1_2))] (by rfl) rfl rfl (am_ rfl) ?_
 with_reducible refine (cutplaneref02_Form.calls k (a0_0 != a1_0) _ _ t616 (wrap64 (a0_2 + a1_2)) t619 t620 t623 _ ?side1 ?side2 A4.out).mono ?_
 (case side1 => repeat (first | exact (Kd.V_reads' HO618.out).2.2 | (with_reducible refine Kd.C_alloc ?_ _) | (with_reducible refine Kd.C_drewN ?_ _) | (with_reducible refine Kd.C_drew ?_)))
 (case side2 => exact (Kd.V_reads' HO618.out).2.1)
 rintro e w11 ⟨v621, rfl, ho0, hb⟩
 refine ⟨_, rfl, ?_⟩
 replace HO618 := A0_ (Kd.V_below (by exact vm_ HO618.out) hb)
 have HO622 := A0_ (Kd.V_lower (Kd.V_mono (ok' := fun k_ => (w.heap.size ≤ k_) ∧ k_ ≠ gb613 ∧ k_ ≠ gb614 ∧ k_ ≠ gb615) ho0 (fun k_ hk_ => ⟨(Nat.le_trans (below_size qz_) hk_), (Kd.freshB (bm_ BK613.out) k_ hk_), (Kd.freshB (bm_ BK614.out) k_ hk_), (Kd.freshB (bm_ BK615.out) k_ hk_)⟩)) (below_size qz_))
 replace BK613 := bb_ BK613 hb
 replace BK614 := bb_ BK614 hb
 replace BK615 := bb_ BK615 hb
 replace HB := hs_ hb
 (try clear hb)
 (try clear ho0)
 obtain ⟨Ao13, co13, eo13⟩ := Kd.V_slice HO622.out
 (first | subst eo13 | (injection eo13 with f1_ f2_ f3_; have f4_ := f1_.symm; have f5_ := f3_.symm; clear f1_ f2_ f3_; subst f4_; subst f5_))
 refine hK.out _ _ ⟨bC_ BK613.out 0, bC_ BK613.out 1, bC_ BK613.out 2, bC_ BK614.out 0, bC_ BK614.out 1, bC_ BK614.out 2⟩ (fun hHeld => ?_)
 clear hK K
 refine norm_ (a' := ?_) ?_ ?_
 rotate_left
 ·show Act.put _ (some 20) _ = _
  simp only [Act.put, sp_, i64_w, i32_w]
  rfl
 refine one_ (i := 16) (N := none) #[true, true, true, true, true, true, true, true, true, true, true, true, true, true, true, true, true] rfl rfl (one_of HT_.out (by kernel_rfl)) (by decide) (fun K hK => ?_)
 have hs12 : w11.cell? ⟨gb615, 0, none⟩ = some (.bool false) := (blk_cell BK615.out 0).trans rfl
 have hfs12 := blk_frozen BK615.out 0
 have hns12_0 := NB613_615.out
 have hns12_1 := NB614_615.out
 have hms12_0 := NB615_613.out
 have hms12_1 := NB615_614.out
 have hs14 : w11.cell? ⟨gb615, 1, none⟩ = some (.slice none 0 0) := (blk_cell BK615.out 1).trans rfl
 have hfs14 := blk_frozen BK615.out 1
 have hns14_0 := NB613_615.out
 have hns14_1 := NB614_615.out
 have hms14_0 := NB615_613.out
 have hms14_1 := NB615_614.out
 have hs15 : w11.cell? ⟨gb615, 2, none⟩ = some (.int .i64 0) := (blk_cell BK615.out 2).trans rfl
 have hfs15 := blk_frozen BK615.out 2
 have hns15_0 := NB613_615.out
 have hns15_1 := NB614_615.out
 have hms15_0 := NB615_613.out
 have hms15_1 := NB615_614.out
 refine skip_ (w1 := ?_) (by rfl) rfl ?_ ?_
 rotate_left
 ·go_simp
  rfl
 refine hK.out _ _ ⟨((cell_far (p := ⟨gb615, _, none⟩) NB613_615.out _).trans (((cell_far (p := ⟨gb615, _, none⟩) NB613_615.out _).trans (((cell_far (p := ⟨gb615, _, none⟩) NB613_615.out _).trans (hHeld.1)))))), ((cell_far (p := ⟨gb615, _, none⟩) NB613_615.out _).trans (((cell_far (p := ⟨gb615, _, none⟩) NB613_615.out _).trans (((cell_far (p := ⟨gb615, _, none⟩) NB613_615.out _).trans (hHeld.2.1)))))), ((cell_far (p := ⟨gb615, _, none⟩) NB613_615.out _).trans (((cell_far (p := ⟨gb615, _, none⟩) NB613_615.out _).trans (((cell_far (p := ⟨gb615, _, none⟩) NB613_615.out _).trans (hHeld.2.2.1)))))), ((cell_far (p := ⟨gb615, _, none⟩) NB614_615.out _).trans (((cell_far (p := ⟨gb615, _, none⟩) NB614_615.out _).trans (((cell_far (p := ⟨gb615, _, none⟩) NB614_615.out _).trans (hHeld.2.2.2.1)))))), ((cell_far (p := ⟨gb615, _, none⟩) NB614_615.out _).trans (((cell_far (p := ⟨gb615, _, none⟩) NB614_615.out _).trans (((cell_far (p := ⟨gb615, _, none⟩) NB614_615.out _).trans (hHeld.2.2.2.2.1)))))), ((cell_far (p := ⟨gb615, _, none⟩) NB614_615.out _).trans (((cell_far (p := ⟨gb615, _, none⟩) NB614_615.out _).trans (((cell_far (p := ⟨gb615, _, none⟩) NB614_615.out _).trans (hHeld.2.2.2.2.2))))))⟩ (fun hHeld => ?_)
 clear hK K
 refine done_ (done_of HT_.out (by kernel_rfl)) ?_
 try go_wp2
 refine bodyPost_ret (results_cell_row rfl _ _ gb615 69 #[.bool t619, .slice Ao13 t620.length co13, .int .i64 t623] (0, 0) _ rfl (by (with_reducible repeat first | apply bN_ | apply bD_ | apply bA_); refine blk_put (cs := #[.bool t619, .slice Ao13 t620.length co13, .int .i64 0]) ?_ 2 _ rfl; refine blk_put (cs := #[.bool t619, .slice none 0 0, .int .i64 0]) ?_ 1 _ rfl; refine blk_put (cs := #[.bool false, .slice none 0 0, .int .i64 0]) ?_ 0 _ rfl; exact bm_ BK615.out) Try.underlying69 rfl (by kernel_rfl)) rfl ?_
 exact ⟨_, by first | rfl | (simp [errW_none, errW_some] <;> rfl) | (simp [*, errW_none, errW_some] <;> rfl), by (with_reducible repeat (first | apply Kd.V_alloc | apply Kd.V_drewN | apply Kd.V_drew)); exact Kd.V_mono (Kd.V_far (p := ⟨gb615, 2, none⟩) (Kd.V_far (p := ⟨gb615, 1, none⟩) (Kd.V_far (p := ⟨gb615, 0, none⟩) (Kd.V_mono HO622.out (fun k_ hk => (⟨hk, hk.2.2.2⟩ : _ ∧ k_ ≠ gb615))) (fun _ hk => hk.2) (.bool t619)) (fun _ hk => hk.2) (.slice Ao13 t620.length co13)) (fun _ hk => hk.2) (.int .i64 t623)) (fun _ hk => hk.1.1), qz_⟩
end Go.Proofs.Ytlgapmhjaaajfaa.PA
end

section
namespace Go.Proofs.Ytlgapmhjaaajfaa.PA
open Go.RowKit Go.Proofs.YtlgapmhjaaajfaaW.PrintWords Go.Proofs.YtlgapmhjaaajfaaW.PrintLast Go.Proofs.YtlgapmhjaaajfaaW.PrintMore
attribute [local go_sem] max2_int min2_int max_two min_two max_three min_three max_four min_four   -- for this text's walks alone
set_option linter.unusedVariables false
set_option linter.unusedSimpArgs false
def cutplaneref01_Of.f (k : Nat) (a0 : Int) : Option (List Int) := (cutplaneref01_Trim.f k (([(a0) % 4294967296, (a0 / 4294967296) % 4294967296] : List Int))).bind fun t627 => (some t627)
theorem cutplaneref01_Of.mono : ∀ a0 k, LeO (cutplaneref01_Of.f k a0) (cutplaneref01_Of.f (k + 1) a0) := by
 intro a0 k
 unfold cutplaneref01_Of.f
 repeat' first
   | (with_reducible exact cutplaneref01_Trim.mono _ _)
   | (with_reducible exact LeO.refl _)
   | (with_reducible exact LeO.none _)
   | (with_reducible refine LeO.ite ?_ ?_)
   | (with_reducible refine LeO.bind ?_ (fun _ => ?_))
   | exact cutplaneref01_Trim.mono _ _
   | exact LeO.none _
   | refine LeO.ite ?_ ?_
   | refine LeO.bind ?_ (fun _ => ?_)
theorem cutplaneref01_Of.calls (k : Nat) (a0 : Int) (r : List Int) (w : World) (h : cutplaneref01_Of.f k a0 = some r) :
  Calls Try.prog 95 #[.int .u64 a0] w fun e w' => ∃ v0_ : Value, e = .returned (v0_) ∧ Kd.V (Kd.int .u32) 66 w' w.heap.size (fun k_ => (w.heap.size ≤ k_)) v0_ r ∧ Below w.heap.size w w' := by
 have HB := A0_ (Below.refl w.heap.size w)
 have H := h
 clear h
 unfold cutplaneref01_Of.f at H
 obtain ⟨y624, hy624⟩ : ∃ y_ : List Int, y_ = (([(a0) % 4294967296, (a0 / 4294967296) % 4294967296] : List Int)) := ⟨_, rfl⟩
 replace H : ((cutplaneref01_Trim.f k y624).bind fun t627 => (some t627)) = some r := by first | (rw [hy624]; with_reducible exact H) | (have H2_ := (Option.bind_some _ _).symm.trans H; rw [hy624]; with_reducible exact H2_) | (have H2_ := (Option.bind_some _ _).symm.trans H; with_reducible exact H2_) | with_reducible exact H | (rw [hy624]; exact H) | exact H
 have Ny624 := A0_ hy624
 clear hy624
 obtain ⟨t627, A2, H⟩ := bs_ H
 try dsimp -simprocs only at H
 obtain rfl := Option.some.inj H
 go_enter Try.func95, Try.ntmps95
 go_wp2_with (first | ((with_reducible refine gate_dst (N := 8) rfl ?_); refine Kd.R_lit (Kd.int .u32) _ 66 ?hg (N := 8) ?hd (xs := ([(a0) % 4294967296, (a0 / 4294967296) % 4294967296] : List Int)) (inner := [.int .u32 ((a0) % 4294967296), .int .u32 ((a0 / 4294967296) % 4294967296)]) (ok := fun _ => True) (okp := fun _ => True) ?hr ?hp (fun _ hk => hk) trivial (Below.refl _ _) (Nat.le_refl _) (by simp) ?_; (case hd => rfl); (case hg => rfl); (case hr => first | (go_simp; done) | (go_simp; rfl)); (case hp => exact (Reps.one (show Kd.M (Kd.int .u32) _ _ _ ((a0) % 4294967296) [.int .u32 ((a0) % 4294967296)] from rfl) (Reps.one (show Kd.M (Kd.int .u32) _ _ _ ((a0 / 4294967296) % 4294967296) [.int .u32 ((a0 / 4294967296) % 4294967296)] from rfl) (Reps.none _ _)))); intro v625 w3 ho4 hb hg_ hnew_; clear hg_ hnew_; (first | rw [← Ny624.out] at ho4 | (simp only [Int.reduceToNat] at ho4; rw [← Ny624.out] at ho4)); have HO626 := A0_ (Kd.R_lower (Kd.R_newM (M := fun k_ => (w.heap.size ≤ k_)) ho4 (below_size (qm_ HB.out)) (fun k_ h_ => h_)) (below_size (qm_ HB.out))); replace HB := hs_ hb; clear hb ho4; obtain ⟨Ao5, co5, eo5⟩ := Kd.R_slice HO626.out; subst eo5) | ((with_reducible refine gate_callee (f := 110) rfl ?_); refine goesL_ (some 9) rfl rfl Try.func110 (by kernel_rfl) rfl #[.slice Ao5 y624.length co5] rfl (am_ rfl) ?_; (with_reducible refine (cutplaneref01_Trim.calls k (fun k_ => some k_ = (.slice Ao5 y624.length co5 : Value).ownBlock) _ _ y624 t627 _ ?side1 A2.out).mono ?_); (case side1 => exact Kd.R_V (Kd.R_tight rfl (HO626.out))); rintro e w6 ⟨v628, rfl, ho0, hb⟩; refine ⟨_, rfl, ?_⟩; have HO629 := A0_ (Kd.V_lower (Kd.V_mono (ok' := fun k_ => (w.heap.size ≤ k_)) ho0 (fun k_ hk_ => Or.elim hk_ (fun hs_ => ((HO626.out).1 k_ hs_.symm).1) (fun hn_ => (Nat.le_trans (below_size (qm_ HB.out)) hn_)))) (below_size (qm_ HB.out))); replace HO626 := A0_ (Kd.R_below (by exact rm_ HO626.out) hb); replace HB := hs_ hb; (try clear hb); (try clear ho0)))
 go_ret
 exact ⟨_, by first | rfl | (simp [errW_none, errW_some] <;> rfl) | (simp [*, errW_none, errW_some] <;> rfl), by (with_reducible repeat (first | apply Kd.V_alloc | apply Kd.V_drewN | apply Kd.V_drew)); exact HO629.out, qm_ HB.out⟩
end Go.Proofs.Ytlgapmhjaaajfaa.PA
end

section
namespace Go.Proofs.Ytlgapmhjaaajfaa.PA
open Go.RowKit Go.Proofs.YtlgapmhjaaajfaaW.PrintWords Go.Proofs.YtlgapmhjaaajfaaW.PrintLast Go.Proofs.YtlgapmhjaaajfaaW.PrintMore
attribute [local go_sem] max2_int min2_int max_two min_two max_three min_three max_four min_four   -- for this text's walks alone
set_option linter.unusedVariables false
set_option linter.unusedSimpArgs false
def cutplaneref03_Value.f (k : Nat) (a0 : Int) (a1 : Int) : Option (Bool × List Int × Int) := (cutplaneref03_Split.f a0 a1).bind fun bt631 => (if bt631.2.1 = 0 then ((cutplaneref01_Of.f k bt631.2.2).bind fun t635 => ((cutplaneref03_Low.f a0).bind fun t638 => ((cutplaneref02_Form.f k bt631.1 t635 t638).bind fun bt639 => (some (bt639.1, bt639.2.1, bt639.2.2))))) else ((cutplaneref03_Frac.f a0).bind fun t644 => (if 0 ≤ t644 then ((cutplaneref01_Of.f k (IntKind.u64.wrap ((shl .u64 1 t644) + bt631.2.2))).bind fun t645 => ((cutplaneref03_Low.f a0).bind fun t648 => ((cutplaneref02_Form.f k bt631.1 t645 (wrap64 ((wrap64 (bt631.2.1 - 1)) + t648))).bind fun bt649 => (some (bt649.1, bt649.2.1, bt649.2.2))))) else (none))))
theorem cutplaneref03_Value.mono : ∀ a0 a1 k, LeO (cutplaneref03_Value.f k a0 a1) (cutplaneref03_Value.f (k + 1) a0 a1) := by
 intro a0 a1 k
 unfold cutplaneref03_Value.f
 repeat' first
   | (with_reducible exact cutplaneref01_Of.mono _ _)
   | (with_reducible exact cutplaneref02_Form.mono _ _ _ _)
   | (with_reducible exact LeO.refl _)
   | (with_reducible exact LeO.none _)
   | (with_reducible refine LeO.ite ?_ ?_)
   | (with_reducible refine LeO.bind ?_ (fun _ => ?_))
   | exact cutplaneref01_Of.mono _ _
   | exact cutplaneref02_Form.mono _ _ _ _
   | exact LeO.none _
   | refine LeO.ite ?_ ?_
   | refine LeO.bind ?_ (fun _ => ?_)
def cutplaneref03_Value.T3 : Bool × List (List Nat × List Nat) := (true, [([], []), ([0], [0]), ([], []), ([2], [2]), ([3], [3]), ([], []), ([5, 4], [5]), ([1, 4, 6, 6], [1, 4, 6]), ([7, 7, 0, 1, 2, 3, 4, 5, 6, 7], [7])])
def cutplaneref03_Value.B3 : List Nat := [0, 1, 0, 4, 12, 0, 60, 127, 255]
theorem cutplaneref03_Value.tab3 : rtab .any (opsOf Try.f74 3) = cutplaneref03_Value.T3 := by kernel_rfl
theorem cutplaneref03_Value.bits3 : waitsOk cutplaneref03_Value.T3.2 cutplaneref03_Value.B3 = true := by kernel_rfl
def cutplaneref03_Value.T4 : Bool × List (List Nat × List Nat) := (true, [([], []), ([0], [0]), ([], []), ([2], [2]), ([3], [3]), ([], []), ([5], [5]), ([4, 6], [4, 6]), ([7, 3], [7]), ([], []), ([9], [9]), ([10], [10]), ([], []), ([12, 8], [12]), ([11, 13], [11, 13]), ([1, 8, 14, 13], [1, 8, 14]), ([15, 15, 0, 1, 2, 3, 4, 5, 6, 7, 8, 9, 10, 11, 12, 13, 14, 15], [15])])
def cutplaneref03_Value.B4 : List Nat := [0, 1, 0, 4, 12, 0, 32, 124, 252, 0, 512, 1536, 0, 4604, 16380, 32767, 65535]
theorem cutplaneref03_Value.tab4 : rtab .any (opsOf Try.f74 4) = cutplaneref03_Value.T4 := by kernel_rfl
theorem cutplaneref03_Value.bits4 : waitsOk cutplaneref03_Value.T4.2 cutplaneref03_Value.B4 = true := by kernel_rfl
theorem cutplaneref03_Value.calls (k : Nat) (a0 : Int) (a1 : Int) (r1 : Bool) (r2 : List Int) (r3 : Int) (w : World) (h : cutplaneref03_Value.f k a0 a1 = some (r1, r2, r3)) :
  Calls Try.prog 74 #[.int .u8 a0, .int .u64 a1] w fun e w' => ∃ v1_ : Value, e = .returned (.agg #[.bool r1, v1_, .int .i64 r3]) ∧ Kd.V (Kd.int .u32) 66 w' w.heap.size (fun k_ => (w.heap.size ≤ k_)) v1_ r2 ∧ Below w.heap.size w w' := by
 have hu69 := Try.underlying69
 have hu93 := Try.underlying93
 have HB := A0_ (Below.refl w.heap.size w)
 have H := h
 clear h
 unfold cutplaneref03_Value.f at H
 obtain ⟨⟨t631, t632, t633⟩, A3, H⟩ := bs_ H
 try dsimp -simprocs only at H
 by_cases c4 : t632 = 0
 ·rw [if_pos c4] at H
  have c4b0 : (t632 == 0) = true := beq_iff_eq.mpr c4
  have c4b1 : (t632 != 0) = false := bne_eq_false_iff_eq.mpr c4
  clear c4
  obtain ⟨t635, A5, H⟩ := bs_ H
  try dsimp -simprocs only at H
  obtain ⟨t638, A6, H⟩ := bs_ H
  try dsimp -simprocs only at H
  obtain ⟨⟨t639, t640, t643⟩, A7, H⟩ := bs_ H
  try dsimp -simprocs only at H
  simp only [Option.some.injEq, Prod.mk.injEq] at H
  obtain ⟨rfl, rfl, rfl⟩ := H
  go_enter Try.func74, Try.ntmps74
  try go_wp2_with (first | ((with_reducible refine gate_dst (N := 4) rfl ?_); refine box_event ?hg (N := 4) ?hd (cs := #[.bool false, .slice none 0 0, .int .i64 0]) (t := 69) ?hr ?_; (case hd => rfl); (case hg => rfl); (case hr => first | (go_simp; done) | (go_simp; rfl)); intro gb630 hg w8 hbox hb; have BK630 := A0_ (hbox); have GW630 := A0_ ((by rw [hg]; exact (below_size (qm_ HB.out)) : w.heap.size ≤ gb630)); have GE630 := GW630; replace HB := hs_ hb; clear hb hbox hg) | ((with_reducible refine gate_callee (f := 46) rfl ?_); refine goesL_ (some 8) rfl rfl Try.func46 (by kernel_rfl) rfl #[.int .u8 a0, .int .u64 a1] rfl (am_ rfl) ?_; (with_reducible refine (cutplaneref03_Split.calls a0 a1 t631 t632 t633 _ A3.out).mono ?_); rintro e w9 ⟨rfl, hb⟩; refine ⟨_, rfl, ?_⟩; replace BK630 := bb_ BK630 hb; replace HB := hs_ hb; (try clear hb)) | ((with_reducible refine gate_dst (N := 5) rfl ?_); refine box_event ?hg (N := 5) ?hd (cs := #[.bool false, .int .i64 0, .int .u64 0]) (t := 93) ?hr ?_; (case hd => rfl); (case hg => rfl); (case hr => first | (go_simp; done) | (go_simp; rfl)); intro gb634 hg w10 hbox hb; have BK634 := A0_ (hbox); have GW634 := A0_ ((by rw [hg]; exact (below_size qz_) : w.heap.size ≤ gb634)); have GE634 := GW634; replace HB := hs_ hb; have NB630_634 := nl_ hg BK630; have NB634_630 := ng_ hg BK630; replace BK630 := bb_ BK630 hb; clear hb hbox hg; have hnb11 := NB634_630.out; have hnc11 := NB630_634.out; have hcz12 := bc3_ BK634.out; have hfz12 := bf3_ BK634.out))
  have n0_ : Aside0 ((((w10.setCell ⟨gb634, 0, none⟩ (.bool t631)).setCell ⟨gb634, 1, none⟩ (.int .i64 t632)).setCell ⟨gb634, 2, none⟩ (.int .u64 t633)).heap[gb630]? = some (.cells #[.bool false, .slice none 0 0, .int .i64 0] 69 (0, 0))) := ⟨by (with_reducible repeat first | apply bN_ | apply bD_ | apply bA_); refine blk_far ?_ NB630_634.out _; refine blk_far ?_ NB630_634.out _; refine blk_far ?_ NB630_634.out _; exact bm_ BK630.out⟩
  have n1_ : Aside0 ((((w10.setCell ⟨gb634, 0, none⟩ (.bool t631)).setCell ⟨gb634, 1, none⟩ (.int .i64 t632)).setCell ⟨gb634, 2, none⟩ (.int .u64 t633)).heap[gb634]? = some (.cells #[.bool t631, .int .i64 t632, .int .u64 t633] 93 (0, 0))) := ⟨by (with_reducible repeat first | apply bN_ | apply bD_ | apply bA_); refine blk_put (cs := #[.bool t631, .int .i64 t632, .int .u64 0]) ?_ 2 _ rfl; refine blk_put (cs := #[.bool t631, .int .i64 0, .int .u64 0]) ?_ 1 _ rfl; refine blk_put (cs := #[.bool false, .int .i64 0, .int .u64 0]) ?_ 0 _ rfl; exact bm_ BK634.out⟩
  have n2_ : Aside0 (Below w.heap.size w (((w10.setCell ⟨gb634, 0, none⟩ (.bool t631)).setCell ⟨gb634, 1, none⟩ (.int .i64 t632)).setCell ⟨gb634, 2, none⟩ (.int .u64 t633))) := ⟨qz_⟩
  (try clear BK630)
  (try clear BK634)
  (try clear HB)
  generalize (((w10.setCell ⟨gb634, 0, none⟩ (.bool t631)).setCell ⟨gb634, 1, none⟩ (.int .i64 t632)).setCell ⟨gb634, 2, none⟩ (.int .u64 t633)) = w13 at n0_ n1_ n2_ ⊢
  have BK630 := n0_
  have BK634 := n1_
  have HB := n2_
  clear n0_ n1_ n2_
  replace BK630 := A0_ (blk_drew BK630.out)
  replace BK634 := A0_ (blk_drew BK634.out)
  replace HB := A0_ (below_drew1 HB.out)
  refine start_ (n := 9) (S := fun w' => w'.cell? ⟨gb634, 0, none⟩ = some (.bool t631) ∧ w'.cell? ⟨gb634, 1, none⟩ = some (.int .i64 t632) ∧ w'.cell? ⟨gb634, 2, none⟩ = some (.int .u64 t633)) (ds := []) #[false, false, false, false, false, false, false, false, false] (by kernel_rfl) rfl rfl ⟨bC_ BK634.out 0, bC_ BK634.out 1, bC_ BK634.out 2⟩ (fun hHeld => ?_); refine with_tabW cutplaneref03_Value.tab3 cutplaneref03_Value.bits3 (fun HT_ HW_ => ?_)
  generalize w13.drew = w14 at BK630 BK634 HB hHeld ⊢
  refine pure_ (i := 0) (N := some 12) (v := ?_) (a' := ?_) #[true, false, false, false, false, false, false, false, false] rfl rfl (any_of HT_.out (by kernel_rfl)) (fun _ _ _ h => h) (Or.inl ⟨by rfl, ?_⟩) ?_ ?_
  rotate_left
  ·intro w'
   go_simp
   with_reducible rfl
  rotate_left
  ·simp only [Act.put, sp_, i64_w, i32_w]
   rfl
  refine pure_ (i := 2) (N := some 14) (v := ?_) (a' := ?_) #[true, false, true, false, false, false, false, false, false] rfl rfl (any_of HT_.out (by kernel_rfl)) (fun _ _ _ h => h) (Or.inl ⟨by rfl, ?_⟩) ?_ ?_
  rotate_left
  ·intro w'
   go_simp
   with_reducible rfl
  rotate_left
  ·simp only [Act.put, sp_, i64_w, i32_w]
   rfl
  refine pure_ (i := 5) (N := some 17) (v := ?_) (a' := ?_) #[true, false, true, false, false, true, false, false, false] rfl rfl (any_of HT_.out (by kernel_rfl)) (fun _ _ _ h => h) (Or.inl ⟨by rfl, ?_⟩) ?_ ?_
  rotate_left
  ·intro w'
   go_simp
   with_reducible rfl
  rotate_left
  ·simp only [Act.put, sp_, i64_w, i32_w]
   rfl
  refine take_ (i := 1) (N := some 13) (v := ?_) (a' := ?_) #[true, true, true, false, false, true, false, false, false] rfl rfl (take_ofW HT_.out HW_.out (by kernel_rfl)) (fun _ _ _ h => h) (Or.inl ⟨by rfl, ?_⟩) hHeld ?_ ?_
  rotate_left
  ·rintro w' ⟨s0, s1, s2⟩
   go_simp
   with_reducible rfl
  rotate_left
  ·simp only [Act.put, sp_, i64_w, i32_w]
   rfl
  refine take_ (i := 3) (N := some 15) (v := ?_) (a' := ?_) #[true, true, true, true, false, true, false, false, false] rfl rfl (take_ofW HT_.out HW_.out (by kernel_rfl)) (fun _ _ _ h => h) (Or.inl ⟨by rfl, ?_⟩) hHeld ?_ ?_
  rotate_left
  ·rintro w' ⟨s0, s1, s2⟩
   go_simp
   with_reducible rfl
  rotate_left
  ·simp only [Act.put, sp_, i64_w, i32_w]
   rfl
  refine one_ (i := 4) (N := some 16) #[true, true, true, true, true, true, false, false, false] rfl rfl (one_of HT_.out (by kernel_rfl)) (by decide) (fun K hK => ?_)
  refine goes_ Try.func95 (by kernel_rfl) rfl #[.int .u64 t633] (by rfl) rfl rfl (am_ rfl) ?_
  with_reducible refine (cutplaneref01_Of.calls k t633 t635 _ A5.out).mono ?_
  rintro e w15 ⟨v636, rfl, ho0, hb⟩
  refine ⟨_, rfl, ?_⟩
  have HO637 := A0_ (Kd.V_lower (Kd.V_mono (ok' := fun k_ => (w.heap.size ≤ k_) ∧ k_ ≠ gb630 ∧ k_ ≠ gb634) ho0 (fun k_ hk_ => ⟨(Nat.le_trans (below_size qz_) hk_), (Kd.freshB (bm_ BK630.out) k_ hk_), (Kd.freshB (bm_ BK634.out) k_ hk_)⟩)) (below_size qz_))
  replace BK630 := bb_ BK630 hb
  replace BK634 := bb_ BK634 hb
  replace HB := hs_ hb
  (try clear hb)
  (try clear ho0)
  refine hK.out _ _ ⟨bC_ BK634.out 0, bC_ BK634.out 1, bC_ BK634.out 2⟩ (fun hHeld => ?_)
  clear hK K
  refine norm_ (a' := ?_) ?_ ?_
  rotate_left
  ·show Act.put _ (some 16) _ = _
   simp only [Act.put, sp_, i64_w, i32_w]
   rfl
  refine one_ (i := 6) (N := some 18) #[true, true, true, true, true, true, true, false, false] rfl rfl (one_of HT_.out (by kernel_rfl)) (by decide) (fun K hK => ?_)
  refine goes_ Try.func86 (by kernel_rfl) rfl #[.int .u8 a0] (by rfl) rfl rfl (am_ rfl) ?_
  with_reducible refine (cutplaneref03_Low.calls a0 t638 _ A6.out).mono ?_
  rintro e w' ⟨rfl, ⟨nd, rfl⟩⟩
  refine ⟨_, rfl, ?_⟩
  obtain ⟨Ao16, co16, eo16⟩ := Kd.V_slice HO637.out
  (first | subst eo16 | (injection eo16 with f1_ f2_ f3_; have f4_ := f1_.symm; have f5_ := f3_.symm; clear f1_ f2_ f3_; subst f4_; subst f5_))
  refine hK.out _ _ ⟨bC_ BK634.out 0, bC_ BK634.out 1, bC_ BK634.out 2⟩ (fun hHeld => ?_)
  clear hK K
  refine norm_ (a' := ?_) ?_ ?_
  rotate_left
  ·show Act.put _ (some 18) _ = _
   simp only [Act.put, sp_, i64_w, i32_w]
   rfl
  refine one_ (i := 7) (N := some 19) #[true, true, true, true, true, true, true, true, false] rfl rfl (one_of HT_.out (by kernel_rfl)) (by decide) (fun K hK => ?_)
  refine goes_ Try.func93 (by kernel_rfl) rfl #[.bool t631, .slice Ao16 t635.length co16, .int .i64 t638] (by rfl) rfl rfl (am_ rfl) ?_
  with_reducible refine (cutplaneref02_Form.calls k t631 _ _ t635 t638 t639 t640 t643 _ ?side1 ?side2 A7.out).mono ?_
  (case side1 => repeat (first | exact (Kd.V_reads' HO637.out).2.2 | (with_reducible refine Kd.C_alloc ?_ _) | (with_reducible refine Kd.C_drewN ?_ _) | (with_reducible refine Kd.C_drew ?_)))
  (case side2 => exact (Kd.V_reads' HO637.out).2.1)
  rintro e w17 ⟨v641, rfl, ho0, hb⟩
  refine ⟨_, rfl, ?_⟩
  replace HO637 := A0_ (Kd.V_below (by exact vm_ HO637.out) hb)
  have HO642 := A0_ (Kd.V_lower (Kd.V_mono (ok' := fun k_ => (w.heap.size ≤ k_) ∧ k_ ≠ gb630 ∧ k_ ≠ gb634) ho0 (fun k_ hk_ => ⟨(Nat.le_trans (below_size qz_) hk_), (Kd.freshB (bm_ BK630.out) k_ hk_), (Kd.freshB (bm_ BK634.out) k_ hk_)⟩)) (below_size qz_))
  replace BK630 := bb_ BK630 hb
  replace BK634 := bb_ BK634 hb
  replace HB := hs_ hb
  (try clear hb)
  (try clear ho0)
  obtain ⟨Ao19, co19, eo19⟩ := Kd.V_slice HO642.out
  (first | subst eo19 | (injection eo19 with f1_ f2_ f3_; have f4_ := f1_.symm; have f5_ := f3_.symm; clear f1_ f2_ f3_; subst f4_; subst f5_))
  refine hK.out _ _ ⟨bC_ BK634.out 0, bC_ BK634.out 1, bC_ BK634.out 2⟩ (fun hHeld => ?_)
  clear hK K
  refine norm_ (a' := ?_) ?_ ?_
  rotate_left
  ·show Act.put _ (some 19) _ = _
   simp only [Act.put, sp_, i64_w, i32_w]
   rfl
  refine one_ (i := 8) (N := none) #[true, true, true, true, true, true, true, true, true] rfl rfl (one_of HT_.out (by kernel_rfl)) (by decide) (fun K hK => ?_)
  have hs18 : w17.cell? ⟨gb630, 0, none⟩ = some (.bool false) := (blk_cell BK630.out 0).trans rfl
  have hfs18 := blk_frozen BK630.out 0
  have hns18_1 := NB634_630.out
  have hms18_1 := NB630_634.out
  have hs20 : w17.cell? ⟨gb630, 1, none⟩ = some (.slice none 0 0) := (blk_cell BK630.out 1).trans rfl
  have hfs20 := blk_frozen BK630.out 1
  have hns20_1 := NB634_630.out
  have hms20_1 := NB630_634.out
  have hs21 : w17.cell? ⟨gb630, 2, none⟩ = some (.int .i64 0) := (blk_cell BK630.out 2).trans rfl
  have hfs21 := blk_frozen BK630.out 2
  have hns21_1 := NB634_630.out
  have hms21_1 := NB630_634.out
  refine skip_ (w1 := ?_) (by rfl) rfl ?_ ?_
  rotate_left
  ·go_simp
   rfl
  refine hK.out _ _ ⟨((cell_far (p := ⟨gb630, _, none⟩) NB634_630.out _).trans (((cell_far (p := ⟨gb630, _, none⟩) NB634_630.out _).trans (((cell_far (p := ⟨gb630, _, none⟩) NB634_630.out _).trans (hHeld.1)))))), ((cell_far (p := ⟨gb630, _, none⟩) NB634_630.out _).trans (((cell_far (p := ⟨gb630, _, none⟩) NB634_630.out _).trans (((cell_far (p := ⟨gb630, _, none⟩) NB634_630.out _).trans (hHeld.2.1)))))), ((cell_far (p := ⟨gb630, _, none⟩) NB634_630.out _).trans (((cell_far (p := ⟨gb630, _, none⟩) NB634_630.out _).trans (((cell_far (p := ⟨gb630, _, none⟩) NB634_630.out _).trans (hHeld.2.2))))))⟩ (fun hHeld => ?_)
  clear hK K
  refine done_ (done_of HT_.out (by kernel_rfl)) ?_
  try go_wp2
  refine bodyPost_ret (results_cell_row rfl _ _ gb630 69 #[.bool t639, .slice Ao19 t640.length co19, .int .i64 t643] (0, 0) _ rfl (by (with_reducible repeat first | apply bN_ | apply bD_ | apply bA_); refine blk_put (cs := #[.bool t639, .slice Ao19 t640.length co19, .int .i64 0]) ?_ 2 _ rfl; refine blk_put (cs := #[.bool t639, .slice none 0 0, .int .i64 0]) ?_ 1 _ rfl; refine blk_put (cs := #[.bool false, .slice none 0 0, .int .i64 0]) ?_ 0 _ rfl; exact bm_ BK630.out) Try.underlying69 rfl (by kernel_rfl)) rfl ?_
  exact ⟨_, by first | rfl | (simp [errW_none, errW_some] <;> rfl) | (simp [*, errW_none, errW_some] <;> rfl), by (with_reducible repeat (first | apply Kd.V_alloc | apply Kd.V_drewN | apply Kd.V_drew)); exact Kd.V_mono (Kd.V_far (p := ⟨gb630, 2, none⟩) (Kd.V_far (p := ⟨gb630, 1, none⟩) (Kd.V_far (p := ⟨gb630, 0, none⟩) (Kd.V_mono HO642.out (fun k_ hk => (⟨hk, hk.2.1⟩ : _ ∧ k_ ≠ gb630))) (fun _ hk => hk.2) (.bool t639)) (fun _ hk => hk.2) (.slice Ao19 t640.length co19)) (fun _ hk => hk.2) (.int .i64 t643)) (fun _ hk => hk.1.1), qz_⟩
 ·rw [if_neg c4] at H
  have c4b0 : (t632 == 0) = false := beq_eq_false_iff_ne.mpr c4
  have c4b1 : (t632 != 0) = true := bne_iff_ne.mpr c4
  obtain ⟨t644, A22, H⟩ := bs_ H
  try dsimp -simprocs only at H
  obtain ⟨c23, H⟩ := ic_ H
  have c23b0 := eq_true c23
  have c23b1 : decide (0 ≤ t644) = true := decide_eq_true c23
  clear c23
  obtain ⟨ji24, hji24⟩ : ∃ j_ : Int, (shl .u64 1 t644) = j_ := ⟨_, rfl⟩
  replace H : ((cutplaneref01_Of.f k (IntKind.u64.wrap ((ji24) + t633))).bind fun t645 => ((cutplaneref03_Low.f a0).bind fun t648 => ((cutplaneref02_Form.f k t631 t645 (wrap64 ((wrap64 (t632 - 1)) + t648))).bind fun bt649 => (some (bt649.1, bt649.2.1, bt649.2.2))))) = some (r1, r2, r3) := by first | (rw [hji24] at H; exact H) | (simp only [hji24] at H ⊢; exact H)
  (try rw [hji24] at A3)
  (try rw [hji24] at A22)
  have hji24_ : (IntKind.u64.wrap (1 * 2 ^ min t644.toNat 64)) = ji24 := hji24
  have hji24z : t644 ≤ 64 → (IntKind.u64.wrap (1 * 2 ^ t644.toNat)) = ji24 := shl_small hji24
  have hji24u : (IntKind.u64.wrap (2 ^ min t644.toNat 64)) = ji24 := by have h_ := hji24_; rw [Int.one_mul] at h_; exact h_
  have hji24v : t644 ≤ 64 → (IntKind.u64.wrap (2 ^ t644.toNat)) = ji24 := fun hle_ => by have h_ := hji24z hle_; rw [Int.one_mul] at h_; exact h_
  obtain ⟨t645, A25, H⟩ := bs_ H
  try dsimp -simprocs only at H
  obtain ⟨t648, A26, H⟩ := bs_ H
  try dsimp -simprocs only at H
  obtain ⟨⟨t649, t650, t653⟩, A27, H⟩ := bs_ H
  try dsimp -simprocs only at H
  simp only [Option.some.injEq, Prod.mk.injEq] at H
  obtain ⟨rfl, rfl, rfl⟩ := H
  go_enter Try.func74, Try.ntmps74
  try go_wp2_with (first | ((with_reducible refine gate_dst (N := 4) rfl ?_); refine box_event ?hg (N := 4) ?hd (cs := #[.bool false, .slice none 0 0, .int .i64 0]) (t := 69) ?hr ?_; (case hd => rfl); (case hg => rfl); (case hr => first | (go_simp; done) | (go_simp; rfl)); intro gb630 hg w28 hbox hb; have BK630 := A0_ (hbox); have GW630 := A0_ ((by rw [hg]; exact (below_size (qm_ HB.out)) : w.heap.size ≤ gb630)); have GE630 := GW630; replace HB := hs_ hb; clear hb hbox hg) | ((with_reducible refine gate_callee (f := 46) rfl ?_); refine goesL_ (some 8) rfl rfl Try.func46 (by kernel_rfl) rfl #[.int .u8 a0, .int .u64 a1] rfl (am_ rfl) ?_; (with_reducible refine (cutplaneref03_Split.calls a0 a1 t631 t632 t633 _ A3.out).mono ?_); rintro e w29 ⟨rfl, hb⟩; refine ⟨_, rfl, ?_⟩; replace BK630 := bb_ BK630 hb; replace HB := hs_ hb; (try clear hb)) | ((with_reducible refine gate_dst (N := 5) rfl ?_); refine box_event ?hg (N := 5) ?hd (cs := #[.bool false, .int .i64 0, .int .u64 0]) (t := 93) ?hr ?_; (case hd => rfl); (case hg => rfl); (case hr => first | (go_simp; done) | (go_simp; rfl)); intro gb634 hg w30 hbox hb; have BK634 := A0_ (hbox); have GW634 := A0_ ((by rw [hg]; exact (below_size qz_) : w.heap.size ≤ gb634)); have GE634 := GW634; replace HB := hs_ hb; have NB630_634 := nl_ hg BK630; have NB634_630 := ng_ hg BK630; replace BK630 := bb_ BK630 hb; clear hb hbox hg; have hnb31 := NB634_630.out; have hnc31 := NB630_634.out; have hcz32 := bc3_ BK634.out; have hfz32 := bf3_ BK634.out))
  have n0_ : Aside0 ((((w30.setCell ⟨gb634, 0, none⟩ (.bool t631)).setCell ⟨gb634, 1, none⟩ (.int .i64 t632)).setCell ⟨gb634, 2, none⟩ (.int .u64 t633)).heap[gb630]? = some (.cells #[.bool false, .slice none 0 0, .int .i64 0] 69 (0, 0))) := ⟨by (with_reducible repeat first | apply bN_ | apply bD_ | apply bA_); refine blk_far ?_ NB630_634.out _; refine blk_far ?_ NB630_634.out _; refine blk_far ?_ NB630_634.out _; exact bm_ BK630.out⟩
  have n1_ : Aside0 ((((w30.setCell ⟨gb634, 0, none⟩ (.bool t631)).setCell ⟨gb634, 1, none⟩ (.int .i64 t632)).setCell ⟨gb634, 2, none⟩ (.int .u64 t633)).heap[gb634]? = some (.cells #[.bool t631, .int .i64 t632, .int .u64 t633] 93 (0, 0))) := ⟨by (with_reducible repeat first | apply bN_ | apply bD_ | apply bA_); refine blk_put (cs := #[.bool t631, .int .i64 t632, .int .u64 0]) ?_ 2 _ rfl; refine blk_put (cs := #[.bool t631, .int .i64 0, .int .u64 0]) ?_ 1 _ rfl; refine blk_put (cs := #[.bool false, .int .i64 0, .int .u64 0]) ?_ 0 _ rfl; exact bm_ BK634.out⟩
  have n2_ : Aside0 (Below w.heap.size w (((w30.setCell ⟨gb634, 0, none⟩ (.bool t631)).setCell ⟨gb634, 1, none⟩ (.int .i64 t632)).setCell ⟨gb634, 2, none⟩ (.int .u64 t633))) := ⟨qz_⟩
  (try clear BK630)
  (try clear BK634)
  (try clear HB)
  generalize (((w30.setCell ⟨gb634, 0, none⟩ (.bool t631)).setCell ⟨gb634, 1, none⟩ (.int .i64 t632)).setCell ⟨gb634, 2, none⟩ (.int .u64 t633)) = w33 at n0_ n1_ n2_ ⊢
  have BK630 := n0_
  have BK634 := n1_
  have HB := n2_
  clear n0_ n1_ n2_
  replace BK630 := A0_ (blk_drew BK630.out)
  replace BK634 := A0_ (blk_drew BK634.out)
  replace HB := A0_ (below_drew1 HB.out)
  refine start_ (n := 17) (S := fun w' => w'.cell? ⟨gb634, 0, none⟩ = some (.bool t631) ∧ w'.cell? ⟨gb634, 1, none⟩ = some (.int .i64 t632) ∧ w'.cell? ⟨gb634, 2, none⟩ = some (.int .u64 t633)) (ds := []) #[false, false, false, false, false, false, false, false, false, false, false, false, false, false, false, false, false] (by kernel_rfl) rfl rfl ⟨bC_ BK634.out 0, bC_ BK634.out 1, bC_ BK634.out 2⟩ (fun hHeld => ?_); refine with_tabW cutplaneref03_Value.tab4 cutplaneref03_Value.bits4 (fun HT_ HW_ => ?_)
  generalize w33.drew = w34 at BK630 BK634 HB hHeld ⊢
  refine pure_ (i := 0) (N := some 20) (v := ?_) (a' := ?_) #[true, false, false, false, false, false, false, false, false, false, false, false, false, false, false, false, false] rfl rfl (any_of HT_.out (by kernel_rfl)) (fun _ _ _ h => h) (Or.inl ⟨by rfl, ?_⟩) ?_ ?_
  rotate_left
  ·intro w'
   go_simp
   with_reducible rfl
  rotate_left
  ·simp only [Act.put, sp_, i64_w, i32_w]
   rfl
  refine pure_ (i := 2) (N := some 22) (v := ?_) (a' := ?_) #[true, false, true, false, false, false, false, false, false, false, false, false, false, false, false, false, false] rfl rfl (any_of HT_.out (by kernel_rfl)) (fun _ _ _ h => h) (Or.inl ⟨by rfl, ?_⟩) ?_ ?_
  rotate_left
  ·intro w'
   go_simp
   with_reducible rfl
  rotate_left
  ·simp only [Act.put, sp_, i64_w, i32_w]
   rfl
  refine pure_ (i := 5) (N := some 25) (v := ?_) (a' := ?_) #[true, false, true, false, false, true, false, false, false, false, false, false, false, false, false, false, false] rfl rfl (any_of HT_.out (by kernel_rfl)) (fun _ _ _ h => h) (Or.inl ⟨by rfl, ?_⟩) ?_ ?_
  rotate_left
  ·intro w'
   go_simp
   with_reducible rfl
  rotate_left
  ·simp only [Act.put, sp_, i64_w, i32_w]
   rfl
  refine pure_ (i := 9) (N := some 29) (v := ?_) (a' := ?_) #[true, false, true, false, false, true, false, false, false, true, false, false, false, false, false, false, false] rfl rfl (any_of HT_.out (by kernel_rfl)) (fun _ _ _ h => h) (Or.inl ⟨by rfl, ?_⟩) ?_ ?_
  rotate_left
  ·intro w'
   go_simp
   with_reducible rfl
  rotate_left
  ·simp only [Act.put, sp_, i64_w, i32_w]
   rfl
  refine pure_ (i := 12) (N := some 32) (v := ?_) (a' := ?_) #[true, false, true, false, false, true, false, false, false, true, false, false, true, false, false, false, false] rfl rfl (any_of HT_.out (by kernel_rfl)) (fun _ _ _ h => h) (Or.inl ⟨by rfl, ?_⟩) ?_ ?_
  rotate_left
  ·intro w'
   go_simp
   with_reducible rfl
  rotate_left
  ·simp only [Act.put, sp_, i64_w, i32_w]
   rfl
  refine take_ (i := 1) (N := some 21) (v := ?_) (a' := ?_) #[true, true, true, false, false, true, false, false, false, true, false, false, true, false, false, false, false] rfl rfl (take_ofW HT_.out HW_.out (by kernel_rfl)) (fun _ _ _ h => h) (Or.inl ⟨by rfl, ?_⟩) hHeld ?_ ?_
  rotate_left
  ·rintro w' ⟨s0, s1, s2⟩
   go_simp
   with_reducible rfl
  rotate_left
  ·simp only [Act.put, sp_, i64_w, i32_w]
   rfl
  refine take_ (i := 6) (N := some 26) (v := ?_) (a' := ?_) #[true, true, true, false, false, true, true, false, false, true, false, false, true, false, false, false, false] rfl rfl (take_ofW HT_.out HW_.out (by kernel_rfl)) (fun _ _ _ h => h) (Or.inl ⟨by rfl, ?_⟩) hHeld ?_ ?_
  rotate_left
  ·rintro w' ⟨s0, s1, s2⟩
   go_simp
   with_reducible rfl
  rotate_left
  ·simp only [Act.put, sp_, i64_w, i32_w]
   rfl
  refine take_ (i := 10) (N := some 30) (v := ?_) (a' := ?_) #[true, true, true, false, false, true, true, false, false, true, true, false, true, false, false, false, false] rfl rfl (take_ofW HT_.out HW_.out (by kernel_rfl)) (fun _ _ _ h => h) (Or.inl ⟨by rfl, ?_⟩) hHeld ?_ ?_
  rotate_left
  ·rintro w' ⟨s0, s1, s2⟩
   go_simp
   with_reducible rfl
  rotate_left
  ·simp only [Act.put, sp_, i64_w, i32_w]
   rfl
  refine pure_ (i := 11) (N := some 31) (v := ?_) (a' := ?_) #[true, true, true, false, false, true, true, false, false, true, true, true, true, false, false, false, false] rfl rfl (any_of HT_.out (by kernel_rfl)) (fun _ _ _ h => h) (Or.inl ⟨by rfl, ?_⟩) ?_ ?_
  rotate_left
  ·intro w'
   go_simp
   with_reducible rfl
  rotate_left
  ·simp only [Act.put, sp_, i64_w, i32_w]
   rfl
  refine one_ (i := 3) (N := some 23) #[true, true, true, true, false, true, true, false, false, true, true, true, true, false, false, false, false] rfl rfl (one_of HT_.out (by kernel_rfl)) (by decide) (fun K hK => ?_)
  refine goes_ Try.func66 (by kernel_rfl) rfl #[.int .u8 a0] (by rfl) rfl rfl (am_ rfl) ?_
  with_reducible refine (cutplaneref03_Frac.calls a0 t644 _ A22.out).mono ?_
  rintro e w' ⟨rfl, ⟨nd, rfl⟩⟩
  refine ⟨_, rfl, ?_⟩
  refine hK.out _ _ ⟨bC_ BK634.out 0, bC_ BK634.out 1, bC_ BK634.out 2⟩ (fun hHeld => ?_)
  clear hK K
  refine norm_ (a' := ?_) ?_ ?_
  rotate_left
  ·show Act.put _ (some 23) _ = _
   simp only [Act.put, sp_, i64_w, i32_w]
   rfl
  refine pure_ (i := 4) (N := some 24) (v := ?_) (a' := ?_) #[true, true, true, true, true, true, true, false, false, true, true, true, true, false, false, false, false] rfl rfl (any_of HT_.out (by kernel_rfl)) (fun _ _ _ h => h) (Or.inl ⟨by rfl, ?_⟩) ?_ ?_
  rotate_left
  ·intro w'
   go_simp
   with_reducible rfl
  rotate_left
  ·simp only [Act.put, sp_, i64_w, i32_w]
   rfl
  refine pure_ (i := 7) (N := some 27) (v := ?_) (a' := ?_) #[true, true, true, true, true, true, true, true, false, true, true, true, true, false, false, false, false] rfl rfl (any_of HT_.out (by kernel_rfl)) (fun _ _ _ h => h) (Or.inl ⟨by rfl, ?_⟩) ?_ ?_
  rotate_left
  ·intro w'
   go_simp
   with_reducible rfl
  rotate_left
  ·simp only [Act.put, sp_, i64_w, i32_w]
   rfl
  refine one_ (i := 8) (N := some 28) #[true, true, true, true, true, true, true, true, true, true, true, true, true, false, false, false, false] rfl rfl (one_of HT_.out (by kernel_rfl)) (by decide) (fun K hK => ?_)
  refine goes_ Try.func95 (by kernel_rfl) rfl #[.int .u64 (IntKind.u64.wrap ((ji24) + t633))] (by rfl) rfl rfl (by (try simp only [List.map_toArray, List.map_cons, List.map_nil]); first | done | (simp only [hji24]; rfl) | rfl | (simp only [List.length_drop, List.length_take]; rfl)) ?_
  with_reducible refine (cutplaneref01_Of.calls k (IntKind.u64.wrap ((ji24) + t633)) t645 _ A25.out).mono ?_
  rintro e w35 ⟨v646, rfl, ho0, hb⟩
  refine ⟨_, rfl, ?_⟩
  have HO647 := A0_ (Kd.V_lower (Kd.V_mono (ok' := fun k_ => (w.heap.size ≤ k_) ∧ k_ ≠ gb630 ∧ k_ ≠ gb634) ho0 (fun k_ hk_ => ⟨(Nat.le_trans (below_size qz_) hk_), (Kd.freshB (bm_ BK630.out) k_ hk_), (Kd.freshB (bm_ BK634.out) k_ hk_)⟩)) (below_size qz_))
  replace BK630 := bb_ BK630 hb
  replace BK634 := bb_ BK634 hb
  replace HB := hs_ hb
  (try clear hb)
  (try clear ho0)
  refine hK.out _ _ ⟨bC_ BK634.out 0, bC_ BK634.out 1, bC_ BK634.out 2⟩ (fun hHeld => ?_)
  clear hK K
  refine norm_ (a' := ?_) ?_ ?_
  rotate_left
  ·show Act.put _ (some 28) _ = _
   simp only [Act.put, sp_, i64_w, i32_w]
   rfl
  refine one_ (i := 13) (N := some 33) #[true, true, true, true, true, true, true, true, true, true, true, true, true, true, false, false, false] rfl rfl (one_of HT_.out (by kernel_rfl)) (by decide) (fun K hK => ?_)
  refine goes_ Try.func86 (by kernel_rfl) rfl #[.int .u8 a0] (by rfl) rfl rfl (am_ rfl) ?_
  with_reducible refine (cutplaneref03_Low.calls a0 t648 _ A26.out).mono ?_
  rintro e w' ⟨rfl, ⟨nd, rfl⟩⟩
  refine ⟨_, rfl, ?_⟩
  obtain ⟨Ao36, co36, eo36⟩ := Kd.V_slice HO647.out
  (first | subst eo36 | (injection eo36 with f1_ f2_ f3_; have f4_ := f1_.symm; have f5_ := f3_.symm; clear f1_ f2_ f3_; subst f4_; subst f5_))
  refine hK.out _ _ ⟨bC_ BK634.out 0, bC_ BK634.out 1, bC_ BK634.out 2⟩ (fun hHeld => ?_)
  clear hK K
  refine norm_ (a' := ?_) ?_ ?_
  rotate_left
  ·show Act.put _ (some 33) _ = _
   simp only [Act.put, sp_, i64_w, i32_w]
   rfl
  refine pure_ (i := 14) (N := some 34) (v := ?_) (a' := ?_) #[true, true, true, true, true, true, true, true, true, true, true, true, true, true, true, false, false] rfl rfl (any_of HT_.out (by kernel_rfl)) (fun _ _ _ h => h) (Or.inl ⟨by rfl, ?_⟩) ?_ ?_
  rotate_left
  ·intro w'
   go_simp
   with_reducible rfl
  rotate_left
  ·simp only [Act.put, sp_, i64_w, i32_w]
   rfl
  refine one_ (i := 15) (N := some 35) #[true, true, true, true, true, true, true, true, true, true, true, true, true, true, true, true, false] rfl rfl (one_of HT_.out (by kernel_rfl)) (by decide) (fun K hK => ?_)
  refine goes_ Try.func93 (by kernel_rfl) rfl #[.bool t631, .slice Ao36 t645.length co36, .int .i64 (wrap64 ((wrap64 (t632 - 1)) + t648))] (by rfl) rfl rfl (am_ rfl) ?_
  with_reducible refine (cutplaneref02_Form.calls k t631 _ _ t645 (wrap64 ((wrap64 (t632 - 1)) + t648)) t649 t650 t653 _ ?side1 ?side2 A27.out).mono ?_
  (case side1 => repeat (first | exact (Kd.V_reads' HO647.out).2.2 | (with_reducible refine Kd.C_alloc ?_ _) | (with_reducible refine Kd.C_drewN ?_ _) | (with_reducible refine Kd.C_drew ?_)))
  (case side2 => exact (Kd.V_reads' HO647.out).2.1)
  rintro e w37 ⟨v651, rfl, ho0, hb⟩
  refine ⟨_, rfl, ?_⟩
  replace HO647 := A0_ (Kd.V_below (by exact vm_ HO647.out) hb)
  have HO652 := A0_ (Kd.V_lower (Kd.V_mono (ok' := fun k_ => (w.heap.size ≤ k_) ∧ k_ ≠ gb630 ∧ k_ ≠ gb634) ho0 (fun k_ hk_ => ⟨(Nat.le_trans (below_size qz_) hk_), (Kd.freshB (bm_ BK630.out) k_ hk_), (Kd.freshB (bm_ BK634.out) k_ hk_)⟩)) (below_size qz_))
  replace BK630 := bb_ BK630 hb
  replace BK634 := bb_ BK634 hb
  replace HB := hs_ hb
  (try clear hb)
  (try clear ho0)
  obtain ⟨Ao39, co39, eo39⟩ := Kd.V_slice HO652.out
  (first | subst eo39 | (injection eo39 with f1_ f2_ f3_; have f4_ := f1_.symm; have f5_ := f3_.symm; clear f1_ f2_ f3_; subst f4_; subst f5_))
  refine hK.out _ _ ⟨bC_ BK634.out 0, bC_ BK634.out 1, bC_ BK634.out 2⟩ (fun hHeld => ?_)
  clear hK K
  refine norm_ (a' := ?_) ?_ ?_
  rotate_left
  ·show Act.put _ (some 35) _ = _
   simp only [Act.put, sp_, i64_w, i32_w]
   rfl
  refine one_ (i := 16) (N := none) #[true, true, true, true, true, true, true, true, true, true, true, true, true, true, true, true, true] rfl rfl (one_of HT_.out (by kernel_rfl)) (by decide) (fun K hK => ?_)
  have hs38 : w37.cell? ⟨gb630, 0, none⟩ = some (.bool false) := (blk_cell BK630.out 0).trans rfl
  have hfs38 := blk_frozen BK630.out 0
  have hns38_1 := NB634_630.out
  have hms38_1 := NB630_634.out
  have hs40 : w37.cell? ⟨gb630, 1, none⟩ = some (.slice none 0 0) := (blk_cell BK630.out 1).trans rfl
  have hfs40 := blk_frozen BK630.out 1
  have hns40_1 := NB634_630.out
  have hms40_1 := NB630_634.out
  have hs41 : w37.cell? ⟨gb630, 2, none⟩ = some (.int .i64 0) := (blk_cell BK630.out 2).trans rfl
  have hfs41 := blk_frozen BK630.out 2
  have hns41_1 := NB634_630.out
  have hms41_1 := NB630_634.out
  refine skip_ (w1 := ?_) (by rfl) rfl ?_ ?_
  rotate_left
  ·go_simp
   rfl
  refine hK.out _ _ ⟨((cell_far (p := ⟨gb630, _, none⟩) NB634_630.out _).trans (((cell_far (p := ⟨gb630, _, none⟩) NB634_630.out _).trans (((cell_far (p := ⟨gb630, _, none⟩) NB634_630.out _).trans (hHeld.1)))))), ((cell_far (p := ⟨gb630, _, none⟩) NB634_630.out _).trans (((cell_far (p := ⟨gb630, _, none⟩) NB634_630.out _).trans (((cell_far (p := ⟨gb630, _, none⟩) NB634_630.out _).trans (hHeld.2.1)))))), ((cell_far (p := ⟨gb630, _, none⟩) NB634_630.out _).trans (((cell_far (p := ⟨gb630, _, none⟩) NB634_630.out _).trans (((cell_far (p := ⟨gb630, _, none⟩) NB634_630.out _).trans (hHeld.2.2))))))⟩ (fun hHeld => ?_)
  clear hK K
  refine done_ (done_of HT_.out (by kernel_rfl)) ?_
  try go_wp2
  refine bodyPost_ret (results_cell_row rfl _ _ gb630 69 #[.bool t649, .slice Ao39 t650.length co39, .int .i64 t653] (0, 0) _ rfl (by (with_reducible repeat first | apply bN_ | apply bD_ | apply bA_); refine blk_put (cs := #[.bool t649, .slice Ao39 t650.length co39, .int .i64 0]) ?_ 2 _ rfl; refine blk_put (cs := #[.bool t649, .slice none 0 0, .int .i64 0]) ?_ 1 _ rfl; refine blk_put (cs := #[.bool false, .slice none 0 0, .int .i64 0]) ?_ 0 _ rfl; exact bm_ BK630.out) Try.underlying69 rfl (by kernel_rfl)) rfl ?_
  exact ⟨_, by first | rfl | (simp [errW_none, errW_some] <;> rfl) | (simp only [← hji24]; first | rfl | (simp [errW_none, errW_some] <;> rfl)) | (simp [*, errW_none, errW_some] <;> rfl), by (with_reducible repeat (first | apply Kd.V_alloc | apply Kd.V_drewN | apply Kd.V_drew)); exact Kd.V_mono (Kd.V_far (p := ⟨gb630, 2, none⟩) (Kd.V_far (p := ⟨gb630, 1, none⟩) (Kd.V_far (p := ⟨gb630, 0, none⟩) (Kd.V_mono HO652.out (fun k_ hk => (⟨hk, hk.2.1⟩ : _ ∧ k_ ≠ gb630))) (fun _ hk => hk.2) (.bool t649)) (fun _ hk => hk.2) (.slice Ao39 t650.length co39)) (fun _ hk => hk.2) (.int .i64 t653)) (fun _ hk => hk.1.1), qz_⟩
end Go.Proofs.Ytlgapmhjaaajfaa.PA
end
