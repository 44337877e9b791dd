/- Steps of Go functions that the law SpecialProducts uses, told as plain Lean functions, each with the proof that its call comes to what it tells; words on memory; plain facts. No condition beyond those that each text names. -/
import Derived.Test.YtlgapmhjaaajfaaProg
import Derived.WalkMore
import Derived.Test.YtlgapmhjaaajfaaSSpecialProducts0
import Derived.Test.YtlgapmhjaaajfaaSSpecialProducts1
import Derived.Test.YtlgapmhjaaajfaaSSpecialProducts5
import Derived.Test.YtlgapmhjaaajfaaSSpecialProducts6
set_option maxHeartbeats 2000000
set_option maxRecDepth 100000
section
namespace Go.Proofs.Ytlgapmhjaaajfaa.PA
open Go.RowKit Go.Proofs.YtlgapmhjaaajfaaW.PrintWords Go.Proofs.YtlgapmhjaaajfaaW.PrintLast Go.Proofs.YtlgapmhjaaajfaaW.PrintMore
attribute [local go_sem] max2_int min2_int max_two min_two max_three min_three max_four min_four   -- for this text's walks alone
set_option linter.unusedVariables false
set_option linter.unusedSimpArgs false
def cutplaneref01_Up.l0 : Nat → List Int → List Int → Int → Int → Int → Option (List Int)
 | 0, _, _, _, _, _ => none
 | k + 1, x0, x5, x6, x7, x8 => if x8 < (x0.length : Int) then (if 0 ≤ x8 then (if 0 ≤ x6 then (if x5.length < 35184372088832 then (cutplaneref01_Up.l0 k x0 (x5 ++ [(Go.bits .or .u64 x7 (shl .u64 (IntKind.u64.wrap (rd x0 x8)) x6)) % 4294967296]) x6 ((Go.bits .or .u64 x7 (shl .u64 (IntKind.u64.wrap (rd x0 x8)) x6)) / 4294967296) (wrap64 (x8 + 1))) else (none)) else (none)) else (none)) else (if x5.length < 35184372088832 then ((cutplaneref01_Trim.f k (x5 ++ [(x7) % 4294967296])).bind fun t419 => (some t419)) else (none))
def cutplaneref01_Up.f (k : Nat) (l0 : List Int) (a1 : Int) : Option (List Int) := if (l0.length : Int) = 0 then (some ([] : List Int)) else (if 0 ≤ (wrap64 (Int.tdiv a1 32)) then (if (wrap64 (Int.tdiv a1 32) : Int).toNat ≤ 70368744177664 then (cutplaneref01_Up.l0 k l0 (List.replicate (wrap64 (Int.tdiv a1 32) : Int).toNat 0) (Int.tmod a1 32) 0 0) else (none)) else (none))
theorem cutplaneref01_Up.mono_l : ∀ k, (∀ y0 y1 y2 y3 y4, LeO (cutplaneref01_Up.l0 k y0 y1 y2 y3 y4) (cutplaneref01_Up.l0 (k + 1) y0 y1 y2 y3 y4))
 | 0 => fun _ _ _ _ _ r h => by simp [cutplaneref01_Up.l0] at h
 | k + 1 => by
  have ih0 := cutplaneref01_Up.mono_l k
  ·intro y0 y1 y2 y3 y4
   unfold cutplaneref01_Up.l0
   repeat' first
   | (with_reducible exact ih0 _ _ _ _ _)
   | (with_reducible exact cutplaneref01_Trim.mono _ _)
   | (with_reducible exact LeO.refl _)
   | (with_reducible exact LeO.none _)
   | (with_reducible refine LeO.ite ?_ ?_)
   | (with_reducible refine LeO.bind ?_ (fun _ => ?_))
   | exact ih0 _ _ _ _ _
   | exact cutplaneref01_Trim.mono _ _
   | exact LeO.none _
   | refine LeO.ite ?_ ?_
   | refine LeO.bind ?_ (fun _ => ?_)
theorem cutplaneref01_Up.mono : ∀ a0 a1 k, LeO (cutplaneref01_Up.f k a0 a1) (cutplaneref01_Up.f (k + 1) a0 a1) := by
 intro a0 a1 k
 have ih0 := cutplaneref01_Up.mono_l k
 unfold cutplaneref01_Up.f
 repeat' first
   | (with_reducible exact ih0 _ _ _ _ _)
   | (with_reducible exact cutplaneref01_Trim.mono _ _)
   | (with_reducible exact LeO.refl _)
   | (with_reducible exact LeO.none _)
   | (with_reducible refine LeO.ite ?_ ?_)
   | (with_reducible refine LeO.bind ?_ (fun _ => ?_))
   | exact ih0 _ _ _ _ _
   | exact cutplaneref01_Trim.mono _ _
   | exact LeO.none _
   | refine LeO.ite ?_ ?_
   | refine LeO.bind ?_ (fun _ => ?_)
theorem cutplaneref01_Up.calls (k : Nat) (A0 : Option Addr) (c0 : Nat) (l0 : List Int) (a1 : Int) (r : List Int) (w : World) (hr0 : Kd.C (Kd.int .u32) w A0 l0.length l0) (hc0 : l0.length ≤ c0) (h : cutplaneref01_Up.f k l0 a1 = some r) :
  Calls Try.prog 96 #[.slice A0 l0.length c0, .int .i64 a1] w fun e w' => ∃ v0_ : Value, e = .returned (v0_) ∧ Kd.V (Kd.int .u32) 66 w' w.heap.size (fun k_ => (w.heap.size ≤ k_)) v0_ r ∧ Below w.heap.size w w' := by
 have HR0 := A0_ hr0
 have HC0 := A0_ hc0
 clear hr0 hc0
 have HB := A0_ (Below.refl w.heap.size w)
 have H := h
 clear h
 unfold cutplaneref01_Up.f at H
 by_cases c3 : (l0.length : Int) = 0
 ·rw [if_pos c3] at H
  have c3b0 : ((l0.length : Int) == 0) = true := beq_iff_eq.mpr c3
  have c3b1 : ((l0.length : Int) != 0) = false := bne_eq_false_iff_eq.mpr c3
  clear c3
  obtain rfl := Option.some.inj H
  go_enter Try.func96, Try.ntmps96
  go_wp2
  go_ret
  exact ⟨_, by first | rfl | (simp [errW_none, errW_some] <;> rfl) | (simp [*, errW_none, errW_some] <;> rfl), (Kd.V_nil _ _ _ _ _), qm_ HB.out⟩
 ·rw [if_neg c3] at H
  have c3b0 : ((l0.length : Int) == 0) = false := beq_eq_false_iff_ne.mpr c3
  have c3b1 : ((l0.length : Int) != 0) = true := bne_iff_ne.mpr c3
  have c3b2 : ¬ (l0 = []) := fun h_ => c3 (by rw [h_]; rfl)
  obtain ⟨ji4, hji4⟩ : ∃ j_ : Int, (wrap64 (Int.tdiv a1 32)) = j_ := ⟨_, rfl⟩
  replace H : (if 0 ≤ (ji4) then (if (ji4 : Int).toNat ≤ 70368744177664 then (cutplaneref01_Up.l0 k l0 (List.replicate (ji4 : Int).toNat 0) (Int.tmod a1 32) 0 0) else (none)) else (none)) = some r := by first | (rw [hji4] at H; exact H) | (simp only [hji4] at H ⊢; exact H)
  have hji4w : (IntKind.i64.wrap (Int.tdiv a1 32)) = ji4 := (i64_w _).trans hji4
  obtain ⟨c5, H⟩ := ic_ H
  have c5b0 := eq_true c5
  have c5b1 : decide (0 ≤ (ji4)) = true := decide_eq_true c5
  clear c5
  obtain ⟨c6, H⟩ := ic_ H
  have c6b0 := eq_true c6
  have c6b1 : decide ((ji4 : Int).toNat ≤ 70368744177664) = true := decide_eq_true c6
  clear c6
  obtain ⟨y409, hy409⟩ : ∃ y_ : List Int, y_ = (List.replicate (ji4 : Int).toNat 0) := ⟨_, rfl⟩
  replace H : (cutplaneref01_Up.l0 k l0 y409 (Int.tmod a1 32) 0 0) = some r := by first | (rw [hy409]; with_reducible exact H) | (have H2_ := (Option.bind_some _ _).symm.trans H; rw [hy409]; with_reducible exact H2_) | (have H2_ := (Option.bind_some _ _).symm.trans H; with_reducible exact H2_) | with_reducible exact H | (rw [hy409]; exact H) | exact H
  have Ny409 := A0_ hy409
  clear hy409
  have H' := A0_ H
  clear H
  go_enter Try.func96, Try.ntmps96
  go_wp2_with (first | ((with_reducible refine gate_dst (N := 14) rfl ?_); refine Kd.R_make (Kd.int .u32) _ 66 rfl (N := 14) rfl 67 _ _ rfl ji4 rfl rfl Try.underlying67 (.int .u32 0) 4 info66 rfl (by decide) (by omega) 0 (ok := fun _ => True) (okp := fun _ => True) rfl (fun _ hk => hk) trivial (of_decide_eq_true (by first | (with_reducible assumption) | assumption)) (Nat.le_trans (Nat.mul_le_mul_right _ (of_decide_eq_true (by first | (with_reducible assumption) | assumption) : ji4.toNat ≤ 70368744177664)) (by omega)) (Below.refl _ _) (Nat.le_refl _) ?_; intro v410 w7 ho8 hb hg_ hnew_; clear hg_ hnew_; (first | rw [← Ny409.out] at ho8 | (simp only [Int.reduceToNat] at ho8; rw [← Ny409.out] at ho8)); have HO411 := A0_ (Kd.R_lower (Kd.R_newM (M := fun k_ => (w.heap.size ≤ k_)) ho8 (below_size (qm_ HB.out)) (fun k_ h_ => h_)) (below_size (qm_ HB.out))); replace HB := hs_ hb; clear hb ho8))
  go_loopg [5, 7, 8] k (fun kq v5 v7 v8 w' => ∃ (x5_1 : List Int) (x7_1 : Int) (x8_1 : Int), v7 = .int .u64 x7_1 ∧ v8 = .int .i64 x8_1 ∧ Aside0 (cutplaneref01_Up.l0 kq l0 x5_1 (Int.tmod a1 32) x7_1 x8_1 = some r) ∧ Aside0 (kq ≤ k) ∧ Aside0 (Kd.R (Kd.int .u32) 66 w' w.heap.size (fun k_ => (w.heap.size ≤ k_)) v5 x5_1) ∧ Aside0 (Below w.heap.size w w'))
  case atStart => exact ⟨(y409), (0), (0), (by first | rfl | (simp; done) | (simp [*]; done)), (by first | rfl | (simp; done) | (simp [*]; done)), H', ⟨Nat.le_refl _⟩, ⟨by (with_reducible repeat (first | apply Kd.R_alloc | apply Kd.R_drewN | apply Kd.R_drew)); exact Kd.R_mono HO411.out (fun _ hk => hk.1)⟩, ⟨qm_ HB.out⟩⟩
  case round =>
   clear H'
   try clear p2
   try clear c3
   try clear c3b0
   try clear c3b1
   try clear c3b2
   try clear c5
   try clear c5b0
   try clear c5b1
   try clear c6
   try clear c6b0
   try clear c6b1
   try clear p6
   obtain ⟨x5_1, x7_1, x8_1, rfl, rfl, HA, HK1, HO_5, HB⟩ := hrel
   cases gk with
   | zero => exact absurd HA.out (by simp [cutplaneref01_Up.l0])
   | succ k1 =>
    have H := HA.out
    clear HA
    simp only [cutplaneref01_Up.l0] at H
    by_cases c9 : x8_1 < (l0.length : Int)
    ·rw [if_pos c9] at H
     have c9b0 : decide (x8_1 < (l0.length : Int)) = true := decide_eq_true c9
     clear c9
     obtain ⟨c10, H⟩ := ic_ H
     have c10b0 : decide (0 ≤ x8_1) = true := decide_eq_true c10
     clear c10
     obtain ⟨ji11, hji11⟩ : ∃ j_ : Int, (Int.tmod a1 32) = j_ := ⟨_, rfl⟩
     replace H : (if 0 ≤ (ji11) then (if x5_1.length < 35184372088832 then (cutplaneref01_Up.l0 k1 l0 (x5_1 ++ [(Go.bits .or .u64 x7_1 (shl .u64 (IntKind.u64.wrap (rd l0 x8_1)) (ji11))) % 4294967296]) (ji11) ((Go.bits .or .u64 x7_1 (shl .u64 (IntKind.u64.wrap (rd l0 x8_1)) (ji11))) / 4294967296) (wrap64 (x8_1 + 1))) else (none)) else (none)) = some r := by first | (rw [hji11] at H; exact H) | (simp only [hji11] at H ⊢; exact H)
     obtain ⟨c12, H⟩ := ic_ H
     have c12b0 := eq_true c12
     have c12b1 : decide (0 ≤ (ji11)) = true := decide_eq_true c12
     clear c12
     obtain ⟨ji13, hji13⟩ : ∃ j_ : Int, (shl .u64 (IntKind.u64.wrap (rd l0 x8_1)) (ji11)) = j_ := ⟨_, rfl⟩
     replace H : (if x5_1.length < 35184372088832 then (cutplaneref01_Up.l0 k1 l0 (x5_1 ++ [(Go.bits .or .u64 x7_1 (ji13)) % 4294967296]) (ji11) ((Go.bits .or .u64 x7_1 (ji13)) / 4294967296) (wrap64 (x8_1 + 1))) else (none)) = some r := by first | (rw [hji13] at H; exact H) | (simp only [hji13] at H ⊢; exact H)
     have hji13_ : (IntKind.u64.wrap ((IntKind.u64.wrap (rd l0 x8_1)) * 2 ^ min (ji11).toNat 64)) = ji13 := hji13
     have hji13z : (ji11) ≤ 64 → (IntKind.u64.wrap ((IntKind.u64.wrap (rd l0 x8_1)) * 2 ^ (ji11).toNat)) = ji13 := shl_small hji13
     obtain ⟨c14, H⟩ := ic_ H
     have LMc14 := A0_ c14
     clear c14
     obtain ⟨y413, hy413⟩ : ∃ y_ : List Int, y_ = (x5_1 ++ [(Go.bits .or .u64 x7_1 (ji13)) % 4294967296]) := ⟨_, rfl⟩
     replace H : (cutplaneref01_Up.l0 k1 l0 y413 (ji11) ((Go.bits .or .u64 x7_1 (ji13)) / 4294967296) (wrap64 (x8_1 + 1))) = some r := by first | (rw [hy413]; with_reducible exact H) | (have H2_ := (Option.bind_some _ _).symm.trans H; rw [hy413]; with_reducible exact H2_) | (have H2_ := (Option.bind_some _ _).symm.trans H; with_reducible exact H2_) | with_reducible exact H | (rw [hy413]; exact H) | exact H
     have Ny413 := A0_ hy413
     clear hy413
     have H' := A0_ H
     clear H
     have p412 : 0 ≤ (x8_1 : Int) := of_decide_eq_true (by first | (with_reducible assumption) | assumption)
     have q412 : x8_1 < (l0.length : Int) := of_decide_eq_true (by first | (with_reducible assumption) | assumption)
     obtain ⟨ad412, e412, hx412_0⟩ := Kd.at_int HR0.out x8_1 p412 q412
     cases e412
     replace hx412_0 := (HB.out.cell (World.block_lt_of_cell? w _ hx412_0)).trans hx412_0
     replace p412 := eq_true p412
     replace q412 := eq_true q412
     go_wp2_with (first | ((with_reducible refine gate_builtin (b := .append) (xs := #[.tmp 32, .tmp 35]) rfl ?_); at_builtin; refine Kd.R_append (Kd.int .u32) (w0 := w) w.heap.size rfl (.tmp 32) (.tmp 35) 67 66 (.int .u32 0) 4 rfl Try.underlying67 info66 rfl (by decide) (by omega) u5 x5_1 ((Go.bits .or .u64 x7_1 (ji13)) % 4294967296) [.int .u32 ((Go.bits .or .u64 x7_1 (ji13)) % 4294967296)] (fun k_ => (w.heap.size ≤ k_)) (fun _ => False) rfl rfl ?aP (fun _ hk => hk.elim) ?aF ?aO ?aB ?aS ?aL ?_; (case aP => exact rfl); (case aB => exact (qm_ HB.out)); (case aF => exact (fun k_ hk => (Nat.le_trans (below_size (qm_ HB.out)) hk))); (case aO => exact (by exact rm_ HO_5.out)); (case aS => exact (below_size (qm_ HB.out))); (case aL => have := LMc14.out; omega); intro v414 w15 ho hb hg hat; rw [← Ny413.out] at ho; replace HB := A0_ (hb); have HO415 := A0_ (ho); clear HO_5 ho hb hg hat))
     first | go_roundg k1 | ((try subst hji11); (try subst hji4); go_roundg k1)
     case measure => have := HK1.out; omega
     case rel => exact ⟨(y413), ((Go.bits .or .u64 x7_1 (ji13)) / 4294967296), (wrap64 (x8_1 + 1)), (by first | rfl | (simp; done) | (simp only [← hji13] <;> (first | rfl | simp)) | (simp [*]; done)), (by first | rfl | (simp; done) | (simp [*]; done)), H', ⟨by have := HK1.out; omega⟩, ⟨by exact rm_ HO415.out⟩, ⟨qm_ HB.out⟩⟩
    ·rw [if_neg c9] at H
     have c9b0 : decide (x8_1 < (l0.length : Int)) = false := decide_eq_false c9
     clear c9
     obtain ⟨c16, H⟩ := ic_ H
     have LMc16 := A0_ c16
     clear c16
     obtain ⟨y416, hy416⟩ : ∃ y_ : List Int, y_ = (x5_1 ++ [(x7_1) % 4294967296]) := ⟨_, rfl⟩
     replace H : ((cutplaneref01_Trim.f k1 y416).bind fun t419 => (some t419)) = some r := by first | (rw [hy416]; with_reducible exact H) | (have H2_ := (Option.bind_some _ _).symm.trans H; rw [hy416]; with_reducible exact H2_) | (have H2_ := (Option.bind_some _ _).symm.trans H; with_reducible exact H2_) | with_reducible exact H | (rw [hy416]; exact H) | exact H
     have Ny416 := A0_ hy416
     clear hy416
     obtain ⟨t419, A17, H⟩ := bs_ H
     try dsimp -simprocs only at H
     obtain rfl := Option.some.inj H
     go_wp2_with (first | ((with_reducible refine gate_builtin (b := .append) (xs := #[.tmp 39, .tmp 42]) rfl ?_); at_builtin; refine Kd.R_append (Kd.int .u32) (w0 := w) w.heap.size rfl (.tmp 39) (.tmp 42) 67 66 (.int .u32 0) 4 rfl Try.underlying67 info66 rfl (by decide) (by omega) u5 x5_1 ((x7_1) % 4294967296) [.int .u32 ((x7_1) % 4294967296)] (fun k_ => (w.heap.size ≤ k_)) (fun _ => False) rfl rfl ?aP (fun _ hk => hk.elim) ?aF ?aO ?aB ?aS ?aL ?_; (case aP => exact rfl); (case aB => exact (qm_ HB.out)); (case aF => exact (fun k_ hk => (Nat.le_trans (below_size (qm_ HB.out)) hk))); (case aO => exact (by exact rm_ HO_5.out)); (case aS => exact (below_size (qm_ HB.out))); (case aL => have := LMc16.out; omega); intro v417 w18 ho hb hg hat; rw [← Ny416.out] at ho; replace HB := A0_ (hb); have HO418 := A0_ (ho); clear HO_5 ho hb hg hat; obtain ⟨Ao19, co19, eo19⟩ := Kd.R_slice HO418.out; subst eo19) | ((with_reducible refine gate_callee (f := 110) rfl ?_); refine goesL_ (some 44) rfl rfl Try.func110 (by kernel_rfl) rfl #[.slice Ao19 y416.length co19] rfl (am_ rfl) ?_; (with_reducible refine (cutplaneref01_Trim.calls k1 (fun k_ => some k_ = (.slice Ao19 y416.length co19 : Value).ownBlock) _ _ y416 t419 _ ?side1 A17.out).mono ?_); (case side1 => exact Kd.R_V (Kd.R_tight rfl (HO418.out))); rintro e w20 ⟨v420, rfl, ho0, hb⟩; refine ⟨_, rfl, ?_⟩; have HO421 := A0_ (Kd.V_lower (Kd.V_mono (ok' := fun k_ => (w.heap.size ≤ k_)) ho0 (fun k_ hk_ => Or.elim hk_ (fun hs_ => ((HO418.out).1 k_ hs_.symm)) (fun hn_ => (Nat.le_trans (below_size (qm_ HB.out)) hn_)))) (below_size (qm_ HB.out))); replace HO418 := A0_ (Kd.R_below (by exact rm_ HO418.out) hb); replace HB := hs_ hb; (try clear hb); (try clear ho0)))
     go_ret
     exact ⟨_, by first | rfl | (simp [errW_none, errW_some] <;> rfl) | (simp only [← hji4]; first | rfl | (simp [errW_none, errW_some] <;> rfl)) | (simp [*, errW_none, errW_some] <;> rfl), by (with_reducible repeat (first | apply Kd.V_alloc | apply Kd.V_drewN | apply Kd.V_drew)); exact HO421.out, qm_ HB.out⟩
end Go.Proofs.Ytlgapmhjaaajfaa.PA
end

section
namespace Go.Proofs.Ytlgapmhjaaajfaa.PA
open Go.RowKit Go.Proofs.YtlgapmhjaaajfaaW.PrintWords Go.Proofs.YtlgapmhjaaajfaaW.PrintLast Go.Proofs.YtlgapmhjaaajfaaW.PrintMore
attribute [local go_sem] max2_int min2_int max_two min_two max_three min_three max_four min_four   -- for this text's walks alone
set_option linter.unusedVariables false
set_option linter.unusedSimpArgs false
mutual
def cutplaneref03_Of.j0 : Nat → Int → Int → Bool → Bool → List Int → Int → Option (Int × Bool)
 | 0, _, _, _, _, _, _ => none
 | k + 1, x0, x6, x35, x562000, x562001, x562002 => if x35 = true then (none) else ((cutplaneref03_Frac.f x0).bind fun t568 => ((cutplaneref03_Low.f x0).bind fun t569 => (if (wrap64 ((wrap64 (x6 - t568)) - 1)) < t569 then (none) else ((cutplaneref01_Up.f k x562001 (wrap64 (x562002 - (wrap64 ((wrap64 (x6 - t568)) - 1))))).bind fun t570 => (if 0 < (t570.length : Int) then (if (t570.length : Int) > 1 then (if 1 < (t570.length : Int) then (cutplaneref03_Of.j1 k x0 (wrap64 ((wrap64 (x6 - t568)) - 1)) (IntKind.u64.wrap ((IntKind.u64.wrap (rd t570 0)) + (IntKind.u64.wrap ((IntKind.u64.wrap (rd t570 1)) * 4294967296)))) x562000 x562001 x562002) else (none)) else (cutplaneref03_Of.j1 k x0 (wrap64 ((wrap64 (x6 - t568)) - 1)) (IntKind.u64.wrap (rd t570 0)) x562000 x562001 x562002)) else (none))))))
def cutplaneref03_Of.j1 : Nat → Int → Int → Int → Bool → List Int → Int → Option (Int × Bool)
 | 0, _, _, _, _, _, _ => none
 | k + 1, x0, x7, x9, x562000, x562001, x562002 => (cutplaneref03_Frac.f x0).bind fun t576 => (if 0 ≤ t576 then (if (shr .u64 x9 t576) > 0 then ((cutplaneref03_Frac.f x0).bind fun t577 => (if 0 ≤ t577 then ((cutplaneref03_Low.f x0).bind fun t578 => ((cutplaneref03_Join.f x0 x562000 (wrap64 ((wrap64 (x7 - t578)) + 1)) (IntKind.u64.wrap (x9 - (shl .u64 1 t577)))).bind fun t579 => (some (t579, true)))) else (none))) else ((cutplaneref03_Join.f x0 x562000 0 x9).bind fun t580 => (some (t580, true)))) else (none))
end
def cutplaneref03_Of.f (k : Nat) (a0 : Int) (a1_0 : Bool) (l1_1 : List Int) (a1_2 : Int) : Option (Int × Bool) := (cutplaneref02_Sign.f a1_0 l1_1 a1_2).bind fun t562 => (if t562 = 0 then (none) else ((cutplaneref02_Top.f k a1_0 l1_1 a1_2).bind fun t563 => ((cutplaneref03_Wide.f a0).bind fun t564 => (if t563 > t564 then (cutplaneref03_Of.j0 k a0 t563 true a1_0 l1_1 a1_2) else ((cutplaneref03_Low.f a0).bind fun t565 => (if a1_2 < t565 then (cutplaneref03_Of.j0 k a0 t563 true a1_0 l1_1 a1_2) else ((cutplaneref01_Len.f k l1_1).bind fun t566 => ((cutplaneref03_Frac.f a0).bind fun t567 => (cutplaneref03_Of.j0 k a0 t563 (decide (t566 > (wrap64 (t567 + 1)))) a1_0 l1_1 a1_2)))))))))
theorem cutplaneref03_Of.mono_l : ∀ k, (∀ y0 y1 y2 y3 y4 y5, LeO (cutplaneref03_Of.j0 k y0 y1 y2 y3 y4 y5) (cutplaneref03_Of.j0 (k + 1) y0 y1 y2 y3 y4 y5)) ∧ (∀ y0 y1 y2 y3 y4 y5, LeO (cutplaneref03_Of.j1 k y0 y1 y2 y3 y4 y5) (cutplaneref03_Of.j1 (k + 1) y0 y1 y2 y3 y4 y5))
 | 0 => ⟨fun _ _ _ _ _ _ r h => by simp [cutplaneref03_Of.j0] at h, fun _ _ _ _ _ _ r h => by simp [cutplaneref03_Of.j1] at h⟩
 | k + 1 => by
  obtain ⟨ih0, ih1⟩ := cutplaneref03_Of.mono_l k
  refine ⟨?_, ?_⟩
  ·intro y0 y1 y2 y3 y4 y5
   unfold cutplaneref03_Of.j0
   repeat' first
   | (with_reducible exact ih0 _ _ _ _ _ _)
   | (with_reducible exact ih1 _ _ _ _ _ _)
   | (with_reducible exact cutplaneref01_Len.mono _ _)
   | (with_reducible exact cutplaneref01_Up.mono _ _ _)
   | (with_reducible exact cutplaneref02_Top.mono _ _ _ _)
   | (with_reducible exact LeO.refl _)
   | (with_reducible exact LeO.none _)
   | (with_reducible refine LeO.ite ?_ ?_)
   | (with_reducible refine LeO.bind ?_ (fun _ => ?_))
   | exact ih0 _ _ _ _ _ _
   | exact ih1 _ _ _ _ _ _
   | exact cutplaneref01_Len.mono _ _
   | exact cutplaneref01_Up.mono _ _ _
   | exact cutplaneref02_Top.mono _ _ _ _
   | exact LeO.none _
   | refine LeO.ite ?_ ?_
   | refine LeO.bind ?_ (fun _ => ?_)
  ·intro y0 y1 y2 y3 y4 y5
   unfold cutplaneref03_Of.j1
   repeat' first
   | (with_reducible exact ih0 _ _ _ _ _ _)
   | (with_reducible exact ih1 _ _ _ _ _ _)
   | (with_reducible exact cutplaneref01_Len.mono _ _)
   | (with_reducible exact cutplaneref01_Up.mono _ _ _)
   | (with_reducible exact cutplaneref02_Top.mono _ _ _ _)
   | (with_reducible exact LeO.refl _)
   | (with_reducible exact LeO.none _)
   | (with_reducible refine LeO.ite ?_ ?_)
   | (with_reducible refine LeO.bind ?_ (fun _ => ?_))
   | exact ih0 _ _ _ _ _ _
   | exact ih1 _ _ _ _ _ _
   | exact cutplaneref01_Len.mono _ _
   | exact cutplaneref01_Up.mono _ _ _
   | exact cutplaneref02_Top.mono _ _ _ _
   | exact LeO.none _
   | refine LeO.ite ?_ ?_
   | refine LeO.bind ?_ (fun _ => ?_)
theorem cutplaneref03_Of.mono : ∀ a0 a1 a2 a3 k, LeO (cutplaneref03_Of.f k a0 a1 a2 a3) (cutplaneref03_Of.f (k + 1) a0 a1 a2 a3) := by
 intro a0 a1 a2 a3 k
 obtain ⟨ih0, ih1⟩ := cutplaneref03_Of.mono_l k
 unfold cutplaneref03_Of.f
 repeat' first
   | (with_reducible exact ih0 _ _ _ _ _ _)
   | (with_reducible exact ih1 _ _ _ _ _ _)
   | (with_reducible exact cutplaneref01_Len.mono _ _)
   | (with_reducible exact cutplaneref01_Up.mono _ _ _)
   | (with_reducible exact cutplaneref02_Top.mono _ _ _ _)
   | (with_reducible exact LeO.refl _)
   | (with_reducible exact LeO.none _)
   | (with_reducible refine LeO.ite ?_ ?_)
   | (with_reducible refine LeO.bind ?_ (fun _ => ?_))
   | exact ih0 _ _ _ _ _ _
   | exact ih1 _ _ _ _ _ _
   | exact cutplaneref01_Len.mono _ _
   | exact cutplaneref01_Up.mono _ _ _
   | exact cutplaneref02_Top.mono _ _ _ _
   | exact LeO.none _
   | refine LeO.ite ?_ ?_
   | refine LeO.bind ?_ (fun _ => ?_)
set_option maxHeartbeats 8000000 in
set_option maxRecDepth 100000 in
theorem cutplaneref03_Of.calls (k : Nat) (a0 : Int) (a1_0 : Bool) (A1_1 : Option Addr) (c1_1 : Nat) (l1_1 : List Int) (a1_2 : Int) (r1 : Int) (r2 : Bool) (w : World) (hr1_1 : Kd.C (Kd.int .u32) w A1_1 l1_1.length l1_1) (hc1_1 : l1_1.length ≤ c1_1) (h : cutplaneref03_Of.f k a0 a1_0 l1_1 a1_2 = some (r1, r2)) :
  Calls Try.prog 90 #[.int .u8 a0, .agg #[.bool a1_0, .slice A1_1 l1_1.length c1_1, .int .i64 a1_2]] w fun e w' => e = .returned (.tuple #[.int .u64 r1, .bool r2]) ∧ Below w.heap.size w w' := by
 have hu69 := Try.underlying69
 have hu93 := Try.underlying93
 have HR1_1 := A0_ hr1_1
 have HC1_1 := A0_ hc1_1
 clear hr1_1 hc1_1
 have HB := A0_ (Below.refl w.heap.size w)
 have H := h
 clear h
 unfold cutplaneref03_Of.f at H
 obtain ⟨t562, A3, H⟩ := bs_ H
 try dsimp -simprocs only at H
 obtain ⟨c4, H⟩ := id_ H
 have c4b0 : (t562 == 0) = false := beq_eq_false_iff_ne.mpr c4
 have c4b1 : (t562 != 0) = true := bne_iff_ne.mpr c4
 obtain ⟨t563, A5, H⟩ := bs_ H
 try dsimp -simprocs only at H
 have HC6 := A0_ H
 clear H
 go_enter Try.func90, Try.ntmps90
 go_upto_region 4 with (first | ((with_reducible refine gate_dst (N := 3) rfl ?_); refine box_event ?hg (N := 3) ?hd (cs := #[.bool a1_0, .slice A1_1 l1_1.length c1_1, .int .i64 a1_2]) (t := 69) ?hr ?_; (case hd => rfl); (case hg => rfl); (case hr => first | (go_simp; done) | (go_simp; rfl)); intro gb561 hg w7 hbox hb; have BK561 := A0_ (hbox); have GW561 := A0_ ((by rw [hg]; exact (below_size (qm_ HB.out)) : w.heap.size ≤ gb561)); have GE561 := GW561; replace HB := hs_ hb; clear hb hbox hg; have hcz8 := bc3_ BK561.out; have hfz8 := bf3_ BK561.out) | (go_at_call 76; (with_reducible refine (cutplaneref02_Sign.calls a1_0 _ _ l1_1 a1_2 t562 _ ?side1 ?side2 A3.out).mono ?_); (case side1 => repeat (first | exact (Kd.C_below HR1_1.out HB.out) | (with_reducible refine Kd.C_alloc ?_ _) | (with_reducible refine Kd.C_drewN ?_ _) | (with_reducible refine Kd.C_drew ?_))); (case side2 => exact HC1_1.out); rintro e w9 ⟨rfl, hb⟩; replace BK561 := bb_ BK561 hb; replace HB := hs_ hb; (try clear hb); have hcz10 := bc3_ BK561.out; have hfz10 := bf3_ BK561.out) | (go_at_call 85; (with_reducible refine (cutplaneref02_Top.calls k a1_0 _ _ l1_1 a1_2 t563 _ ?side1 ?side2 A5.out).mono ?_); (case side1 => repeat (first | exact (Kd.C_below HR1_1.out HB.out) | (with_reducible refine Kd.C_alloc ?_ _) | (with_reducible refine Kd.C_drewN ?_ _) | (with_reducible refine Kd.C_drew ?_))); (case side2 => exact HC1_1.out); rintro e w11 ⟨rfl, hb⟩; replace BK561 := bb_ BK561 hb; replace HB := hs_ hb; (try clear hb)))
 repeat (go_quiet (first | ((with_reducible refine gate_dst (N := 3) rfl ?_); refine box_event ?hg (N := 3) ?hd (cs := #[.bool a1_0, .slice A1_1 l1_1.length c1_1, .int .i64 a1_2]) (t := 69) ?hr ?_; (case hd => rfl); (case hg => rfl); (case hr => first | (go_simp; done) | (go_simp; rfl)); intro gb561 hg w7 hbox hb; have BK561 := A0_ (hbox); have GW561 := A0_ ((by rw [hg]; exact (below_size (qm_ HB.out)) : w.heap.size ≤ gb561)); have GE561 := GW561; replace HB := hs_ hb; clear hb hbox hg; have hcz8 := bc3_ BK561.out; have hfz8 := bf3_ BK561.out) | (go_at_call 76; (with_reducible refine (cutplaneref02_Sign.calls a1_0 _ _ l1_1 a1_2 t562 _ ?side1 ?side2 A3.out).mono ?_); (case side1 => repeat (first | exact (Kd.C_below HR1_1.out HB.out) | (with_reducible refine Kd.C_alloc ?_ _) | (with_reducible refine Kd.C_drewN ?_ _) | (with_reducible refine Kd.C_drew ?_))); (case side2 => exact HC1_1.out); rintro e w9 ⟨rfl, hb⟩; replace BK561 := bb_ BK561 hb; replace HB := hs_ hb; (try clear hb); have hcz10 := bc3_ BK561.out; have hfz10 := bf3_ BK561.out) | (go_at_call 85; (with_reducible refine (cutplaneref02_Top.calls k a1_0 _ _ l1_1 a1_2 t563 _ ?side1 ?side2 A5.out).mono ?_); (case side1 => repeat (first | exact (Kd.C_below HR1_1.out HB.out) | (with_reducible refine Kd.C_alloc ?_ _) | (with_reducible refine Kd.C_drewN ?_ _) | (with_reducible refine Kd.C_drew ?_))); (case side2 => exact HC1_1.out); rintro e w11 ⟨rfl, hb⟩; replace BK561 := bb_ BK561 hb; replace HB := hs_ hb; (try clear hb))); go_upto_region 4 with (first | ((with_reducible refine gate_dst (N := 3) rfl ?_); refine box_event ?hg (N := 3) ?hd (cs := #[.bool a1_0, .slice A1_1 l1_1.length c1_1, .int .i64 a1_2]) (t := 69) ?hr ?_; (case hd => rfl); (case hg => rfl); (case hr => first | (go_simp; done) | (go_simp; rfl)); intro gb561 hg w7 hbox hb; have BK561 := A0_ (hbox); have GW561 := A0_ ((by rw [hg]; exact (below_size (qm_ HB.out)) : w.heap.size ≤ gb561)); have GE561 := GW561; replace HB := hs_ hb; clear hb hbox hg; have hcz8 := bc3_ BK561.out; have hfz8 := bf3_ BK561.out) | (go_at_call 76; (with_reducible refine (cutplaneref02_Sign.calls a1_0 _ _ l1_1 a1_2 t562 _ ?side1 ?side2 A3.out).mono ?_); (case side1 => repeat (first | exact (Kd.C_below HR1_1.out HB.out) | (with_reducible refine Kd.C_alloc ?_ _) | (with_reducible refine Kd.C_drewN ?_ _) | (with_reducible refine Kd.C_drew ?_))); (case side2 => exact HC1_1.out); rintro e w9 ⟨rfl, hb⟩; replace BK561 := bb_ BK561 hb; replace HB := hs_ hb; (try clear hb); have hcz10 := bc3_ BK561.out; have hfz10 := bf3_ BK561.out) | (go_at_call 85; (with_reducible refine (cutplaneref02_Top.calls k a1_0 _ _ l1_1 a1_2 t563 _ ?side1 ?side2 A5.out).mono ?_); (case side1 => repeat (first | exact (Kd.C_below HR1_1.out HB.out) | (with_reducible refine Kd.C_alloc ?_ _) | (with_reducible refine Kd.C_drewN ?_ _) | (with_reducible refine Kd.C_drew ?_))); (case side2 => exact HC1_1.out); rintro e w11 ⟨rfl, hb⟩; replace BK561 := bb_ BK561 hb; replace HB := hs_ hb; (try clear hb))))
 (try simp only [Act.put, sp_])
 go_cut [35] (fun v35 wc => ∃ (kq : Nat) (x35_5 : Bool), v35 = .bool x35_5 ∧ Aside0 (cutplaneref03_Of.j0 kq a0 t563 x35_5 a1_0 l1_1 a1_2 = some (r1, r2)) ∧ Aside0 (kq ≤ k) ∧ Aside0 (wc.heap[gb561]? = some (.cells #[.bool a1_0, (.slice A1_1 l1_1.length c1_1), .int .i64 a1_2] 69 (0, 0))) ∧ Aside0 (Below w.heap.size w wc))
 case first =>
  have H := HC6.out
  clear HC6
  obtain ⟨t564, A12, H⟩ := bs_ H
  try dsimp -simprocs only at H
  by_cases c13 : t563 > t564
  ·rw [if_pos c13] at H
   have c13b0 : decide (t564 < t563) = true := decide_eq_true c13
   clear c13
   (first | rw [c13b0] | (simp only [i64_w, i32_w]; rw [c13b0]) | skip)
   have H' := A0_ H
   clear H
   go_wp2_with (first | (go_at_call 88; (with_reducible refine (cutplaneref03_Wide.calls a0 t564 _ A12.out).mono ?_); rintro e w' ⟨rfl, ⟨nd, rfl⟩⟩; (try first | exact ⟨rfl, _, World.drewN_drewN _ _ _⟩ | exact ⟨rfl, _, Eq.trans (World.drewN_drewN _ _ _) (congrArg (World.drewN _) (Nat.add_assoc _ _ _))⟩)))
   repeat (go_quiet (first | (go_at_call 88; (with_reducible refine (cutplaneref03_Wide.calls a0 t564 _ A12.out).mono ?_); rintro e w' ⟨rfl, ⟨nd, rfl⟩⟩; (try first | exact ⟨rfl, _, World.drewN_drewN _ _ _⟩ | exact ⟨rfl, _, Eq.trans (World.drewN_drewN _ _ _) (congrArg (World.drewN _) (Nat.add_assoc _ _ _))⟩))); try go_wp2_with (first | (go_at_call 88; (with_reducible refine (cutplaneref03_Wide.calls a0 t564 _ A12.out).mono ?_); rintro e w' ⟨rfl, ⟨nd, rfl⟩⟩; (try first | exact ⟨rfl, _, World.drewN_drewN _ _ _⟩ | exact ⟨rfl, _, Eq.trans (World.drewN_drewN _ _ _) (congrArg (World.drewN _) (Nat.add_assoc _ _ _))⟩))))
   go_meet
   case rel => exact ⟨_, (true), (by first | rfl | (simp; done) | (simp [i64_w, i32_w]; done) | (simp [*]; done)), H', ⟨by first | omega | exact Nat.le_refl _⟩, ⟨bm_ BK561.out⟩, ⟨qz_⟩⟩
  ·rw [if_neg c13] at H
   have c13b0 : decide (t564 < t563) = false := decide_eq_false c13
   clear c13
   (first | rw [c13b0] | (simp only [i64_w, i32_w]; rw [c13b0]) | skip)
   obtain ⟨t565, A14, H⟩ := bs_ H
   try dsimp -simprocs only at H
   by_cases c15 : a1_2 < t565
   ·rw [if_pos c15] at H
    have c15b0 : decide (a1_2 < t565) = true := decide_eq_true c15
    clear c15
    have H' := A0_ H
    clear H
    go_wp2_with (first | (go_at_call 88; (with_reducible refine (cutplaneref03_Wide.calls a0 t564 _ A12.out).mono ?_); rintro e w' ⟨rfl, ⟨nd, rfl⟩⟩; (try first | exact ⟨rfl, _, World.drewN_drewN _ _ _⟩ | exact ⟨rfl, _, Eq.trans (World.drewN_drewN _ _ _) (congrArg (World.drewN _) (Nat.add_assoc _ _ _))⟩); have hcz16 := bc3_ BK561.out; have hfz16 := bf3_ BK561.out) | (go_at_call 86; (with_reducible refine (cutplaneref03_Low.calls a0 t565 _ A14.out).mono ?_); rintro e w' ⟨rfl, ⟨nd, rfl⟩⟩; (try first | exact ⟨rfl, _, World.drewN_drewN _ _ _⟩ | exact ⟨rfl, _, Eq.trans (World.drewN_drewN _ _ _) (congrArg (World.drewN _) (Nat.add_assoc _ _ _))⟩)))
    repeat (go_quiet (first | (go_at_call 88; (with_reducible refine (cutplaneref03_Wide.calls a0 t564 _ A12.out).mono ?_); rintro e w' ⟨rfl, ⟨nd, rfl⟩⟩; (try first | exact ⟨rfl, _, World.drewN_drewN _ _ _⟩ | exact ⟨rfl, _, Eq.trans (World.drewN_drewN _ _ _) (congrArg (World.drewN _) (Nat.add_assoc _ _ _))⟩); have hcz16 := bc3_ BK561.out; have hfz16 := bf3_ BK561.out) | (go_at_call 86; (with_reducible refine (cutplaneref03_Low.calls a0 t565 _ A14.out).mono ?_); rintro e w' ⟨rfl, ⟨nd, rfl⟩⟩; (try first | exact ⟨rfl, _, World.drewN_drewN _ _ _⟩ | exact ⟨rfl, _, Eq.trans (World.drewN_drewN _ _ _) (congrArg (World.drewN _) (Nat.add_assoc _ _ _))⟩))); try go_wp2_with (first | (go_at_call 88; (with_reducible refine (cutplaneref03_Wide.calls a0 t564 _ A12.out).mono ?_); rintro e w' ⟨rfl, ⟨nd, rfl⟩⟩; (try first | exact ⟨rfl, _, World.drewN_drewN _ _ _⟩ | exact ⟨rfl, _, Eq.trans (World.drewN_drewN _ _ _) (congrArg (World.drewN _) (Nat.add_assoc _ _ _))⟩); have hcz16 := bc3_ BK561.out; have hfz16 := bf3_ BK561.out) | (go_at_call 86; (with_reducible refine (cutplaneref03_Low.calls a0 t565 _ A14.out).mono ?_); rintro e w' ⟨rfl, ⟨nd, rfl⟩⟩; (try first | exact ⟨rfl, _, World.drewN_drewN _ _ _⟩ | exact ⟨rfl, _, Eq.trans (World.drewN_drewN _ _ _) (congrArg (World.drewN _) (Nat.add_assoc _ _ _))⟩))))
    go_meet
    case rel => exact ⟨_, (true), (by first | rfl | (simp; done) | (simp [i64_w, i32_w]; done) | (simp [*]; done)), H', ⟨by first | omega | exact Nat.le_refl _⟩, ⟨bm_ BK561.out⟩, ⟨qz_⟩⟩
   ·rw [if_neg c15] at H
    have c15b0 : decide (a1_2 < t565) = false := decide_eq_false c15
    clear c15
    obtain ⟨t566, A17, H⟩ := bs_ H
    try dsimp -simprocs only at H
    obtain ⟨t567, A18, H⟩ := bs_ H
    try dsimp -simprocs only at H
    have H' := A0_ H
    clear H
    go_wp2_with (first | (go_at_call 88; (with_reducible refine (cutplaneref03_Wide.calls a0 t564 _ A12.out).mono ?_); rintro e w' ⟨rfl, ⟨nd, rfl⟩⟩; (try first | exact ⟨rfl, _, World.drewN_drewN _ _ _⟩ | exact ⟨rfl, _, Eq.trans (World.drewN_drewN _ _ _) (congrArg (World.drewN _) (Nat.add_assoc _ _ _))⟩); have hcz19 := bc3_ BK561.out; have hfz19 := bf3_ BK561.out) | (go_at_call 86; (with_reducible refine (cutplaneref03_Low.calls a0 t565 _ A14.out).mono ?_); rintro e w' ⟨rfl, ⟨nd, rfl⟩⟩; (try first | exact ⟨rfl, _, World.drewN_drewN _ _ _⟩ | exact ⟨rfl, _, Eq.trans (World.drewN_drewN _ _ _) (congrArg (World.drewN _) (Nat.add_assoc _ _ _))⟩)) | (go_at_call 100; (with_reducible refine (cutplaneref01_Len.calls k _ _ l1_1 t566 _ ?side1 ?side2 A17.out).mono ?_); (case side1 => repeat (first | exact (Kd.C_below HR1_1.out qz_) | (with_reducible refine Kd.C_alloc ?_ _) | (with_reducible refine Kd.C_drewN ?_ _) | (with_reducible refine Kd.C_drew ?_))); (case side2 => exact HC1_1.out); rintro e w' ⟨rfl, ⟨nd, rfl⟩⟩; (try first | exact ⟨rfl, _, World.drewN_drewN _ _ _⟩ | exact ⟨rfl, _, Eq.trans (World.drewN_drewN _ _ _) (congrArg (World.drewN _) (Nat.add_assoc _ _ _))⟩)) | (go_at_call 66; (with_reducible refine (cutplaneref03_Frac.calls a0 t567 _ A18.out).mono ?_); rintro e w' ⟨rfl, ⟨nd, rfl⟩⟩; (try first | exact ⟨rfl, _, World.drewN_drewN _ _ _⟩ | exact ⟨rfl, _, Eq.trans (World.drewN_drewN _ _ _) (congrArg (World.drewN _) (Nat.add_assoc _ _ _))⟩)))
    repeat (go_quiet (first | (go_at_call 88; (with_reducible refine (cutplaneref03_Wide.calls a0 t564 _ A12.out).mono ?_); rintro e w' ⟨rfl, ⟨nd, rfl⟩⟩; (try first | exact ⟨rfl, _, World.drewN_drewN _ _ _⟩ | exact ⟨rfl, _, Eq.trans (World.drewN_drewN _ _ _) (congrArg (World.drewN _) (Nat.add_assoc _ _ _))⟩); have hcz19 := bc3_ BK561.out; have hfz19 := bf3_ BK561.out) | (go_at_call 86; (with_reducible refine (cutplaneref03_Low.calls a0 t565 _ A14.out).mono ?_); rintro e w' ⟨rfl, ⟨nd, rfl⟩⟩; (try first | exact ⟨rfl, _, World.drewN_drewN _ _ _⟩ | exact ⟨rfl, _, Eq.trans (World.drewN_drewN _ _ _) (congrArg (World.drewN _) (Nat.add_assoc _ _ _))⟩)) | (go_at_call 100; (with_reducible refine (cutplaneref01_Len.calls k _ _ l1_1 t566 _ ?side1 ?side2 A17.out).mono ?_); (case side1 => repeat (first | exact (Kd.C_below HR1_1.out qz_) | (with_reducible refine Kd.C_alloc ?_ _) | (with_reducible refine Kd.C_drewN ?_ _) | (with_reducible refine Kd.C_drew ?_))); (case side2 => exact HC1_1.out); rintro e w' ⟨rfl, ⟨nd, rfl⟩⟩; (try first | exact ⟨rfl, _, World.drewN_drewN _ _ _⟩ | exact ⟨rfl, _, Eq.trans (World.drewN_drewN _ _ _) (congrArg (World.drewN _) (Nat.add_assoc _ _ _))⟩)) | (go_at_call 66; (with_reducible refine (cutplaneref03_Frac.calls a0 t567 _ A18.out).mono ?_); rintro e w' ⟨rfl, ⟨nd, rfl⟩⟩; (try first | exact ⟨rfl, _, World.drewN_drewN _ _ _⟩ | exact ⟨rfl, _, Eq.trans (World.drewN_drewN _ _ _) (congrArg (World.drewN _) (Nat.add_assoc _ _ _))⟩))); try go_wp2_with (first | (go_at_call 88; (with_reducible refine (cutplaneref03_Wide.calls a0 t564 _ A12.out).mono ?_); rintro e w' ⟨rfl, ⟨nd, rfl⟩⟩; (try first | exact ⟨rfl, _, World.drewN_drewN _ _ _⟩ | exact ⟨rfl, _, Eq.trans (World.drewN_drewN _ _ _) (congrArg (World.drewN _) (Nat.add_assoc _ _ _))⟩); have hcz19 := bc3_ BK561.out; have hfz19 := bf3_ BK561.out) | (go_at_call 86; (with_reducible refine (cutplaneref03_Low.calls a0 t565 _ A14.out).mono ?_); rintro e w' ⟨rfl, ⟨nd, rfl⟩⟩; (try first | exact ⟨rfl, _, World.drewN_drewN _ _ _⟩ | exact ⟨rfl, _, Eq.trans (World.drewN_drewN _ _ _) (congrArg (World.drewN _) (Nat.add_assoc _ _ _))⟩)) | (go_at_call 100; (with_reducible refine (cutplaneref01_Len.calls k _ _ l1_1 t566 _ ?side1 ?side2 A17.out).mono ?_); (case side1 => repeat (first | exact (Kd.C_below HR1_1.out qz_) | (with_reducible refine Kd.C_alloc ?_ _) | (with_reducible refine Kd.C_drewN ?_ _) | (with_reducible refine Kd.C_drew ?_))); (case side2 => exact HC1_1.out); rintro e w' ⟨rfl, ⟨nd, rfl⟩⟩; (try first | exact ⟨rfl, _, World.drewN_drewN _ _ _⟩ | exact ⟨rfl, _, Eq.trans (World.drewN_drewN _ _ _) (congrArg (World.drewN _) (Nat.add_assoc _ _ _))⟩)) | (go_at_call 66; (with_reducible refine (cutplaneref03_Frac.calls a0 t567 _ A18.out).mono ?_); rintro e w' ⟨rfl, ⟨nd, rfl⟩⟩; (try first | exact ⟨rfl, _, World.drewN_drewN _ _ _⟩ | exact ⟨rfl, _, Eq.trans (World.drewN_drewN _ _ _) (congrArg (World.drewN _) (Nat.add_assoc _ _ _))⟩))))
    go_meet
    case rel => exact ⟨_, (decide (t566 > (wrap64 (t567 + 1)))), (by first | rfl | (simp; done) | (simp [i64_w, i32_w]; done) | (simp [*]; done)), H', ⟨by first | omega | exact Nat.le_refl _⟩, ⟨bm_ BK561.out⟩, ⟨qz_⟩⟩
 case rest =>
  clear HC6
  try clear c1
  try clear p2
  try clear c4
  try clear c4b0
  try clear c4b1
  try clear p6
  try clear c9
  try clear c13
  try clear c13b0
  try clear c15
  try clear c15b0
  try clear hcz10
  try clear hcz16
  try clear hcz19
  try clear hcz8
  try clear hfz10
  try clear hfz16
  try clear hfz19
  try clear hfz8
  obtain ⟨kq, x35_5, rfl, HA, HJ5, BK561, HB⟩ := hcut
  cases kq with
  | zero => exact absurd HA.out (by simp [cutplaneref03_Of.j0])
  | succ kj5 =>
   have H := HA.out
   clear HA
   simp only [cutplaneref03_Of.j0] at H
   by_cases c20 : x35_5 = true
   ·subst c20
    rw [if_pos rfl] at H
    exact absurd H (by simp)
   ·replace c20 := Bool.eq_false_iff.mpr c20
    subst c20
    rw [if_neg (show ¬ (false = true) by decide)] at H
    obtain ⟨t568, A21, H⟩ := bs_ H
    try dsimp -simprocs only at H
    obtain ⟨t569, A22, H⟩ := bs_ H
    try dsimp -simprocs only at H
    obtain ⟨c23, H⟩ := id_ H
    have c23b0 : decide ((wrap64 ((wrap64 (t563 - t568)) - 1)) < t569) = false := decide_eq_false c23
    clear c23
    obtain ⟨t570, A24, H⟩ := bs_ H
    try dsimp -simprocs only at H
    obtain ⟨(c25 : 0 < (t570.length : Int)), H⟩ := ic_ H
    have c25b0 : decide (0 < (t570.length : Int)) = true := decide_eq_true c25
    have c25b1 : decide (0 < t570.length) = true := decide_eq_true (by omega)
    clear c25
    have HC26 := A0_ H
    clear H
    go_upto_if 60 with (first | (go_at_call 66; (with_reducible refine (cutplaneref03_Frac.calls a0 t568 _ A21.out).mono ?_); rintro e w' ⟨rfl, ⟨nd, rfl⟩⟩; (try first | exact ⟨rfl, _, World.drewN_drewN _ _ _⟩ | exact ⟨rfl, _, Eq.trans (World.drewN_drewN _ _ _) (congrArg (World.drewN _) (Nat.add_assoc _ _ _))⟩)) | (go_at_call 86; (with_reducible refine (cutplaneref03_Low.calls a0 t569 _ A22.out).mono ?_); rintro e w' ⟨rfl, ⟨nd, rfl⟩⟩; (try first | exact ⟨rfl, _, World.drewN_drewN _ _ _⟩ | exact ⟨rfl, _, Eq.trans (World.drewN_drewN _ _ _) (congrArg (World.drewN _) (Nat.add_assoc _ _ _))⟩); have hcz27 := bc3_ BK561.out; have hfz27 := bf3_ BK561.out) | (go_at_call 96; (with_reducible refine (cutplaneref01_Up.calls kj5 _ _ l1_1 (wrap64 (a1_2 - (wrap64 ((wrap64 (t563 - t568)) - 1)))) t570 _ ?side1 ?side2 A24.out).mono ?_); (case side1 => repeat (first | exact (Kd.C_below HR1_1.out qz_) | (with_reducible refine Kd.C_alloc ?_ _) | (with_reducible refine Kd.C_drewN ?_ _) | (with_reducible refine Kd.C_drew ?_))); (case side2 => exact HC1_1.out); rintro e w28 ⟨v571, rfl, ho0, hb⟩; have HO572 := A0_ (Kd.V_lower (Kd.V_mono (ok' := fun k_ => k_ ≠ gb561) ho0 (fun k_ hk_ => (Kd.freshB (bm_ BK561.out) k_ hk_))) (below_size qz_)); replace BK561 := bb_ BK561 hb; replace HB := hs_ hb; (try clear hb); (try clear ho0); obtain ⟨Ao29, co29, eo29⟩ := Kd.V_slice HO572.out; subst eo29; have p573 : 0 ≤ (0 : Int) := (by omega); have q573 : 0 < (t570.length : Int) := of_decide_eq_true (by first | (with_reducible assumption) | assumption); obtain ⟨ad573, e573, hx573_0⟩ := Kd.at_int (Kd.V_reads' HO572.out).2.2 0 p573 q573; cases e573; have qi573 : (0 < t570.length) = True := eq_true (by omega); (try rw [show ((0 : Int)).toNat = 0 from rfl] at hx573_0); (try rw [Addr.add_zero'] at hx573_0); replace p573 := eq_true p573; replace q573 := eq_true q573))
    repeat (go_quiet (first | (go_at_call 66; (with_reducible refine (cutplaneref03_Frac.calls a0 t568 _ A21.out).mono ?_); rintro e w' ⟨rfl, ⟨nd, rfl⟩⟩; (try first | exact ⟨rfl, _, World.drewN_drewN _ _ _⟩ | exact ⟨rfl, _, Eq.trans (World.drewN_drewN _ _ _) (congrArg (World.drewN _) (Nat.add_assoc _ _ _))⟩)) | (go_at_call 86; (with_reducible refine (cutplaneref03_Low.calls a0 t569 _ A22.out).mono ?_); rintro e w' ⟨rfl, ⟨nd, rfl⟩⟩; (try first | exact ⟨rfl, _, World.drewN_drewN _ _ _⟩ | exact ⟨rfl, _, Eq.trans (World.drewN_drewN _ _ _) (congrArg (World.drewN _) (Nat.add_assoc _ _ _))⟩); have hcz27 := bc3_ BK561.out; have hfz27 := bf3_ BK561.out) | (go_at_call 96; (with_reducible refine (cutplaneref01_Up.calls kj5 _ _ l1_1 (wrap64 (a1_2 - (wrap64 ((wrap64 (t563 - t568)) - 1)))) t570 _ ?side1 ?side2 A24.out).mono ?_); (case side1 => repeat (first | exact (Kd.C_below HR1_1.out qz_) | (with_reducible refine Kd.C_alloc ?_ _) | (with_reducible refine Kd.C_drewN ?_ _) | (with_reducible refine Kd.C_drew ?_))); (case side2 => exact HC1_1.out); rintro e w28 ⟨v571, rfl, ho0, hb⟩; have HO572 := A0_ (Kd.V_lower (Kd.V_mono (ok' := fun k_ => k_ ≠ gb561) ho0 (fun k_ hk_ => (Kd.freshB (bm_ BK561.out) k_ hk_))) (below_size qz_)); replace BK561 := bb_ BK561 hb; replace HB := hs_ hb; (try clear hb); (try clear ho0); obtain ⟨Ao29, co29, eo29⟩ := Kd.V_slice HO572.out; subst eo29; have p573 : 0 ≤ (0 : Int) := (by omega); have q573 : 0 < (t570.length : Int) := of_decide_eq_true (by first | (with_reducible assumption) | assumption); obtain ⟨ad573, e573, hx573_0⟩ := Kd.at_int (Kd.V_reads' HO572.out).2.2 0 p573 q573; cases e573; have qi573 : (0 < t570.length) = True := eq_true (by omega); (try rw [show ((0 : Int)).toNat = 0 from rfl] at hx573_0); (try rw [Addr.add_zero'] at hx573_0); replace p573 := eq_true p573; replace q573 := eq_true q573)); go_upto_if 60 with (first | (go_at_call 66; (with_reducible refine (cutplaneref03_Frac.calls a0 t568 _ A21.out).mono ?_); rintro e w' ⟨rfl, ⟨nd, rfl⟩⟩; (try first | exact ⟨rfl, _, World.drewN_drewN _ _ _⟩ | exact ⟨rfl, _, Eq.trans (World.drewN_drewN _ _ _) (congrArg (World.drewN _) (Nat.add_assoc _ _ _))⟩)) | (go_at_call 86; (with_reducible refine (cutplaneref03_Low.calls a0 t569 _ A22.out).mono ?_); rintro e w' ⟨rfl, ⟨nd, rfl⟩⟩; (try first | exact ⟨rfl, _, World.drewN_drewN _ _ _⟩ | exact ⟨rfl, _, Eq.trans (World.drewN_drewN _ _ _) (congrArg (World.drewN _) (Nat.add_assoc _ _ _))⟩); have hcz27 := bc3_ BK561.out; have hfz27 := bf3_ BK561.out) | (go_at_call 96; (with_reducible refine (cutplaneref01_Up.calls kj5 _ _ l1_1 (wrap64 (a1_2 - (wrap64 ((wrap64 (t563 - t568)) - 1)))) t570 _ ?side1 ?side2 A24.out).mono ?_); (case side1 => repeat (first | exact (Kd.C_below HR1_1.out qz_) | (with_reducible refine Kd.C_alloc ?_ _) | (with_reducible refine Kd.C_drewN ?_ _) | (with_reducible refine Kd.C_drew ?_))); (case side2 => exact HC1_1.out); rintro e w28 ⟨v571, rfl, ho0, hb⟩; have HO572 := A0_ (Kd.V_lower (Kd.V_mono (ok' := fun k_ => k_ ≠ gb561) ho0 (fun k_ hk_ => (Kd.freshB (bm_ BK561.out) k_ hk_))) (below_size qz_)); replace BK561 := bb_ BK561 hb; replace HB := hs_ hb; (try clear hb); (try clear ho0); obtain ⟨Ao29, co29, eo29⟩ := Kd.V_slice HO572.out; subst eo29; have p573 : 0 ≤ (0 : Int) := (by omega); have q573 : 0 < (t570.length : Int) := of_decide_eq_true (by first | (with_reducible assumption) | assumption); obtain ⟨ad573, e573, hx573_0⟩ := Kd.at_int (Kd.V_reads' HO572.out).2.2 0 p573 q573; cases e573; have qi573 : (0 < t570.length) = True := eq_true (by omega); (try rw [show ((0 : Int)).toNat = 0 from rfl] at hx573_0); (try rw [Addr.add_zero'] at hx573_0); replace p573 := eq_true p573; replace q573 := eq_true q573)))
    (try simp only [Act.put, sp_])
    go_cut [9] (fun v9 wc => ∃ (kq : Nat) (x9_25 : Int), v9 = .int .u64 x9_25 ∧ Aside0 (cutplaneref03_Of.j1 kq a0 (wrap64 ((wrap64 (t563 - t568)) - 1)) x9_25 a1_0 l1_1 a1_2 = some (r1, r2)) ∧ Aside0 (kq ≤ kj5) ∧ Aside0 (wc.heap[gb561]? = some (.cells #[.bool a1_0, (.slice A1_1 l1_1.length c1_1), .int .i64 a1_2] 69 (0, 0))) ∧ Aside0 (Below w.heap.size w wc))
    case first =>
     have H := HC26.out
     clear HC26
     by_cases c30 : (t570.length : Int) > 1
     ·rw [if_pos c30] at H
      have c30b0 : decide (1 < (t570.length : Int)) = true := decide_eq_true c30
      have c30b1 : decide (1 < t570.length) = true := decide_eq_true (by omega)
      clear c30
      (first | rw [c30b0] | (simp only [i64_w, i32_w]; rw [c30b0]) | skip)
      obtain ⟨(c31 : 1 < (t570.length : Int)), H⟩ := ic_ H
      have c31b0 : decide (1 < (t570.length : Int)) = true := decide_eq_true c31
      have c31b1 : decide (1 < t570.length) = true := decide_eq_true (by omega)
      clear c31
      have H' := A0_ H
      clear H
      have p574 : 0 ≤ (1 : Int) := (by omega)
      have q574 : 1 < (t570.length : Int) := of_decide_eq_true (by first | (with_reducible assumption) | assumption)
      obtain ⟨ad574, e574, hx574_0⟩ := Kd.at_int (Kd.V_reads' HO572.out).2.2 1 p574 q574
      obtain rfl : ad573 = ad574 := (by injection e574)
      (try simp only [show (1 : Int).toNat = 1 from rfl, Nat.reduceMul, Nat.reduceEqDiff, Go.Addr.add, ↓reduceIte] at hx574_0)
      have qi574 : (1 < t570.length) = True := eq_true (by omega)
      (try rw [show ((1 : Int)).toNat = 1 from rfl] at hx574_0)
      replace p574 := eq_true p574
      replace q574 := eq_true q574
      go_wp2
      repeat (go_quiet (fail); try go_wp2)
      go_meet
      case rel => exact ⟨_, (IntKind.u64.wrap ((IntKind.u64.wrap (rd t570 0)) + (IntKind.u64.wrap ((IntKind.u64.wrap (rd t570 1)) * 4294967296)))), (by first | rfl | (simp; done) | (simp [i64_w, i32_w]; done) | (simp [*]; done)), H', ⟨by have := HJ5.out; first | omega | exact Nat.le_refl _⟩, ⟨bm_ BK561.out⟩, ⟨qz_⟩⟩
     ·rw [if_neg c30] at H
      have c30b0 : decide (1 < (t570.length : Int)) = false := decide_eq_false c30
      have c30b1 : decide (1 < t570.length) = false := decide_eq_false (by omega)
      clear c30
      (first | rw [c30b0] | (simp only [i64_w, i32_w]; rw [c30b0]) | skip)
      have H' := A0_ H
      clear H
      go_wp2
      repeat (go_quiet (fail); try go_wp2)
      go_meet
      case rel => exact ⟨_, (IntKind.u64.wrap (rd t570 0)), (by first | rfl | (simp; done) | (simp [i64_w, i32_w]; done) | (simp [*]; done)), H', ⟨by have := HJ5.out; first | omega | exact Nat.le_refl _⟩, ⟨bm_ BK561.out⟩, ⟨qz_⟩⟩
    case rest =>
     clear HC26
     try clear c1
     try clear c2
     try clear p2
     try clear c3
     try clear c4
     try clear c4b0
     try clear c4b1
     try clear p5
     try clear q5
     try clear hx5
     try clear qi5
     try clear p6
     try clear c9
     try clear c13
     try clear c13b0
     try clear c15
     try clear c15b0
     try clear c20
     try clear c23
     try clear c23b0
     try clear c25
     try clear c25b0
     try clear c25b1
     try clear c30
     try clear c30b0
     try clear c30b1
     try clear c31
     try clear c31b0
     try clear c31b1
     try clear hcz10
     try clear hcz16
     try clear hcz19
     try clear hcz27
     try clear hcz8
     try clear hfz10
     try clear hfz16
     try clear hfz19
     try clear hfz27
     try clear hfz8
     try clear hx573_0
     try clear hx574_0
     try clear p2
     try clear p573
     try clear p574
     try clear p6
     try clear q573
     try clear q574
     obtain ⟨kq, x9_25, rfl, HA, HJ25, BK561, HB⟩ := hcut
     cases kq with
     | zero => exact absurd HA.out (by simp [cutplaneref03_Of.j1])
     | succ kj25 =>
      have H := HA.out
      clear HA
      simp only [cutplaneref03_Of.j1] at H
      replace H := Option.bind_eq_some_iff.mp H
      obtain ⟨t576, A320, H⟩ := H
      replace H : (if 0 ≤ t576 then (if (shr .u64 x9_25 t576) > 0 then ((cutplaneref03_Frac.f a0).bind fun t577 => (if 0 ≤ t577 then ((cutplaneref03_Low.f a0).bind fun t578 => ((cutplaneref03_Join.f a0 a1_0 (wrap64 ((wrap64 ((wrap64 ((wrap64 (t563 - t568)) - 1)) - t578)) + 1)) (IntKind.u64.wrap (x9_25 - (shl .u64 1 t577)))).bind fun t579 => (some (t579, true)))) else (none))) else ((cutplaneref03_Join.f a0 a1_0 0 x9_25).bind fun t580 => (some (t580, true)))) else (none)) = some (r1, r2) := H
      have A32 := A0_ A320
      obtain rfl : t568 = t576 := Option.some.inj (A21.out.symm.trans A32.out)
      clear A320
      obtain ⟨c33, H⟩ := ic_ H
      have c33b0 := eq_true c33
      have c33b1 : decide (0 ≤ t568) = true := decide_eq_true c33
      clear c33
      obtain ⟨ji34, hji34⟩ : ∃ j_ : Int, (shr .u64 x9_25 t568) = j_ := ⟨_, rfl⟩
      replace H : (if (ji34) > 0 then ((cutplaneref03_Frac.f a0).bind fun t577 => (if 0 ≤ t577 then ((cutplaneref03_Low.f a0).bind fun t578 => ((cutplaneref03_Join.f a0 a1_0 (wrap64 ((wrap64 ((wrap64 ((wrap64 (t563 - t568)) - 1)) - t578)) + 1)) (IntKind.u64.wrap (x9_25 - (shl .u64 1 t577)))).bind fun t579 => (some (t579, true)))) else (none))) else ((cutplaneref03_Join.f a0 a1_0 0 x9_25).bind fun t580 => (some (t580, true)))) = some (r1, r2) := by first | (rw [hji34] at H; exact H) | (simp only [hji34] at H ⊢; exact H)
      (try rw [hji34] at A32)
      have hji34_ : (x9_25 / 2 ^ min t568.toNat 64) = ji34 := hji34
      have hji34z : t568 ≤ 64 → (x9_25 / 2 ^ t568.toNat) = ji34 := shr_small hji34
      by_cases c35 : (ji34) > 0
      ·rw [if_pos c35] at H
       have c35b0 : decide (0 < (ji34)) = true := decide_eq_true c35
       clear c35
       replace H := Option.bind_eq_some_iff.mp H
       obtain ⟨t577, A360, H⟩ := H
       replace H : (if 0 ≤ t577 then ((cutplaneref03_Low.f a0).bind fun t578 => ((cutplaneref03_Join.f a0 a1_0 (wrap64 ((wrap64 ((wrap64 ((wrap64 (t563 - t568)) - 1)) - t578)) + 1)) (IntKind.u64.wrap (x9_25 - (shl .u64 1 t577)))).bind fun t579 => (some (t579, true)))) else (none)) = some (r1, r2) := H
       have A36 := A0_ A360
       obtain rfl : t568 = t577 := Option.some.inj (A21.out.symm.trans A36.out)
       clear A360
       obtain ⟨c37, H⟩ := ic_ H
       have c37b0 := eq_true c37
       have c37b1 : decide (0 ≤ t568) = true := decide_eq_true c37
       clear c37
       obtain ⟨ji38, hji38⟩ : ∃ j_ : Int, (shl .u64 1 t568) = j_ := ⟨_, rfl⟩
       replace H : ((cutplaneref03_Low.f a0).bind fun t578 => ((cutplaneref03_Join.f a0 a1_0 (wrap64 ((wrap64 ((wrap64 ((wrap64 (t563 - t568)) - 1)) - t578)) + 1)) (IntKind.u64.wrap (x9_25 - (ji38)))).bind fun t579 => (some (t579, true)))) = some (r1, r2) := by first | (rw [hji38] at H; exact H) | (simp only [hji38] at H ⊢; exact H)
       (try rw [hji38] at A32)
       (try rw [hji38] at A36)
       have hji38_ : (IntKind.u64.wrap (1 * 2 ^ min t568.toNat 64)) = ji38 := hji38
       have hji38z : t568 ≤ 64 → (IntKind.u64.wrap (1 * 2 ^ t568.toNat)) = ji38 := shl_small hji38
       have hji38u : (IntKind.u64.wrap (2 ^ min t568.toNat 64)) = ji38 := by have h_ := hji38_; rw [Int.one_mul] at h_; exact h_
       have hji38v : t568 ≤ 64 → (IntKind.u64.wrap (2 ^ t568.toNat)) = ji38 := fun hle_ => by have h_ := hji38z hle_; rw [Int.one_mul] at h_; exact h_
       replace H := Option.bind_eq_some_iff.mp H
       obtain ⟨t578, A390, H⟩ := H
       replace H : ((cutplaneref03_Join.f a0 a1_0 (wrap64 ((wrap64 ((wrap64 ((wrap64 (t563 - t568)) - 1)) - t578)) + 1)) (IntKind.u64.wrap (x9_25 - (ji38)))).bind fun t579 => (some (t579, true))) = some (r1, r2) := H
       have A39 := A0_ A390
       obtain rfl : t569 = t578 := Option.some.inj (A22.out.symm.trans A39.out)
       clear A390
       obtain ⟨t579, A40, H⟩ := bs_ H
       try dsimp -simprocs only at H
       simp only [Option.some.injEq, Prod.mk.injEq] at H
       obtain ⟨rfl, rfl⟩ := H
       have hcz41 := bc3_ BK561.out
       have hfz41 := bf3_ BK561.out
       go_upto_region 17 with (first | ((with_reducible refine gate_dst (N := 10) rfl ?_); refine box_event ?hg (N := 10) ?hd (cs := #[.bool false, .int .i64 0, .int .u64 0]) (t := 93) ?hr ?_; (case hd => rfl); (case hg => rfl); (case hr => first | (go_simp; done) | (go_simp; rfl)); intro gb575 hg w42 hbox hb; have BK575 := A0_ (hbox); have GW575 := A0_ ((by rw [hg]; exact (below_size qz_) : w.heap.size ≤ gb575)); have GE575 := GW575; replace HB := hs_ hb; have NB561_575 := nl_ hg BK561; have NB575_561 := ng_ hg BK561; replace BK561 := bb_ BK561 hb; clear hb hbox hg; have hnb43 := NB575_561.out; have hnc43 := NB561_575.out; have hcz44 := bc3_ BK575.out; have hfz44 := bf3_ BK575.out) | (go_at_call 66; (with_reducible refine (cutplaneref03_Frac.calls a0 t568 _ A32.out).mono ?_); rintro e w' ⟨rfl, ⟨nd, rfl⟩⟩; (try first | exact ⟨rfl, _, World.drewN_drewN _ _ _⟩ | exact ⟨rfl, _, Eq.trans (World.drewN_drewN _ _ _) (congrArg (World.drewN _) (Nat.add_assoc _ _ _))⟩)) | (go_at_call 66; (with_reducible refine (cutplaneref03_Frac.calls a0 t568 _ A36.out).mono ?_); rintro e w' ⟨rfl, ⟨nd, rfl⟩⟩; (try first | exact ⟨rfl, _, World.drewN_drewN _ _ _⟩ | exact ⟨rfl, _, Eq.trans (World.drewN_drewN _ _ _) (congrArg (World.drewN _) (Nat.add_assoc _ _ _))⟩)) | (go_at_call 86; (with_reducible refine (cutplaneref03_Low.calls a0 t569 _ A39.out).mono ?_); rintro e w' ⟨rfl, ⟨nd, rfl⟩⟩; (try first | exact ⟨rfl, _, World.drewN_drewN _ _ _⟩ | exact ⟨rfl, _, Eq.trans (World.drewN_drewN _ _ _) (congrArg (World.drewN _) (Nat.add_assoc _ _ _))⟩)) | (go_at_call 50; (with_reducible refine (cutplaneref03_Join.calls a0 a1_0 (wrap64 ((wrap64 ((wrap64 ((wrap64 (t563 - t568)) - 1)) - t569)) + 1)) (IntKind.u64.wrap (x9_25 - (ji38))) t579 _ A40.out).mono ?_); rintro e w45 ⟨rfl, hb⟩; replace BK561 := A0_ (blk_below (g := gb561) (o := .cells #[.bool a1_0, .slice A1_1 l1_1.length c1_1, .int .i64 a1_2] 69 (0, 0)) (by (with_reducible repeat first | apply bN_ | apply bD_ | apply bA_); refine blk_far ?_ NB561_575.out _; refine blk_far ?_ NB561_575.out _; refine blk_far ?_ NB561_575.out _; refine blk_far ?_ NB561_575.out _; refine blk_far ?_ NB561_575.out _; exact bm_ BK561.out) hb); replace BK575 := A0_ (blk_below (g := gb575) (o := .cells #[.bool a1_0, .int .i64 (wrap64 ((wrap64 ((wrap64 ((wrap64 (t563 - t568)) - 1)) - t569)) + 1)), .int .u64 (IntKind.u64.wrap (x9_25 - (ji38)))] 93 (0, 0)) (by (with_reducible repeat first | apply bN_ | apply bD_ | apply bA_); refine blk_put (cs := #[.bool a1_0, .int .i64 0, .int .u64 (IntKind.u64.wrap (x9_25 - (ji38)))]) ?_ 1 _ rfl; refine blk_put (cs := #[.bool a1_0, .int .i64 0, .int .u64 x9_25]) ?_ 2 _ rfl; refine blk_put (cs := #[.bool a1_0, .int .i64 0, .int .u64 0]) ?_ 2 _ rfl; refine blk_put (cs := #[.bool a1_0, .int .i64 0, .int .u64 0]) ?_ 1 _ rfl; refine blk_put (cs := #[.bool false, .int .i64 0, .int .u64 0]) ?_ 0 _ rfl; exact bm_ BK575.out) hb); replace HB := hs_ hb; (try clear hb)))
       refine genw2_ (w0 := w) (g1 := gb561) (g2 := gb575) (o1 := .cells #[.bool a1_0, .slice A1_1 l1_1.length c1_1, .int .i64 a1_2] 69 (0, 0)) (o2 := .cells #[.bool a1_0, .int .i64 (wrap64 ((wrap64 ((wrap64 ((wrap64 (t563 - t568)) - 1)) - t569)) + 1)), .int .u64 (IntKind.u64.wrap (x9_25 - (ji38)))] 93 (0, 0)) (by (with_reducible repeat first | apply bN_ | apply bD_ | apply bA_); refine blk_far ?_ NB561_575.out _; refine blk_far ?_ NB561_575.out _; refine blk_far ?_ NB561_575.out _; refine blk_far ?_ NB561_575.out _; refine blk_far ?_ NB561_575.out _; exact bm_ BK561.out) (by (with_reducible repeat first | apply bN_ | apply bD_ | apply bA_); refine blk_put (cs := #[.bool a1_0, .int .i64 0, .int .u64 (IntKind.u64.wrap (x9_25 - (ji38)))]) ?_ 1 _ rfl; refine blk_put (cs := #[.bool a1_0, .int .i64 0, .int .u64 x9_25]) ?_ 2 _ rfl; refine blk_put (cs := #[.bool a1_0, .int .i64 0, .int .u64 0]) ?_ 2 _ rfl; refine blk_put (cs := #[.bool a1_0, .int .i64 0, .int .u64 0]) ?_ 1 _ rfl; refine blk_put (cs := #[.bool false, .int .i64 0, .int .u64 0]) ?_ 0 _ rfl; exact bm_ BK575.out) qz_ ?_
       clear BK561 BK575 HB
       intro wx_ f1_ f2_ fb_
       have BK561 := A0_ f1_
       have BK575 := A0_ f2_
       have HB := A0_ fb_
       clear f1_ f2_ fb_
       have hcy1_ := bc3_ BK561.out
       have hcy2_ := bc3_ BK575.out
       go_wp2_with (first | (go_at_call 50; (with_reducible refine (cutplaneref03_Join.calls a0 a1_0 (wrap64 ((wrap64 ((wrap64 ((wrap64 (t563 - t568)) - 1)) - t569)) + 1)) (IntKind.u64.wrap (x9_25 - (ji38))) t579 _ A40.out).mono ?_); rintro e wy_ ⟨rfl, hb⟩; have n2_ := A0_ (below_step HB.out hb); clear HB; have HB := n2_; clear n2_ hb))
       go_ret2
       exact ⟨by first | rfl | (simp [errW_none, errW_some] <;> rfl) | (simp only [← hji34, ← hji38]; first | rfl | (simp [errW_none, errW_some] <;> rfl)) | (simp [*, errW_none, errW_some] <;> rfl), qz_⟩
      ·rw [if_neg c35] at H
       have c35b0 : decide (0 < (ji34)) = false := decide_eq_false c35
       clear c35
       obtain ⟨t580, A46, H⟩ := bs_ H
       try dsimp -simprocs only at H
       simp only [Option.some.injEq, Prod.mk.injEq] at H
       obtain ⟨rfl, rfl⟩ := H
       have hcz47 := bc3_ BK561.out
       have hfz47 := bf3_ BK561.out
       go_upto_region 17 with (first | ((with_reducible refine gate_dst (N := 10) rfl ?_); refine box_event ?hg (N := 10) ?hd (cs := #[.bool false, .int .i64 0, .int .u64 0]) (t := 93) ?hr ?_; (case hd => rfl); (case hg => rfl); (case hr => first | (go_simp; done) | (go_simp; rfl)); intro gb575 hg w48 hbox hb; have BK575 := A0_ (hbox); have GW575 := A0_ ((by rw [hg]; exact (below_size qz_) : w.heap.size ≤ gb575)); have GE575 := GW575; replace HB := hs_ hb; have NB561_575 := nl_ hg BK561; have NB575_561 := ng_ hg BK561; replace BK561 := bb_ BK561 hb; clear hb hbox hg; have hnb49 := NB575_561.out; have hnc49 := NB561_575.out; have hcz50 := bc3_ BK575.out; have hfz50 := bf3_ BK575.out) | (go_at_call 66; (with_reducible refine (cutplaneref03_Frac.calls a0 t568 _ A32.out).mono ?_); rintro e w' ⟨rfl, ⟨nd, rfl⟩⟩; (try first | exact ⟨rfl, _, World.drewN_drewN _ _ _⟩ | exact ⟨rfl, _, Eq.trans (World.drewN_drewN _ _ _) (congrArg (World.drewN _) (Nat.add_assoc _ _ _))⟩)) | (go_at_call 50; (with_reducible refine (cutplaneref03_Join.calls a0 a1_0 0 x9_25 t580 _ A46.out).mono ?_); rintro e w51 ⟨rfl, hb⟩; replace BK561 := A0_ (blk_below (g := gb561) (o := .cells #[.bool a1_0, .slice A1_1 l1_1.length c1_1, .int .i64 a1_2] 69 (0, 0)) (by (with_reducible repeat first | apply bN_ | apply bD_ | apply bA_); refine blk_far ?_ NB561_575.out _; refine blk_far ?_ NB561_575.out _; refine blk_far ?_ NB561_575.out _; exact bm_ BK561.out) hb); replace BK575 := A0_ (blk_below (g := gb575) (o := .cells #[.bool a1_0, .int .i64 0, .int .u64 x9_25] 93 (0, 0)) (by (with_reducible repeat first | apply bN_ | apply bD_ | apply bA_); refine blk_put (cs := #[.bool a1_0, .int .i64 0, .int .u64 0]) ?_ 2 _ rfl; refine blk_put (cs := #[.bool a1_0, .int .i64 0, .int .u64 0]) ?_ 1 _ rfl; refine blk_put (cs := #[.bool false, .int .i64 0, .int .u64 0]) ?_ 0 _ rfl; exact bm_ BK575.out) hb); replace HB := hs_ hb; (try clear hb)))
       refine genw2_ (w0 := w) (g1 := gb561) (g2 := gb575) (o1 := .cells #[.bool a1_0, .slice A1_1 l1_1.length c1_1, .int .i64 a1_2] 69 (0, 0)) (o2 := .cells #[.bool a1_0, .int .i64 0, .int .u64 x9_25] 93 (0, 0)) (by (with_reducible repeat first | apply bN_ | apply bD_ | apply bA_); refine blk_far ?_ NB561_575.out _; refine blk_far ?_ NB561_575.out _; refine blk_far ?_ NB561_575.out _; exact bm_ BK561.out) (by (with_reducible repeat first | apply bN_ | apply bD_ | apply bA_); refine blk_put (cs := #[.bool a1_0, .int .i64 0, .int .u64 0]) ?_ 2 _ rfl; refine blk_put (cs := #[.bool a1_0, .int .i64 0, .int .u64 0]) ?_ 1 _ rfl; refine blk_put (cs := #[.bool false, .int .i64 0, .int .u64 0]) ?_ 0 _ rfl; exact bm_ BK575.out) qz_ ?_
       clear BK561 BK575 HB
       intro wx_ f1_ f2_ fb_
       have BK561 := A0_ f1_
       have BK575 := A0_ f2_
       have HB := A0_ fb_
       clear f1_ f2_ fb_
       have hcy1_ := bc3_ BK561.out
       have hcy2_ := bc3_ BK575.out
       go_wp2_with (first | (go_at_call 50; (with_reducible refine (cutplaneref03_Join.calls a0 a1_0 0 x9_25 t580 _ A46.out).mono ?_); rintro e wy_ ⟨rfl, hb⟩; have n2_ := A0_ (below_step HB.out hb); clear HB; have HB := n2_; clear n2_ hb))
       go_ret2
       exact ⟨by first | rfl | (simp [errW_none, errW_some] <;> rfl) | (simp only [← hji34]; first | rfl | (simp [errW_none, errW_some] <;> rfl)) | (simp [*, errW_none, errW_some] <;> rfl), qz_⟩
end Go.Proofs.Ytlgapmhjaaajfaa.PA
end

section
namespace Go.Proofs.Ytlgapmhjaaajfaa.PA
open Go.RowKit Go.Proofs.YtlgapmhjaaajfaaW.PrintWords Go.Proofs.YtlgapmhjaaajfaaW.PrintLast Go.Proofs.YtlgapmhjaaajfaaW.PrintMore
attribute [local go_sem] max2_int min2_int max_two min_two max_three min_three max_four min_four   -- for this text's walks alone
set_option linter.unusedVariables false
set_option linter.unusedSimpArgs false
def cutplaneref02_Abs.f (a0_0 : Bool) (l0_1 : List Int) (a0_2 : Int) : Option (Bool × List Int × Int) := some (false, l0_1, a0_2)
theorem cutplaneref02_Abs.calls (a0_0 : Bool) (P0_1_ : Nat → Prop) (A0_1 : Option Addr) (c0_1 : Nat) (l0_1 : List Int) (a0_2 : Int) (r1 : Bool) (r2 : List Int) (r3 : Int) (w : World) (hs0_1 : Kd.V (Kd.int .u32) 66 w w.heap.size (fun k_ => P0_1_ k_) (.slice A0_1 l0_1.length c0_1) l0_1) (h : cutplaneref02_Abs.f a0_0 l0_1 a0_2 = some (r1, r2, r3)) :
  Calls Try.prog 91 #[.agg #[.bool a0_0, .slice A0_1 l0_1.length c0_1, .int .i64 a0_2]] w fun e w' => ∃ v1_ : Value, e = .returned (.agg #[.bool r1, v1_, .int .i64 r3]) ∧ Kd.V (Kd.int .u32) 66 w' w.heap.size (fun k_ => (P0_1_ k_ ∨ w.heap.size ≤ k_)) v1_ r2 ∧ Below w.heap.size w w' := by
 have hu69 := Try.underlying69
 have HO0_1 := A0_ (show Kd.V (Kd.int .u32) 66 w w.heap.size (fun k_ => (P0_1_ k_ ∨ w.heap.size ≤ k_)) (.slice A0_1 l0_1.length c0_1) l0_1 from Kd.V_mono hs0_1 (fun k_ hk => .inl hk))
 have HB := A0_ (Below.refl w.heap.size w)
 have H := h
 clear h
 unfold cutplaneref02_Abs.f at H
 simp only [Option.some.injEq, Prod.mk.injEq] at H
 obtain ⟨rfl, rfl, rfl⟩ := H
 go_enter Try.func91, Try.ntmps91
 go_wp2_with (first | ((with_reducible refine gate_dst (N := 1) rfl ?_); refine box_event ?hg (N := 1) ?hd (cs := #[.bool a0_0, .slice A0_1 l0_1.length c0_1, .int .i64 a0_2]) (t := 69) ?hr ?_; (case hd => rfl); (case hg => rfl); (case hr => first | (go_simp; done) | (go_simp; rfl)); intro gb581 hg w2 hbox hb; replace HO0_1 := A0_ (Kd.V_below (Kd.V_elderB (by exact vm_ HO0_1.out) gb581 (Nat.le_of_eq hg.symm)) hb); have BK581 := A0_ (hbox); have GW581 := A0_ ((by rw [hg]; exact (below_size (qm_ HB.out)) : w.heap.size ≤ gb581)); have GE581 := GW581; replace HB := hs_ hb; clear hb hbox hg) | ((with_reducible refine gate_dst (N := 2) rfl ?_); refine box_event ?hg (N := 2) ?hd (cs := #[.bool false, .slice none 0 0, .int .i64 0]) (t := 69) ?hr ?_; (case hd => rfl); (case hg => rfl); (case hr => first | (go_simp; done) | (go_simp; rfl)); intro gb582 hg w3 hbox hb; replace HO0_1 := A0_ (Kd.V_below (Kd.V_elderB (by exact vm_ HO0_1.out) gb582 (Nat.le_of_eq hg.symm)) hb); have BK582 := A0_ (hbox); have GW582 := A0_ ((by rw [hg]; exact (below_size qz_) : w.heap.size ≤ gb582)); have GE582 := GW582; replace HB := hs_ hb; have NB581_582 := nl_ hg BK581; have NB582_581 := ng_ hg BK581; replace BK581 := bb_ BK581 hb; clear hb hbox hg; have hnb4 := NB581_582.out; have hnc4 := NB582_581.out; have hcz5 := bc3_ BK581.out; have hfz5 := bf3_ BK581.out; have hcz6 := bc3_ BK582.out; have hfz6 := bf3_ BK582.out))
 refine bodyPost_ret (results_cell_row rfl _ _ gb582 69 #[.bool false, .slice A0_1 l0_1.length c0_1, .int .i64 a0_2] (0, 0) _ rfl (by (with_reducible repeat first | apply bN_ | apply bD_ | apply bA_); refine blk_put (cs := #[.bool false, .slice A0_1 l0_1.length c0_1, .int .i64 0]) ?_ 2 _ rfl; refine blk_put (cs := #[.bool false, .slice none 0 0, .int .i64 0]) ?_ 1 _ rfl; refine blk_put (cs := #[.bool false, .slice none 0 0, .int .i64 0]) ?_ 0 _ rfl; refine blk_far ?_ NB582_581.out _; exact bm_ BK582.out) Try.underlying69 rfl (by kernel_rfl)) rfl ?_
 exact ⟨_, by first | rfl | (simp [errW_none, errW_some] <;> rfl) | (simp [*, errW_none, errW_some] <;> rfl), by (with_reducible repeat (first | apply Kd.V_alloc | apply Kd.V_drewN | apply Kd.V_drew)); exact Kd.V_mono (Kd.V_far (p := ⟨gb582, 2, none⟩) (Kd.V_far (p := ⟨gb582, 1, none⟩) (Kd.V_far (p := ⟨gb582, 0, none⟩) (Kd.V_far (p := ⟨gb581, 0, none⟩) (Kd.V_mono (Kd.V_mono HO0_1.out (fun k_ hk => (⟨hk, hk.1.2⟩ : _ ∧ k_ ≠ gb581))) (fun k_ hk => (⟨hk, hk.1.2⟩ : _ ∧ k_ ≠ gb582))) (fun _ hk => hk.1.2) (.bool false)) (fun _ hk => hk.2) (.bool false)) (fun _ hk => hk.2) (.slice A0_1 l0_1.length c0_1)) (fun _ hk => hk.2) (.int .i64 a0_2)) (fun _ hk => hk.1.1.1.1), qz_⟩
def cutplaneref04_Round.f (k : Nat) (a0 : Int) (a1 : Int) (a2_0 : Bool) (l2_1 : List Int) (a2_2 : Int) : Option (Int × Int) := (cutplaneref02_Sign.f a2_0 l2_1 a2_2).bind fun t584 => (if t584 = 0 then (none) else ((cutplaneref03_Frac.f a0).bind fun t585 => ((cutplaneref02_Top.f k a2_0 l2_1 a2_2).bind fun t586 => ((cutplaneref03_Low.f a0).bind fun t587 => (if (wrap64 (t586 - (wrap64 (t585 + 1)))) < t587 then (none) else ((cutplaneref04_Taken.f k a1 a2_0 l2_1 a2_2 (wrap64 (t586 - (wrap64 (t585 + 1))))).bind fun bt588 => ((cutplaneref02_Top.f k bt588.1 bt588.2.1 bt588.2.2).bind fun t594 => ((cutplaneref03_Wide.f a0).bind fun t595 => (if t594 > t595 then (none) else ((cutplaneref02_Abs.f bt588.1 bt588.2.1 bt588.2.2).bind fun bt596 => ((cutplaneref03_Of.f k a0 bt596.1 bt596.2.1 bt596.2.2).bind fun bt601 => ((cutplaneref03_Signed.f a0 bt601.1 a2_0).bind fun t603 => ((cutplaneref02_Same.f k a2_0 l2_1 a2_2 bt588.1 bt588.2.1 bt588.2.2).bind fun t604 => (if t604 = true then (some (t603, 0)) else (none)))))))))))))))
theorem cutplaneref04_Round.mono : ∀ a0 a1 a2 a3 a4 k, LeO (cutplaneref04_Round.f k a0 a1 a2 a3 a4) (cutplaneref04_Round.f (k + 1) a0 a1 a2 a3 a4) := by
 intro a0 a1 a2 a3 a4 k
 unfold cutplaneref04_Round.f
 repeat' first
   | (with_reducible exact cutplaneref02_Same.mono _ _ _ _ _ _ _)
   | (with_reducible exact cutplaneref02_Top.mono _ _ _ _)
   | (with_reducible exact cutplaneref03_Of.mono _ _ _ _ _)
   | (with_reducible exact cutplaneref04_Taken.mono _ _ _ _ _ _)
   | (with_reducible exact LeO.refl _)
   | (with_reducible exact LeO.none _)
   | (with_reducible refine LeO.ite ?_ ?_)
   | (with_reducible refine LeO.bind ?_ (fun _ => ?_))
   | exact cutplaneref02_Same.mono _ _ _ _ _ _ _
   | exact cutplaneref02_Top.mono _ _ _ _
   | exact cutplaneref03_Of.mono _ _ _ _ _
   | exact cutplaneref04_Taken.mono _ _ _ _ _ _
   | exact LeO.none _
   | refine LeO.ite ?_ ?_
   | refine LeO.bind ?_ (fun _ => ?_)
theorem cutplaneref04_Round.calls (k : Nat) (a0 : Int) (a1 : Int) (a2_0 : Bool) (A2_1 : Option Addr) (c2_1 : Nat) (l2_1 : List Int) (a2_2 : Int) (r1 : Int) (r2 : Int) (w : World) (hr2_1 : Kd.C (Kd.int .u32) w A2_1 l2_1.length l2_1) (hc2_1 : l2_1.length ≤ c2_1) (h : cutplaneref04_Round.f k a0 a1 a2_0 l2_1 a2_2 = some (r1, r2)) :
  Calls Try.prog 72 #[.int .u8 a0, .int .u8 a1, .agg #[.bool a2_0, .slice A2_1 l2_1.length c2_1, .int .i64 a2_2]] w fun e w' => e = .returned (.tuple #[.int .u64 r1, .int .u8 r2]) ∧ Below w.heap.size w w' := by
 have hu69 := Try.underlying69
 have HR2_1 := A0_ hr2_1
 have HC2_1 := A0_ hc2_1
 clear hr2_1 hc2_1
 have HB := A0_ (Below.refl w.heap.size w)
 have H := h
 clear h
 unfold cutplaneref04_Round.f at H
 obtain ⟨t584, A4, H⟩ := bs_ H
 try dsimp -simprocs only at H
 obtain ⟨c5, H⟩ := id_ H
 have c5b0 : (t584 == 0) = false := beq_eq_false_iff_ne.mpr c5
 have c5b1 : (t584 != 0) = true := bne_iff_ne.mpr c5
 obtain ⟨t585, A6, H⟩ := bs_ H
 try dsimp -simprocs only at H
 obtain ⟨t586, A7, H⟩ := bs_ H
 try dsimp -simprocs only at H
 obtain ⟨t587, A8, H⟩ := bs_ H
 try dsimp -simprocs only at H
 obtain ⟨c9, H⟩ := id_ H
 have c9b0 : decide ((wrap64 (t586 - (wrap64 (t585 + 1)))) < t587) = false := decide_eq_false c9
 clear c9
 obtain ⟨⟨t588, t589, t592⟩, A10, H⟩ := bs_ H
 try dsimp -simprocs only at H
 obtain ⟨t594, A11, H⟩ := bs_ H
 try dsimp -simprocs only at H
 obtain ⟨t595, A12, H⟩ := bs_ H
 try dsimp -simprocs only at H
 obtain ⟨c13, H⟩ := id_ H
 have c13b0 : decide (t595 < t594) = false := decide_eq_false c13
 clear c13
 obtain ⟨⟨t596, t597, t600⟩, A14, H⟩ := bs_ H
 try dsimp -simprocs only at H
 obtain ⟨⟨t601, t602⟩, A15, H⟩ := bs_ H
 try dsimp -simprocs only at H
 obtain ⟨t603, A16, H⟩ := bs_ H
 try dsimp -simprocs only at H
 obtain ⟨t604, A17, H⟩ := bs_ H
 try dsimp -simprocs only at H
 by_cases c18 : t604 = true
 ·subst c18
  rw [if_pos rfl] at H
  simp only [Option.some.injEq, Prod.mk.injEq] at H
  obtain ⟨rfl, rfl⟩ := H
  go_enter Try.func72, Try.ntmps72
  go_wp2_with (first | ((with_reducible refine gate_dst (N := 5) rfl ?_); refine box_event ?hg (N := 5) ?hd (cs := #[.bool a2_0, .slice A2_1 l2_1.length c2_1, .int .i64 a2_2]) (t := 69) ?hr ?_; (case hd => rfl); (case hg => rfl); (case hr => first | (go_simp; done) | (go_simp; rfl)); intro gb583 hg w19 hbox hb; have BK583 := A0_ (hbox); have GW583 := A0_ ((by rw [hg]; exact (below_size (qm_ HB.out)) : w.heap.size ≤ gb583)); have GE583 := GW583; replace HB := hs_ hb; clear hb hbox hg; have hcz20 := bc3_ BK583.out; have hfz20 := bf3_ BK583.out) | ((with_reducible refine gate_callee (f := 76) rfl ?_); refine goesL_ (some 15) rfl rfl Try.func76 (by kernel_rfl) rfl #[.agg #[.bool a2_0, .slice A2_1 l2_1.length c2_1, .int .i64 a2_2]] rfl (am_ rfl) ?_; (with_reducible refine (cutplaneref02_Sign.calls a2_0 _ _ l2_1 a2_2 t584 _ ?side1 ?side2 A4.out).mono ?_); (case side1 => repeat (first | exact (Kd.C_below HR2_1.out HB.out) | (with_reducible refine Kd.C_alloc ?_ _) | (with_reducible refine Kd.C_drewN ?_ _) | (with_reducible refine Kd.C_drew ?_))); (case side2 => exact HC2_1.out); rintro e w21 ⟨rfl, hb⟩; refine ⟨_, rfl, ?_⟩; replace BK583 := bb_ BK583 hb; replace HB := hs_ hb; (try clear hb)) | ((with_reducible refine gate_callee (f := 66) rfl ?_); refine goesL_ (some 18) rfl rfl Try.func66 (by kernel_rfl) rfl #[.int .u8 a0] rfl (am_ rfl) ?_; (with_reducible refine (cutplaneref03_Frac.calls a0 t585 _ A6.out).mono ?_); rintro e w' ⟨rfl, ⟨nd, rfl⟩⟩; refine ⟨_, rfl, ?_⟩; (try (rw [drewN_self w21]; generalize hq_ : World.drewN w21 _ = w21; have n0_ : Aside0 (w21.heap[gb583]? = some (.cells #[.bool a2_0, .slice A2_1 l2_1.length c2_1, .int .i64 a2_2] 69 (0, 0))) := ⟨by rw [← hq_]; exact (bm_ BK583.out)⟩; have n1_ : Aside0 (Below w.heap.size w w21) := ⟨by rw [← hq_]; exact qz_⟩; clear BK583 HB hq_; have BK583 := n0_; have HB := n1_; clear n0_ n1_)); have hcz22 := bc3_ BK583.out; have hfz22 := bf3_ BK583.out) | ((with_reducible refine gate_callee (f := 85) rfl ?_); refine goesL_ (some 21) rfl rfl Try.func85 (by kernel_rfl) rfl #[.agg #[.bool a2_0, .slice A2_1 l2_1.length c2_1, .int .i64 a2_2]] rfl (am_ rfl) ?_; (with_reducible refine (cutplaneref02_Top.calls k a2_0 _ _ l2_1 a2_2 t586 _ ?side1 ?side2 A7.out).mono ?_); (case side1 => repeat (first | exact (Kd.C_below HR2_1.out HB.out) | (with_reducible refine Kd.C_alloc ?_ _) | (with_reducible refine Kd.C_drewN ?_ _) | (with_reducible refine Kd.C_drew ?_))); (case side2 => exact HC2_1.out); rintro e w23 ⟨rfl, hb⟩; refine ⟨_, rfl, ?_⟩; replace BK583 := bb_ BK583 hb; replace HB := hs_ hb; (try clear hb)) | ((with_reducible refine gate_callee (f := 86) rfl ?_); refine goesL_ (some 27) rfl rfl Try.func86 (by kernel_rfl) rfl #[.int .u8 a0] rfl (am_ rfl) ?_; (with_reducible refine (cutplaneref03_Low.calls a0 t587 _ A8.out).mono ?_); rintro e w' ⟨rfl, ⟨nd, rfl⟩⟩; refine ⟨_, rfl, ?_⟩; (try (rw [drewN_self w23]; generalize hq_ : World.drewN w23 _ = w23; have n0_ : Aside0 (w23.heap[gb583]? = some (.cells #[.bool a2_0, .slice A2_1 l2_1.length c2_1, .int .i64 a2_2] 69 (0, 0))) := ⟨by rw [← hq_]; exact (bm_ BK583.out)⟩; have n1_ : Aside0 (Below w.heap.size w w23) := ⟨by rw [← hq_]; exact qz_⟩; clear BK583 HB hq_; have BK583 := n0_; have HB := n1_; clear n0_ n1_)); have hcz24 := bc3_ BK583.out; have hfz24 := bf3_ BK583.out) | ((with_reducible refine gate_callee (f := 87) rfl ?_); refine goesL_ (some 34) rfl rfl Try.func87 (by kernel_rfl) rfl #[.int .u8 a1, .agg #[.bool a2_0, .slice A2_1 l2_1.length c2_1, .int .i64 a2_2], .int .i64 (wrap64 (t586 - (wrap64 (t585 + 1))))] rfl (am_ rfl) ?_; (with_reducible refine (cutplaneref04_Taken.calls k a1 a2_0 (fun k_ => k_ < w.heap.size) _ _ l2_1 a2_2 (wrap64 (t586 - (wrap64 (t585 + 1)))) t588 t589 t592 _ ?side1 A10.out).mono ?_); (case side1 => exact Kd.V_mk HC2_1.out (Kd.F_below (Kd.C_F (Kd.heap_int .u32) HR2_1.out) qz_)); rintro e w25 ⟨v590, rfl, ho0, hb⟩; refine ⟨_, rfl, ?_⟩; have HO591 := A0_ (Kd.V_lower (Kd.V_mono (ok' := fun k_ => k_ ≠ gb583) ho0 (fun k_ hk_ => Or.elim hk_ (fun hs_ => fun e_ => Nat.not_le.2 hs_ (by rw [e_]; exact GW583.out)) (fun hn_ => (Kd.freshB (bm_ BK583.out) k_ hn_)))) (below_size qz_)); replace BK583 := bb_ BK583 hb; replace HB := hs_ hb; (try clear hb); (try clear ho0)) | ((with_reducible refine gate_dst (N := 11) rfl ?_); refine box_event ?hg (N := 11) ?hd (cs := #[.bool false, .slice none 0 0, .int .i64 0]) (t := 69) ?hr ?_; (case hd => rfl); (case hg => rfl); (case hr => first | (go_simp; done) | (go_simp; rfl)); intro gb593 hg w26 hbox hb; replace HO591 := A0_ (Kd.V_below (Kd.V_elderB (by exact vm_ HO591.out) gb593 (Nat.le_of_eq hg.symm)) hb); have BK593 := A0_ (hbox); have GW593 := A0_ ((by rw [hg]; exact (below_size qz_) : w.heap.size ≤ gb593)); have GE593 := GW593; replace HB := hs_ hb; have NB583_593 := nl_ hg BK583; have NB593_583 := ng_ hg BK583; replace BK583 := bb_ BK583 hb; clear hb hbox hg; have hnb27 := NB593_583.out; have hnc27 := NB583_593.out; have hcz28 := bc3_ BK593.out; have hfz28 := bf3_ BK593.out; obtain ⟨Ao29, co29, eo29⟩ := Kd.V_slice HO591.out; subst eo29) | ((with_reducible refine gate_callee (f := 85) rfl ?_); refine goesL_ (some 36) rfl rfl Try.func85 (by kernel_rfl) rfl #[.agg #[.bool t588, .slice Ao29 t589.length co29, .int .i64 t592]] rfl (am_ rfl) ?_; (with_reducible refine (cutplaneref02_Top.calls k t588 _ _ t589 t592 t594 _ ?side1 ?side2 A11.out).mono ?_); (case side1 => refine (Kd.V_reads' (e := 66) (base := w.heap.size) (ok := fun k_ => (k_ ≠ gb583 ∧ k_ ≠ gb593)) (n := t589.length) (c := co29) ?_).2.2; exact (by (with_reducible repeat (first | apply Kd.V_alloc | apply Kd.V_drewN | apply Kd.V_drew)); exact (Kd.V_mono (Kd.V_far (p := ⟨gb593, 2, none⟩) (Kd.V_far (p := ⟨gb593, 1, none⟩) (Kd.V_far (p := ⟨gb593, 0, none⟩) (Kd.V_mono HO591.out (fun k_ hk => (⟨hk, hk.2⟩ : _ ∧ k_ ≠ gb593))) (fun _ hk => hk.2) (.bool t588)) (fun _ hk => hk.2) (.slice Ao29 t589.length co29)) (fun _ hk => hk.2) (.int .i64 t592)) (fun _ h_ => h_.1)))); (case side2 => exact (Kd.V_reads' HO591.out).2.1); rintro e w30 ⟨rfl, hb⟩; refine ⟨_, rfl, ?_⟩; replace HO591 := A0_ (Kd.V_below (by (with_reducible repeat (first | apply Kd.V_alloc | apply Kd.V_drewN | apply Kd.V_drew)); exact (Kd.V_mono (Kd.V_far (p := ⟨gb593, 2, none⟩) (Kd.V_far (p := ⟨gb593, 1, none⟩) (Kd.V_far (p := ⟨gb593, 0, none⟩) (Kd.V_mono HO591.out (fun k_ hk => (⟨hk, hk.2⟩ : _ ∧ k_ ≠ gb593))) (fun _ hk => hk.2) (.bool t588)) (fun _ hk => hk.2) (.slice Ao29 t589.length co29)) (fun _ hk => hk.2) (.int .i64 t592)) (fun _ h_ => h_.1))) hb); replace BK583 := A0_ (blk_below (g := gb583) (o := .cells #[.bool a2_0, .slice A2_1 l2_1.length c2_1, .int .i64 a2_2] 69 (0, 0)) (by (with_reducible repeat first | apply bN_ | apply bD_ | apply bA_); refine blk_far ?_ NB583_593.out _; refine blk_far ?_ NB583_593.out _; refine blk_far ?_ NB583_593.out _; exact bm_ BK583.out) hb); replace BK593 := A0_ (blk_below (g := gb593) (o := .cells #[.bool t588, .slice Ao29 t589.length co29, .int .i64 t592] 69 (0, 0)) (by (with_reducible repeat first | apply bN_ | apply bD_ | apply bA_); refine blk_put (cs := #[.bool t588, .slice Ao29 t589.length co29, .int .i64 0]) ?_ 2 _ rfl; refine blk_put (cs := #[.bool t588, .slice none 0 0, .int .i64 0]) ?_ 1 _ rfl; refine blk_put (cs := #[.bool false, .slice none 0 0, .int .i64 0]) ?_ 0 _ rfl; exact bm_ BK593.out) hb); replace HB := hs_ hb; (try clear hb)) | ((with_reducible refine gate_callee (f := 88) rfl ?_); refine goesL_ (some 38) rfl rfl Try.func88 (by kernel_rfl) rfl #[.int .u8 a0] rfl (am_ rfl) ?_; (with_reducible refine (cutplaneref03_Wide.calls a0 t595 _ A12.out).mono ?_); rintro e w' ⟨rfl, ⟨nd, rfl⟩⟩; refine ⟨_, rfl, ?_⟩; have hcz31 := bc3_ BK593.out; have hfz31 := bf3_ BK593.out) | ((with_reducible refine gate_callee (f := 91) rfl ?_); refine goesL_ (some 48) rfl rfl Try.func91 (by kernel_rfl) rfl #[.agg #[.bool t588, .slice Ao29 t589.length co29, .int .i64 t592]] rfl (am_ rfl) ?_; (with_reducible refine (cutplaneref02_Abs.calls t588 (fun k_ => (k_ ≠ gb583 ∧ k_ ≠ gb593)) _ _ t589 t592 t596 t597 t600 _ ?side1 A14.out).mono ?_); (case side1 => exact HO591.out); rintro e w32 ⟨v598, rfl, ho0, hb⟩; refine ⟨_, rfl, ?_⟩; replace HO591 := A0_ (Kd.V_below (by exact vm_ HO591.out) hb); have HO599 := A0_ (Kd.V_lower (Kd.V_mono (ok' := fun k_ => k_ ≠ gb583 ∧ k_ ≠ gb593) ho0 (fun k_ hk_ => ⟨Or.elim hk_ (fun hs_ => hs_.1) (fun hn_ => (Kd.freshB (bm_ BK583.out) k_ hn_)), Or.elim hk_ (fun hs_ => hs_.2) (fun hn_ => (Kd.freshB (bm_ BK593.out) k_ hn_))⟩)) (below_size qz_)); replace BK583 := bb_ BK583 hb; replace BK593 := bb_ BK593 hb; replace HB := hs_ hb; (try clear hb); (try clear ho0); obtain ⟨Ao33, co33, eo33⟩ := Kd.V_slice HO599.out; subst eo33) | ((with_reducible refine gate_callee (f := 90) rfl ?_); refine goesL_ (some 49) rfl rfl Try.func90 (by kernel_rfl) rfl #[.int .u8 a0, .agg #[.bool t596, .slice Ao33 t597.length co33, .int .i64 t600]] rfl (am_ rfl) ?_; (with_reducible refine (cutplaneref03_Of.calls k a0 t596 _ _ t597 t600 t601 t602 _ ?side1 ?side2 A15.out).mono ?_); (case side1 => repeat (first | exact (Kd.V_reads' HO599.out).2.2 | (with_reducible refine Kd.C_alloc ?_ _) | (with_reducible refine Kd.C_drewN ?_ _) | (with_reducible refine Kd.C_drew ?_))); (case side2 => exact (Kd.V_reads' HO599.out).2.1); rintro e w34 ⟨rfl, hb⟩; refine ⟨_, rfl, ?_⟩; replace HO591 := A0_ (Kd.V_below (by exact vm_ HO591.out) hb); replace HO599 := A0_ (Kd.V_below (by exact vm_ HO599.out) hb); replace BK583 := bb_ BK583 hb; replace BK593 := bb_ BK593 hb; replace HB := hs_ hb; (try clear hb); have hcz35 := bc3_ BK583.out; have hfz35 := bf3_ BK583.out) | ((with_reducible refine gate_callee (f := 45) rfl ?_); refine goesL_ (some 56) rfl rfl Try.func45 (by kernel_rfl) rfl #[.int .u8 a0, .int .u64 t601, .bool a2_0] rfl (am_ rfl) ?_; (with_reducible refine (cutplaneref03_Signed.calls a0 t601 a2_0 t603 _ A16.out).mono ?_); rintro e w' ⟨rfl, ⟨nd, rfl⟩⟩; refine ⟨_, rfl, ?_⟩; have hcz36 := bc3_ BK593.out; have hfz36 := bf3_ BK593.out) | ((with_reducible refine gate_callee (f := 92) rfl ?_); refine goesL_ (some 59) rfl rfl Try.func92 (by kernel_rfl) rfl #[.agg #[.bool a2_0, .slice A2_1 l2_1.length c2_1, .int .i64 a2_2], .agg #[.bool t588, .slice Ao29 t589.length co29, .int .i64 t592]] rfl (am_ rfl) ?_; (with_reducible refine (cutplaneref02_Same.calls k a2_0 _ _ l2_1 a2_2 t588 _ _ t589 t592 true _ ?side1 ?side2 ?side3 ?side4 A17.out).mono ?_); (case side1 => repeat (first | exact (Kd.C_below HR2_1.out qz_) | (with_reducible refine Kd.C_alloc ?_ _) | (with_reducible refine Kd.C_drewN ?_ _) | (with_reducible refine Kd.C_drew ?_))); (case side2 => exact HC2_1.out); (case side3 => repeat (first | exact (Kd.V_reads' HO591.out).2.2 | (with_reducible refine Kd.C_alloc ?_ _) | (with_reducible refine Kd.C_drewN ?_ _) | (with_reducible refine Kd.C_drew ?_))); (case side4 => exact (Kd.V_reads' HO591.out).2.1); rintro e w37 ⟨rfl, hb⟩; refine ⟨_, rfl, ?_⟩; replace HO591 := A0_ (Kd.V_below (by exact vm_ HO591.out) hb); replace HO599 := A0_ (Kd.V_below (by exact vm_ HO599.out) hb); replace BK583 := bb_ BK583 hb; replace BK593 := bb_ BK593 hb; replace HB := hs_ hb; (try clear hb)))
  go_ret2
  exact ⟨by first | rfl | (simp [errW_none, errW_some] <;> rfl) | (simp [*, errW_none, errW_some] <;> rfl), qz_⟩
 ·replace c18 := Bool.eq_false_iff.mpr c18
  subst c18
  rw [if_neg (show ¬ (false = true) by decide)] at H
  exact absurd H (by simp)
end Go.Proofs.Ytlgapmhjaaajfaa.PA
end

section
namespace Go.Proofs.Ytlgapmhjaaajfaa.PA
open Go.RowKit Go.Proofs.YtlgapmhjaaajfaaW.PrintWords Go.Proofs.YtlgapmhjaaajfaaW.PrintLast Go.Proofs.YtlgapmhjaaajfaaW.PrintMore
attribute [local go_sem] max2_int min2_int max_two min_two max_three min_three max_four min_four   -- for this text's walks alone
set_option linter.unusedVariables false
set_option linter.unusedSimpArgs false
mutual
def cutplaneref01_Low.l0 : Nat → List Int → Int → Option (Int)
 | 0, _, _ => none
 | k + 1, x0, x3 => if x3 < (wrap64 (32 * (x0.length : Int))) then ((cutplaneref01_Bit.f x0 x3).bind fun t377 => (cutplaneref01_Low.j1 k x0 x3 (t377 == 0))) else (cutplaneref01_Low.j1 k x0 x3 false)
def cutplaneref01_Low.j1 : Nat → List Int → Int → Bool → Option (Int)
 | 0, _, _, _ => none
 | k + 1, x0, x3, x14 => if x14 = true then (if 0 ≤ (wrap64 (Int.tdiv x3 32)) then (if (wrap64 (Int.tdiv x3 32)) < (x0.length : Int) then (if (rd x0 (wrap64 (Int.tdiv x3 32))) = 0 then (cutplaneref01_Low.l0 k x0 (wrap64 (x3 + 32))) else (cutplaneref01_Low.l0 k x0 (wrap64 (x3 + 1)))) else (none)) else (none)) else (if x3 = (wrap64 (32 * (x0.length : Int))) then (some 0) else (some x3))
end
def cutplaneref01_Low.f (k : Nat) (l0 : List Int) : Option (Int) := cutplaneref01_Low.l0 k l0 0
theorem cutplaneref01_Low.mono_l : ∀ k, (∀ y0 y1, LeO (cutplaneref01_Low.l0 k y0 y1) (cutplaneref01_Low.l0 (k + 1) y0 y1)) ∧ (∀ y0 y1 y2, LeO (cutplaneref01_Low.j1 k y0 y1 y2) (cutplaneref01_Low.j1 (k + 1) y0 y1 y2))
 | 0 => ⟨fun _ _ r h => by simp [cutplaneref01_Low.l0] at h, fun _ _ _ r h => by simp [cutplaneref01_Low.j1] at h⟩
 | k + 1 => by
  obtain ⟨ih0, ih1⟩ := cutplaneref01_Low.mono_l k
  refine ⟨?_, ?_⟩
  ·intro y0 y1
   unfold cutplaneref01_Low.l0
   repeat' first
   | (with_reducible exact ih0 _ _)
   | (with_reducible exact ih1 _ _ _)
   | (with_reducible exact LeO.refl _)
   | (with_reducible exact LeO.none _)
   | (with_reducible refine LeO.ite ?_ ?_)
   | (with_reducible refine LeO.bind ?_ (fun _ => ?_))
   | exact ih0 _ _
   | exact ih1 _ _ _
   | exact LeO.none _
   | refine LeO.ite ?_ ?_
   | refine LeO.bind ?_ (fun _ => ?_)
  ·intro y0 y1 y2
   unfold cutplaneref01_Low.j1
   repeat' first
   | (with_reducible exact ih0 _ _)
   | (with_reducible exact ih1 _ _ _)
   | (with_reducible exact LeO.refl _)
   | (with_reducible exact LeO.none _)
   | (with_reducible refine LeO.ite ?_ ?_)
   | (with_reducible refine LeO.bind ?_ (fun _ => ?_))
   | exact ih0 _ _
   | exact ih1 _ _ _
   | exact LeO.none _
   | refine LeO.ite ?_ ?_
   | refine LeO.bind ?_ (fun _ => ?_)
theorem cutplaneref01_Low.mono : ∀ a0 k, LeO (cutplaneref01_Low.f k a0) (cutplaneref01_Low.f (k + 1) a0) := by
 intro a0 k
 obtain ⟨ih0, ih1⟩ := cutplaneref01_Low.mono_l k
 unfold cutplaneref01_Low.f
 repeat' first
   | (with_reducible exact ih0 _ _)
   | (with_reducible exact ih1 _ _ _)
   | (with_reducible exact LeO.refl _)
   | (with_reducible exact LeO.none _)
   | (with_reducible refine LeO.ite ?_ ?_)
   | (with_reducible refine LeO.bind ?_ (fun _ => ?_))
   | exact ih0 _ _
   | exact ih1 _ _ _
   | exact LeO.none _
   | refine LeO.ite ?_ ?_
   | refine LeO.bind ?_ (fun _ => ?_)
theorem cutplaneref01_Low.calls (k : Nat) (A0 : Option Addr) (c0 : Nat) (l0 : List Int) (r : Int) (w : World) (hr0 : Kd.C (Kd.int .u32) w A0 l0.length l0) (hc0 : l0.length ≤ c0) (h : cutplaneref01_Low.f k l0 = some r) :
  Calls Try.prog 108 #[.slice A0 l0.length c0] w fun e w' => e = .returned (.int .i64 r) ∧ Drawn0 w w' := by
 have HR0 := A0_ hr0
 have HC0 := A0_ hc0
 clear hr0 hc0
 have H := h
 clear h
 unfold cutplaneref01_Low.f at H
 have H' := A0_ H
 clear H
 go_enter Try.func108, Try.ntmps108
 go_wp2
 go_loopg [3] k (fun kq v3 w' => ∃ (x3_1 : Int), v3 = .int .i64 x3_1 ∧ Aside0 (cutplaneref01_Low.l0 kq l0 x3_1 = some r) ∧ Aside0 (kq ≤ k) ∧ Drawn0 w w')
 case atStart => exact ⟨(0), (by first | rfl | (simp; done) | (simp [*]; done)), H', ⟨Nat.le_refl _⟩, by repeat (first | exact Drawn0.refl _ | apply Drawn0.step)⟩
 case round =>
  clear H'
  try clear c1
  obtain ⟨x3_1, rfl, HA, HK1, ⟨m1, rfl⟩⟩ := hrel
  cases gk with
  | zero => exact absurd HA.out (by simp [cutplaneref01_Low.l0])
  | succ k1 =>
   have H := HA.out
   clear HA
   simp only [cutplaneref01_Low.l0] at H
   have HC2 := A0_ H
   clear H
   go_upto_region 2 with (fail)
   go_cut [14] (fun v14 wc => ∃ (kq : Nat) (x14_1 : Bool), v14 = .bool x14_1 ∧ Aside0 (cutplaneref01_Low.j1 kq l0 x3_1 x14_1 = some r) ∧ Aside0 (kq ≤ k1) ∧ Drawn0 w wc)
   case first =>
    have H := HC2.out
    clear HC2
    by_cases c3 : x3_1 < (wrap64 (32 * (l0.length : Int)))
    ·rw [if_pos c3] at H
     have c3b0 : decide (x3_1 < (wrap64 (32 * (l0.length : Int)))) = true := decide_eq_true c3
     clear c3
     (first | rw [c3b0] | (simp only [i64_w, i32_w]; rw [c3b0]) | skip)
     obtain ⟨t377, A4, H⟩ := bs_ H
     try dsimp -simprocs only at H
     have H' := A0_ H
     clear H
     go_wp2_with (first | (go_at_call 112; (with_reducible refine (cutplaneref01_Bit.calls _ _ l0 x3_1 t377 _ ?side1 ?side2 A4.out).mono ?_); (case side1 => repeat (first | exact HR0.out | (with_reducible refine Kd.C_alloc ?_ _) | (with_reducible refine Kd.C_drewN ?_ _) | (with_reducible refine Kd.C_drew ?_))); (case side2 => exact HC0.out); rintro e w' ⟨rfl, ⟨nd, rfl⟩⟩))
     go_meet
     case rel => exact ⟨_, ((t377 == 0)), (by first | rfl | (simp; done) | (simp [*]; done)), H', ⟨by have := HK1.out; first | omega | exact Nat.le_refl _⟩, by repeat (first | exact Drawn0.refl _ | apply Drawn0.step)⟩
    ·rw [if_neg c3] at H
     have c3b0 : decide (x3_1 < (wrap64 (32 * (l0.length : Int)))) = false := decide_eq_false c3
     clear c3
     (first | rw [c3b0] | (simp only [i64_w, i32_w]; rw [c3b0]) | skip)
     have H' := A0_ H
     clear H
     go_wp2
     go_meet
     case rel => exact ⟨_, (false), (by first | rfl | (simp; done) | (simp [*]; done)), H', ⟨by have := HK1.out; first | omega | exact Nat.le_refl _⟩, by repeat (first | exact Drawn0.refl _ | apply Drawn0.step)⟩
   case rest =>
    clear HC2
    try clear c1
    try clear p2
    try clear c3
    try clear c3b0
    obtain ⟨kq, x14_1, rfl, HA, HJ1, ⟨mc1, rfl⟩⟩ := hcut
    cases kq with
    | zero => exact absurd HA.out (by simp [cutplaneref01_Low.j1])
    | succ kj1 =>
     have H := HA.out
     clear HA
     simp only [cutplaneref01_Low.j1] at H
     by_cases c5 : x14_1 = true
     ·subst c5
      rw [if_pos rfl] at H
      obtain ⟨ji6, hji6⟩ : ∃ j_ : Int, (wrap64 (Int.tdiv x3_1 32)) = j_ := ⟨_, rfl⟩
      replace H : (if 0 ≤ (ji6) then (if (ji6) < (l0.length : Int) then (if (rd l0 (ji6)) = 0 then (cutplaneref01_Low.l0 kj1 l0 (wrap64 (x3_1 + 32))) else (cutplaneref01_Low.l0 kj1 l0 (wrap64 (x3_1 + 1)))) else (none)) else (none)) = some r := by first | (rw [hji6] at H; exact H) | (simp only [hji6] at H ⊢; exact H)
      have hji6w : (IntKind.i64.wrap (Int.tdiv x3_1 32)) = ji6 := (i64_w _).trans hji6
      obtain ⟨c7, H⟩ := ic_ H
      have c7b0 : decide (0 ≤ (ji6)) = true := decide_eq_true c7
      clear c7
      obtain ⟨c8, H⟩ := ic_ H
      have c8b0 : decide ((ji6) < (l0.length : Int)) = true := decide_eq_true c8
      clear c8
      by_cases c9 : (rd l0 (ji6)) = 0
      ·rw [if_pos c9] at H
       have c9b0 : ((rd l0 (ji6)) == 0) = true := beq_iff_eq.mpr c9
       have c9b1 : ((rd l0 (ji6)) != 0) = false := bne_eq_false_iff_eq.mpr c9
       clear c9
       have H' := A0_ H
       clear H
       have p378 : 0 ≤ ((ji6) : Int) := of_decide_eq_true (by first | (with_reducible assumption) | assumption)
       have q378 : (ji6) < (l0.length : Int) := of_decide_eq_true (by first | (with_reducible assumption) | assumption)
       obtain ⟨ad378, e378, hx378_0⟩ := Kd.at_int HR0.out (ji6) p378 q378
       cases e378
       replace p378 := eq_true p378
       replace q378 := eq_true q378
       go_wp2
       go_roundg kj1
       case measure => have := HK1.out; have := HJ1.out; omega
       case rel => exact ⟨(wrap64 (x3_1 + 32)), (by first | rfl | (simp; done) | (simp [*]; done)), H', ⟨by have := HK1.out; have := HJ1.out; omega⟩, by repeat (first | exact Drawn0.refl _ | apply Drawn0.step)⟩
      ·rw [if_neg c9] at H
       have c9b0 : ((rd l0 (ji6)) == 0) = false := beq_eq_false_iff_ne.mpr c9
       have c9b1 : ((rd l0 (ji6)) != 0) = true := bne_iff_ne.mpr c9
       have H' := A0_ H
       clear H
       have p378 : 0 ≤ ((ji6) : Int) := of_decide_eq_true (by first | (with_reducible assumption) | assumption)
       have q378 : (ji6) < (l0.length : Int) := of_decide_eq_true (by first | (with_reducible assumption) | assumption)
       obtain ⟨ad378, e378, hx378_0⟩ := Kd.at_int HR0.out (ji6) p378 q378
       cases e378
       replace p378 := eq_true p378
       replace q378 := eq_true q378
       go_wp2
       go_roundg kj1
       case measure => have := HK1.out; have := HJ1.out; omega
       case rel => exact ⟨(wrap64 (x3_1 + 1)), (by first | rfl | (simp; done) | (simp [*]; done)), H', ⟨by have := HK1.out; have := HJ1.out; omega⟩, by repeat (first | exact Drawn0.refl _ | apply Drawn0.step)⟩
     ·replace c5 := Bool.eq_false_iff.mpr c5
      subst c5
      rw [if_neg (show ¬ (false = true) by decide)] at H
      by_cases c10 : x3_1 = (wrap64 (32 * (l0.length : Int)))
      ·rw [if_pos c10] at H
       have c10b0 : (x3_1 == (wrap64 (32 * (l0.length : Int)))) = true := beq_iff_eq.mpr c10
       have c10b1 : (x3_1 != (wrap64 (32 * (l0.length : Int)))) = false := bne_eq_false_iff_eq.mpr c10
       clear c10
       obtain rfl := Option.some.inj H
       go_wp2
       go_ret
       exact ⟨by first | rfl | (simp; done) | (simp [*]; done), by repeat (first | exact Drawn0.refl _ | apply Drawn0.step)⟩
      ·rw [if_neg c10] at H
       have c10b0 : (x3_1 == (wrap64 (32 * (l0.length : Int)))) = false := beq_eq_false_iff_ne.mpr c10
       have c10b1 : (x3_1 != (wrap64 (32 * (l0.length : Int)))) = true := bne_iff_ne.mpr c10
       obtain rfl := Option.some.inj H
       go_wp2
       go_ret
       exact ⟨by first | rfl | (simp; done) | (simp [*]; done), by repeat (first | exact Drawn0.refl _ | apply Drawn0.step)⟩
end Go.Proofs.Ytlgapmhjaaajfaa.PA
end
