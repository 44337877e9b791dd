/- Steps of Go functions that the law SpecialQuotients uses, told as plain Lean functions, each with the proof that its call comes to what it tells; words on memory; plain facts. No condition beyond those that each text names. -/
import Derived.Test.YtlgapmhjaaajfaaGreatProg
import Derived.WalkMore
import Derived.Test.YtlgapmhjaaajfaaGreatSSpecialQuotients0
import Derived.Test.YtlgapmhjaaajfaaGreatSSpecialQuotients1
set_option maxHeartbeats 16000000
set_option maxRecDepth 100000
section
namespace Go.Proofs.YtlgapmhjaaajfaaGreat.PA
open Go.RowKit Go.Proofs.YtlgapmhjaaajfaaGreatW.PrintWords Go.Proofs.YtlgapmhjaaajfaaGreatW.PrintLast Go.Proofs.YtlgapmhjaaajfaaGreatW.PrintMore
attribute [local go_sem] max2_int min2_int max_two min_two max_three min_three max_four min_four   -- for this text's walks alone
set_option linter.unusedVariables false
set_option linter.unusedSimpArgs false
def word_shape_class.f (a0_0 : Int) (a0_1 : Int) (a0_2 : Int) (a1 : Int) : Option (Int) := if (Go.bits .andNot .u64 a1 a0_2) = 0 then (some 1) else (if 0 ≤ a0_0 then (if (Go.bits .andNot .u64 a1 a0_2) < (shl .u64 1 a0_0) then (some 2) else ((word_shape_inf.f a0_0 a0_1 a0_2).bind fun t147 => (if (Go.bits .andNot .u64 a1 a0_2) < t147 then (some 3) else ((word_shape_inf.f a0_0 a0_1 a0_2).bind fun t148 => (if (Go.bits .andNot .u64 a1 a0_2) = t148 then (some 4) else (some 5)))))) else (none))
theorem word_shape_class.calls (a0_0 : Int) (a0_1 : Int) (a0_2 : Int) (a1 : Int) (r : Int) (w : World) (h : word_shape_class.f a0_0 a0_1 a0_2 a1 = some r) :
  Calls Tryz.prog 75 #[.agg #[.int .i64 a0_0, .int .i64 a0_1, .int .u64 a0_2], .int .u64 a1] w fun e w' => e = .returned (.int .u8 r) ∧ Below w.heap.size w w' := by
 have hu72 := Tryz.underlying72
 have HB := A0_ (Below.refl w.heap.size w)
 have H := h
 clear h
 unfold word_shape_class.f at H
 by_cases c3 : (Go.bits .andNot .u64 a1 a0_2) = 0
 ·rw [if_pos c3] at H
  have c3b0 : ((Go.bits .andNot .u64 a1 a0_2) == 0) = true := beq_iff_eq.mpr c3
  have c3b1 : ((Go.bits .andNot .u64 a1 a0_2) != 0) = false := bne_eq_false_iff_eq.mpr c3
  clear c3
  obtain rfl := Option.some.inj H
  go_enter Tryz.func75, Tryz.ntmps75
  go_wp2_with (first | ((with_reducible refine gate_dst (N := 2) rfl ?_); refine box_event ?hg (N := 2) ?hd (cs := #[.int .i64 a0_0, .int .i64 a0_1, .int .u64 a0_2]) (t := 72) ?hr ?_; (case hd => rfl); (case hg => rfl); (case hr => first | (go_simp; done) | (go_simp; rfl)); intro gb146 hg w4 hbox hb; have BK146 := A0_ (hbox); have GW146 := A0_ ((by rw [hg]; exact (below_size (qm_ HB.out)) : w.heap.size ≤ gb146)); have GE146 := GW146; replace HB := hs_ hb; clear hb hbox hg; have hcz5 := bc3_ BK146.out; have hfz5 := bf3_ BK146.out))
  go_ret
  exact ⟨by first | rfl | (simp [errW_none, errW_some] <;> rfl) | (simp [*, errW_none, errW_some] <;> rfl), qz_⟩
 ·rw [if_neg c3] at H
  have c3b0 : ((Go.bits .andNot .u64 a1 a0_2) == 0) = false := beq_eq_false_iff_ne.mpr c3
  have c3b1 : ((Go.bits .andNot .u64 a1 a0_2) != 0) = true := bne_iff_ne.mpr c3
  obtain ⟨c6, H⟩ := ic_ H
  have c6b0 := eq_true c6
  have c6b1 : decide (0 ≤ a0_0) = true := decide_eq_true c6
  clear c6
  obtain ⟨ji7, hji7⟩ : ∃ j_ : Int, (shl .u64 1 a0_0) = j_ := ⟨_, rfl⟩
  replace H : (if (Go.bits .andNot .u64 a1 a0_2) < (ji7) then (some 2) else ((word_shape_inf.f a0_0 a0_1 a0_2).bind fun t147 => (if (Go.bits .andNot .u64 a1 a0_2) < t147 then (some 3) else ((word_shape_inf.f a0_0 a0_1 a0_2).bind fun t148 => (if (Go.bits .andNot .u64 a1 a0_2) = t148 then (some 4) else (some 5)))))) = some r := by first | (rw [hji7] at H; exact H) | (simp only [hji7] at H ⊢; exact H)
  have hji7_ : (IntKind.u64.wrap (1 * 2 ^ min a0_0.toNat 64)) = ji7 := hji7
  have hji7z : a0_0 ≤ 64 → (IntKind.u64.wrap (1 * 2 ^ a0_0.toNat)) = ji7 := shl_small hji7
  have hji7u : (IntKind.u64.wrap (2 ^ min a0_0.toNat 64)) = ji7 := by have h_ := hji7_; rw [Int.one_mul] at h_; exact h_
  have hji7v : a0_0 ≤ 64 → (IntKind.u64.wrap (2 ^ a0_0.toNat)) = ji7 := fun hle_ => by have h_ := hji7z hle_; rw [Int.one_mul] at h_; exact h_
  by_cases c8 : (Go.bits .andNot .u64 a1 a0_2) < (ji7)
  ·rw [if_pos c8] at H
   have c8b0 : decide ((Go.bits .andNot .u64 a1 a0_2) < (ji7)) = true := decide_eq_true c8
   clear c8
   obtain rfl := Option.some.inj H
   go_enter Tryz.func75, Tryz.ntmps75
   go_wp2_with (first | ((with_reducible refine gate_dst (N := 2) rfl ?_); refine box_event ?hg (N := 2) ?hd (cs := #[.int .i64 a0_0, .int .i64 a0_1, .int .u64 a0_2]) (t := 72) ?hr ?_; (case hd => rfl); (case hg => rfl); (case hr => first | (go_simp; done) | (go_simp; rfl)); intro gb146 hg w9 hbox hb; have BK146 := A0_ (hbox); have GW146 := A0_ ((by rw [hg]; exact (below_size (qm_ HB.out)) : w.heap.size ≤ gb146)); have GE146 := GW146; replace HB := hs_ hb; clear hb hbox hg; have hcz10 := bc3_ BK146.out; have hfz10 := bf3_ BK146.out))
   go_ret
   exact ⟨by first | rfl | (simp [errW_none, errW_some] <;> rfl) | (simp only [← hji7]; first | rfl | (simp [errW_none, errW_some] <;> rfl)) | (simp [*, errW_none, errW_some] <;> rfl), qz_⟩
  ·rw [if_neg c8] at H
   have c8b0 : decide ((Go.bits .andNot .u64 a1 a0_2) < (ji7)) = false := decide_eq_false c8
   clear c8
   obtain ⟨t147, A11, H⟩ := bs_ H
   try dsimp -simprocs only at H
   by_cases c12 : (Go.bits .andNot .u64 a1 a0_2) < t147
   ·rw [if_pos c12] at H
    have c12b0 : decide ((Go.bits .andNot .u64 a1 a0_2) < t147) = true := decide_eq_true c12
    clear c12
    obtain rfl := Option.some.inj H
    go_enter Tryz.func75, Tryz.ntmps75
    go_wp2_with (first | ((with_reducible refine gate_dst (N := 2) rfl ?_); refine box_event ?hg (N := 2) ?hd (cs := #[.int .i64 a0_0, .int .i64 a0_1, .int .u64 a0_2]) (t := 72) ?hr ?_; (case hd => rfl); (case hg => rfl); (case hr => first | (go_simp; done) | (go_simp; rfl)); intro gb146 hg w13 hbox hb; have BK146 := A0_ (hbox); have GW146 := A0_ ((by rw [hg]; exact (below_size (qm_ HB.out)) : w.heap.size ≤ gb146)); have GE146 := GW146; replace HB := hs_ hb; clear hb hbox hg; have hcz14 := bc3_ BK146.out; have hfz14 := bf3_ BK146.out) | ((with_reducible refine gate_callee (f := 31) rfl ?_); refine goesL_ (some 22) rfl rfl Tryz.func31 (by kernel_rfl) rfl #[.agg #[.int .i64 a0_0, .int .i64 a0_1, .int .u64 a0_2]] rfl (am_ rfl) ?_; (with_reducible refine (word_shape_inf.calls a0_0 a0_1 a0_2 t147 _ A11.out).mono ?_); rintro e w15 ⟨rfl, hb⟩; refine ⟨_, rfl, ?_⟩; replace BK146 := bb_ BK146 hb; replace HB := hs_ hb; (try clear hb)))
    go_ret
    exact ⟨by first | rfl | (simp [errW_none, errW_some] <;> rfl) | (simp only [← hji7]; first | rfl | (simp [errW_none, errW_some] <;> rfl)) | (simp [*, errW_none, errW_some] <;> rfl), qz_⟩
   ·rw [if_neg c12] at H
    have c12b0 : decide ((Go.bits .andNot .u64 a1 a0_2) < t147) = false := decide_eq_false c12
    clear c12
    obtain ⟨t148, A16, H⟩ := bs_ H
    try dsimp -simprocs only at H
    by_cases c17 : (Go.bits .andNot .u64 a1 a0_2) = t148
    ·rw [if_pos c17] at H
     have c17b0 : ((Go.bits .andNot .u64 a1 a0_2) == t148) = true := beq_iff_eq.mpr c17
     have c17b1 : ((Go.bits .andNot .u64 a1 a0_2) != t148) = false := bne_eq_false_iff_eq.mpr c17
     clear c17
     obtain rfl := Option.some.inj H
     go_enter Tryz.func75, Tryz.ntmps75
     go_wp2_with (first | ((with_reducible refine gate_dst (N := 2) rfl ?_); refine box_event ?hg (N := 2) ?hd (cs := #[.int .i64 a0_0, .int .i64 a0_1, .int .u64 a0_2]) (t := 72) ?hr ?_; (case hd => rfl); (case hg => rfl); (case hr => first | (go_simp; done) | (go_simp; rfl)); intro gb146 hg w18 hbox hb; have BK146 := A0_ (hbox); have GW146 := A0_ ((by rw [hg]; exact (below_size (qm_ HB.out)) : w.heap.size ≤ gb146)); have GE146 := GW146; replace HB := hs_ hb; clear hb hbox hg; have hcz19 := bc3_ BK146.out; have hfz19 := bf3_ BK146.out) | ((with_reducible refine gate_callee (f := 31) rfl ?_); refine goesL_ (some 22) rfl rfl Tryz.func31 (by kernel_rfl) rfl #[.agg #[.int .i64 a0_0, .int .i64 a0_1, .int .u64 a0_2]] rfl (am_ rfl) ?_; (with_reducible refine (word_shape_inf.calls a0_0 a0_1 a0_2 t147 _ A11.out).mono ?_); rintro e w20 ⟨rfl, hb⟩; refine ⟨_, rfl, ?_⟩; replace BK146 := bb_ BK146 hb; replace HB := hs_ hb; (try clear hb); have hcz21 := bc3_ BK146.out; have hfz21 := bf3_ BK146.out) | ((with_reducible refine gate_callee (f := 31) rfl ?_); refine goesL_ (some 27) rfl rfl Tryz.func31 (by kernel_rfl) rfl #[.agg #[.int .i64 a0_0, .int .i64 a0_1, .int .u64 a0_2]] rfl (am_ rfl) ?_; (with_reducible refine (word_shape_inf.calls a0_0 a0_1 a0_2 t148 _ A16.out).mono ?_); rintro e w22 ⟨rfl, hb⟩; refine ⟨_, rfl, ?_⟩; replace BK146 := bb_ BK146 hb; replace HB := hs_ hb; (try clear hb)))
     go_ret
     exact ⟨by first | rfl | (simp [errW_none, errW_some] <;> rfl) | (simp only [← hji7]; first | rfl | (simp [errW_none, errW_some] <;> rfl)) | (simp [*, errW_none, errW_some] <;> rfl), qz_⟩
    ·rw [if_neg c17] at H
     have c17b0 : ((Go.bits .andNot .u64 a1 a0_2) == t148) = false := beq_eq_false_iff_ne.mpr c17
     have c17b1 : ((Go.bits .andNot .u64 a1 a0_2) != t148) = true := bne_iff_ne.mpr c17
     obtain rfl := Option.some.inj H
     go_enter Tryz.func75, Tryz.ntmps75
     go_wp2_with (first | ((with_reducible refine gate_dst (N := 2) rfl ?_); refine box_event ?hg (N := 2) ?hd (cs := #[.int .i64 a0_0, .int .i64 a0_1, .int .u64 a0_2]) (t := 72) ?hr ?_; (case hd => rfl); (case hg => rfl); (case hr => first | (go_simp; done) | (go_simp; rfl)); intro gb146 hg w23 hbox hb; have BK146 := A0_ (hbox); have GW146 := A0_ ((by rw [hg]; exact (below_size (qm_ HB.out)) : w.heap.size ≤ gb146)); have GE146 := GW146; replace HB := hs_ hb; clear hb hbox hg; have hcz24 := bc3_ BK146.out; have hfz24 := bf3_ BK146.out) | ((with_reducible refine gate_callee (f := 31) rfl ?_); refine goesL_ (some 22) rfl rfl Tryz.func31 (by kernel_rfl) rfl #[.agg #[.int .i64 a0_0, .int .i64 a0_1, .int .u64 a0_2]] rfl (am_ rfl) ?_; (with_reducible refine (word_shape_inf.calls a0_0 a0_1 a0_2 t147 _ A11.out).mono ?_); rintro e w25 ⟨rfl, hb⟩; refine ⟨_, rfl, ?_⟩; replace BK146 := bb_ BK146 hb; replace HB := hs_ hb; (try clear hb); have hcz26 := bc3_ BK146.out; have hfz26 := bf3_ BK146.out) | ((with_reducible refine gate_callee (f := 31) rfl ?_); refine goesL_ (some 27) rfl rfl Tryz.func31 (by kernel_rfl) rfl #[.agg #[.int .i64 a0_0, .int .i64 a0_1, .int .u64 a0_2]] rfl (am_ rfl) ?_; (with_reducible refine (word_shape_inf.calls a0_0 a0_1 a0_2 t148 _ A16.out).mono ?_); rintro e w27 ⟨rfl, hb⟩; refine ⟨_, rfl, ?_⟩; replace BK146 := bb_ BK146 hb; replace HB := hs_ hb; (try clear hb)))
     go_ret
     exact ⟨by first | rfl | (simp [errW_none, errW_some] <;> rfl) | (simp only [← hji7]; first | rfl | (simp [errW_none, errW_some] <;> rfl)) | (simp [*, errW_none, errW_some] <;> rfl), qz_⟩
def word_Class.f (k : Nat) (a0 : Int) (a1 : Int) : Option (Int × Int) := (word_open.f k a0 (([a1] : List Int))).bind fun bt152 => (if bt152.2.2.2 = 0 then ((word_shape_class.f bt152.1 bt152.2.1 bt152.2.2.1 a1).bind fun t157 => (some (t157, 0))) else (some (0, bt152.2.2.2)))
theorem word_Class.mono : ∀ a0 a1 k, LeO (word_Class.f k a0 a1) (word_Class.f (k + 1) a0 a1) := by
 intro a0 a1 k
 unfold word_Class.f
 repeat' first
   | (with_reducible exact word_open.mono _ _ _)
   | (with_reducible exact LeO.refl _)
   | (with_reducible exact LeO.none _)
   | (with_reducible refine LeO.ite ?_ ?_)
   | (with_reducible refine LeO.bind ?_ (fun _ => ?_))
   | exact word_open.mono _ _ _
   | exact LeO.none _
   | refine LeO.ite ?_ ?_
   | refine LeO.bind ?_ (fun _ => ?_)
theorem word_Class.calls (k : Nat) (a0 : Int) (a1 : Int) (r1 : Int) (r2 : Int) (w : World) (h : word_Class.f k a0 a1 = some (r1, r2)) :
  Calls Tryz.prog 56 #[.int .u8 a0, .int .u64 a1] w fun e w' => e = .returned (.tuple #[.int .u8 r1, .int .i64 r2]) ∧ Below w.heap.size w w' := by
 have hu72 := Tryz.underlying72
 have HB := A0_ (Below.refl w.heap.size w)
 have H := h
 clear h
 unfold word_Class.f at H
 obtain ⟨y149, hy149⟩ : ∃ y_ : List Int, y_ = (([a1] : List Int)) := ⟨_, rfl⟩
 replace H : ((word_open.f k a0 y149).bind fun bt152 => (if bt152.2.2.2 = 0 then ((word_shape_class.f bt152.1 bt152.2.1 bt152.2.2.1 a1).bind fun t157 => (some (t157, 0))) else (some (0, bt152.2.2.2)))) = some (r1, r2) := by first | (rw [hy149]; with_reducible exact H) | (have H2_ := (Option.bind_some _ _).symm.trans H; rw [hy149]; with_reducible exact H2_) | (have H2_ := (Option.bind_some _ _).symm.trans H; with_reducible exact H2_) | with_reducible exact H | (rw [hy149]; exact H) | exact H
 have Ny149 := A0_ hy149
 clear hy149
 obtain ⟨⟨t152, t153, t154, t155⟩, A3, H⟩ := bs_ H
 try dsimp -simprocs only at H
 by_cases c4 : t155 = 0
 ·rw [if_pos c4] at H
  have c4b0 : (t155 == 0) = true := beq_iff_eq.mpr c4
  have c4b1 : (t155 != 0) = false := bne_eq_false_iff_eq.mpr c4
  clear c4
  obtain ⟨t157, A5, H⟩ := bs_ H
  try dsimp -simprocs only at H
  simp only [Option.some.injEq, Prod.mk.injEq] at H
  obtain ⟨rfl, rfl⟩ := H
  go_enter Tryz.func56, Tryz.ntmps56
  go_wp2_with (first | ((with_reducible refine gate_dst (N := 11) rfl ?_); refine Kd.R_lit (Kd.int .u64) _ 24 ?hg (N := 11) ?hd (xs := ([a1] : List Int)) (inner := [.int .u64 a1]) (ok := fun _ => True) (okp := fun _ => True) ?hr ?hp (fun _ hk => hk) trivial (Below.refl _ _) (Nat.le_refl _) (by simp) ?_; (case hd => rfl); (case hg => rfl); (case hr => first | (go_simp; done) | (go_simp; rfl)); (case hp => exact (Reps.one (show Kd.M (Kd.int .u64) _ _ _ a1 [.int .u64 a1] from rfl) (Reps.none _ _))); intro v150 w6 ho7 hb hg_ hnew_; clear hg_ hnew_; (first | rw [← Ny149.out] at ho7 | (simp only [Int.reduceToNat] at ho7; rw [← Ny149.out] at ho7)); have HO151 := A0_ (Kd.R_lower ho7 (below_size (qm_ HB.out))); replace HB := hs_ hb; clear hb ho7; obtain ⟨Ao8, co8, eo8⟩ := Kd.R_slice HO151.out; subst eo8) | ((with_reducible refine gate_callee (f := 57) rfl ?_); refine goesL_ (some 12) rfl rfl Tryz.func57 (by kernel_rfl) rfl #[.int .u8 a0, .slice Ao8 y149.length co8] rfl (am_ rfl) ?_; (with_reducible refine (word_open.calls k a0 _ _ y149 t152 t153 t154 t155 _ ?side1 ?side2 A3.out).mono ?_); (case side1 => repeat (first | exact (Kd.R_reads' HO151.out).2.2 | (with_reducible refine Kd.C_alloc ?_ _) | (with_reducible refine Kd.C_drewN ?_ _) | (with_reducible refine Kd.C_drew ?_))); (case side2 => exact (Kd.R_reads' HO151.out).2.1); rintro e w9 ⟨rfl, hb⟩; refine ⟨_, rfl, ?_⟩; replace HO151 := A0_ (Kd.R_below (by exact rm_ HO151.out) hb); replace HB := hs_ hb; (try clear hb)) | ((with_reducible refine gate_dst (N := 6) rfl ?_); refine box_event ?hg (N := 6) ?hd (cs := #[.int .i64 0, .int .i64 0, .int .u64 0]) (t := 72) ?hr ?_; (case hd => rfl); (case hg => rfl); (case hr => first | (go_simp; done) | (go_simp; rfl)); intro gb156 hg w10 hbox hb; replace HO151 := A0_ (Kd.R_below (by exact rm_ HO151.out) hb); have BK156 := A0_ (hbox); have GW156 := A0_ ((by rw [hg]; exact (below_size (qm_ HB.out)) : w.heap.size ≤ gb156)); have GE156 := GW156; replace HB := hs_ hb; clear hb hbox hg; have hcz11 := bc3_ BK156.out; have hfz11 := bf3_ BK156.out) | ((with_reducible refine gate_callee (f := 75) rfl ?_); refine goesL_ (some 20) rfl rfl Tryz.func75 (by kernel_rfl) rfl #[.agg #[.int .i64 t152, .int .i64 t153, .int .u64 t154], .int .u64 a1] rfl (am_ rfl) ?_; (with_reducible refine (word_shape_class.calls t152 t153 t154 a1 t157 _ A5.out).mono ?_); rintro e w12 ⟨rfl, hb⟩; refine ⟨_, rfl, ?_⟩; replace HO151 := A0_ (Kd.R_below (by (with_reducible repeat (first | apply Kd.R_alloc | apply Kd.R_drewN | apply Kd.R_drew)); exact (Kd.R_mono (Kd.R_far (p := ⟨gb156, 2, none⟩) (Kd.R_far (p := ⟨gb156, 1, none⟩) (Kd.R_far (p := ⟨gb156, 0, none⟩) (Kd.R_types HO151.out BK156.out (by decide)) (fun _ hk => hk.2) (.int .i64 t152)) (fun _ hk => hk.2) (.int .i64 t153)) (fun _ hk => hk.2) (.int .u64 t154)) (fun _ h_ => h_.1))) hb); replace BK156 := A0_ (blk_below (g := gb156) (o := .cells #[.int .i64 t152, .int .i64 t153, .int .u64 t154] 72 (0, 0)) (by (with_reducible repeat first | apply bN_ | apply bD_ | apply bA_); refine blk_put (cs := #[.int .i64 t152, .int .i64 t153, .int .u64 0]) ?_ 2 _ rfl; refine blk_put (cs := #[.int .i64 t152, .int .i64 0, .int .u64 0]) ?_ 1 _ rfl; refine blk_put (cs := #[.int .i64 0, .int .i64 0, .int .u64 0]) ?_ 0 _ rfl; exact bm_ BK156.out) hb); replace HB := hs_ hb; (try clear hb)))
  go_ret2
  exact ⟨by first | rfl | (simp [errW_none, errW_some] <;> rfl) | (simp [*, errW_none, errW_some] <;> rfl), qz_⟩
 ·rw [if_neg c4] at H
  have c4b0 : (t155 == 0) = false := beq_eq_false_iff_ne.mpr c4
  have c4b1 : (t155 != 0) = true := bne_iff_ne.mpr c4
  simp only [Option.some.injEq, Prod.mk.injEq] at H
  obtain ⟨rfl, rfl⟩ := H
  go_enter Tryz.func56, Tryz.ntmps56
  go_wp2_with (first | ((with_reducible refine gate_dst (N := 11) rfl ?_); refine Kd.R_lit (Kd.int .u64) _ 24 ?hg (N := 11) ?hd (xs := ([a1] : List Int)) (inner := [.int .u64 a1]) (ok := fun _ => True) (okp := fun _ => True) ?hr ?hp (fun _ hk => hk) trivial (Below.refl _ _) (Nat.le_refl _) (by simp) ?_; (case hd => rfl); (case hg => rfl); (case hr => first | (go_simp; done) | (go_simp; rfl)); (case hp => exact (Reps.one (show Kd.M (Kd.int .u64) _ _ _ a1 [.int .u64 a1] from rfl) (Reps.none _ _))); intro v150 w13 ho14 hb hg_ hnew_; clear hg_ hnew_; (first | rw [← Ny149.out] at ho14 | (simp only [Int.reduceToNat] at ho14; rw [← Ny149.out] at ho14)); have HO151 := A0_ (Kd.R_lower ho14 (below_size (qm_ HB.out))); replace HB := hs_ hb; clear hb ho14; obtain ⟨Ao15, co15, eo15⟩ := Kd.R_slice HO151.out; subst eo15) | ((with_reducible refine gate_callee (f := 57) rfl ?_); refine goesL_ (some 12) rfl rfl Tryz.func57 (by kernel_rfl) rfl #[.int .u8 a0, .slice Ao15 y149.length co15] rfl (am_ rfl) ?_; (with_reducible refine (word_open.calls k a0 _ _ y149 t152 t153 t154 t155 _ ?side1 ?side2 A3.out).mono ?_); (case side1 => repeat (first | exact (Kd.R_reads' HO151.out).2.2 | (with_reducible refine Kd.C_alloc ?_ _) | (with_reducible refine Kd.C_drewN ?_ _) | (with_reducible refine Kd.C_drew ?_))); (case side2 => exact (Kd.R_reads' HO151.out).2.1); rintro e w16 ⟨rfl, hb⟩; refine ⟨_, rfl, ?_⟩; replace HO151 := A0_ (Kd.R_below (by exact rm_ HO151.out) hb); replace HB := hs_ hb; (try clear hb)) | ((with_reducible refine gate_dst (N := 6) rfl ?_); refine box_event ?hg (N := 6) ?hd (cs := #[.int .i64 0, .int .i64 0, .int .u64 0]) (t := 72) ?hr ?_; (case hd => rfl); (case hg => rfl); (case hr => first | (go_simp; done) | (go_simp; rfl)); intro gb156 hg w17 hbox hb; replace HO151 := A0_ (Kd.R_below (by exact rm_ HO151.out) hb); have BK156 := A0_ (hbox); have GW156 := A0_ ((by rw [hg]; exact (below_size (qm_ HB.out)) : w.heap.size ≤ gb156)); have GE156 := GW156; replace HB := hs_ hb; clear hb hbox hg; have hcz18 := bc3_ BK156.out; have hfz18 := bf3_ BK156.out))
  go_ret2
  exact ⟨by first | rfl | (simp [errW_none, errW_some] <;> rfl) | (simp [*, errW_none, errW_some] <;> rfl), qz_⟩
end Go.Proofs.YtlgapmhjaaajfaaGreat.PA
end

section
namespace Go.Proofs.YtlgapmhjaaajfaaGreat.PA
open Go.RowKit Go.Proofs.YtlgapmhjaaajfaaGreatW.PrintWords Go.Proofs.YtlgapmhjaaajfaaGreatW.PrintLast Go.Proofs.YtlgapmhjaaajfaaGreatW.PrintMore
attribute [local go_sem] max2_int min2_int max_two min_two max_three min_three max_four min_four   -- for this text's walks alone
set_option linter.unusedVariables false
set_option linter.unusedSimpArgs false
mutual
def pair_Class.j0 : Nat → Int → Int → Bool → Option (Int × Int)
 | 0, _, _, _ => none
 | k + 1, x6, x8, x30 => if x30 = true then (some (3, 0)) else (if x6 = 5 then (pair_Class.j1 k x6 x8 true) else (pair_Class.j1 k x6 x8 (x8 == 5)))
def pair_Class.j1 : Nat → Int → Int → Bool → Option (Int × Int)
 | 0, _, _, _ => none
 | k + 1, x6, x8, x37 => if x37 = true then (some (4, 0)) else (if x6 = 1 then (if x8 = 1 then (some (1, 0)) else (some (2, 0))) else (some (2, 0)))
end
def pair_Class.f (k : Nat) (a0 : Int) (a1_0 : Int) (a1_1 : Int) : Option (Int × Int) := (word_Class.f k a0 a1_0).bind fun bt159 => (if bt159.2 = 0 then ((word_Class.f k a0 a1_1).bind fun bt161 => (if bt161.2 = 0 then (if bt159.1 = 4 then (pair_Class.j0 k bt159.1 bt161.1 true) else (pair_Class.j0 k bt159.1 bt161.1 (bt161.1 == 4))) else (some (0, bt161.2)))) else (some (0, bt159.2)))
theorem pair_Class.mono_l : ∀ k, (∀ y0 y1 y2, LeO (pair_Class.j0 k y0 y1 y2) (pair_Class.j0 (k + 1) y0 y1 y2)) ∧ (∀ y0 y1 y2, LeO (pair_Class.j1 k y0 y1 y2) (pair_Class.j1 (k + 1) y0 y1 y2))
 | 0 => ⟨fun _ _ _ r h => by simp [pair_Class.j0] at h, fun _ _ _ r h => by simp [pair_Class.j1] at h⟩
 | k + 1 => by
  obtain ⟨ih0, ih1⟩ := pair_Class.mono_l k
  refine ⟨?_, ?_⟩
  ·intro y0 y1 y2
   unfold pair_Class.j0
   repeat' first
   | (with_reducible exact ih0 _ _ _)
   | (with_reducible exact ih1 _ _ _)
   | (with_reducible exact word_Class.mono _ _ _)
   | (with_reducible exact LeO.refl _)
   | (with_reducible exact LeO.none _)
   | (with_reducible refine LeO.ite ?_ ?_)
   | (with_reducible refine LeO.bind ?_ (fun _ => ?_))
   | exact ih0 _ _ _
   | exact ih1 _ _ _
   | exact word_Class.mono _ _ _
   | exact LeO.none _
   | refine LeO.ite ?_ ?_
   | refine LeO.bind ?_ (fun _ => ?_)
  ·intro y0 y1 y2
   unfold pair_Class.j1
   repeat' first
   | (with_reducible exact ih0 _ _ _)
   | (with_reducible exact ih1 _ _ _)
   | (with_reducible exact word_Class.mono _ _ _)
   | (with_reducible exact LeO.refl _)
   | (with_reducible exact LeO.none _)
   | (with_reducible refine LeO.ite ?_ ?_)
   | (with_reducible refine LeO.bind ?_ (fun _ => ?_))
   | exact ih0 _ _ _
   | exact ih1 _ _ _
   | exact word_Class.mono _ _ _
   | exact LeO.none _
   | refine LeO.ite ?_ ?_
   | refine LeO.bind ?_ (fun _ => ?_)
theorem pair_Class.mono : ∀ a0 a1 a2 k, LeO (pair_Class.f k a0 a1 a2) (pair_Class.f (k + 1) a0 a1 a2) := by
 intro a0 a1 a2 k
 obtain ⟨ih0, ih1⟩ := pair_Class.mono_l k
 unfold pair_Class.f
 repeat' first
   | (with_reducible exact ih0 _ _ _)
   | (with_reducible exact ih1 _ _ _)
   | (with_reducible exact word_Class.mono _ _ _)
   | (with_reducible exact LeO.refl _)
   | (with_reducible exact LeO.none _)
   | (with_reducible refine LeO.ite ?_ ?_)
   | (with_reducible refine LeO.bind ?_ (fun _ => ?_))
   | exact ih0 _ _ _
   | exact ih1 _ _ _
   | exact word_Class.mono _ _ _
   | exact LeO.none _
   | refine LeO.ite ?_ ?_
   | refine LeO.bind ?_ (fun _ => ?_)
theorem pair_Class.calls (k : Nat) (a0 : Int) (a1_0 : Int) (a1_1 : Int) (r1 : Int) (r2 : Int) (w : World) (h : pair_Class.f k a0 a1_0 a1_1 = some (r1, r2)) :
  Calls Tryz.prog 29 #[.int .u8 a0, .agg #[.int .u64 a1_0, .int .u64 a1_1]] w fun e w' => e = .returned (.tuple #[.int .u8 r1, .int .i64 r2]) ∧ Below w.heap.size w w' := by
 have hu26 := Tryz.underlying26
 have HB := A0_ (Below.refl w.heap.size w)
 have H := h
 clear h
 unfold pair_Class.f at H
 obtain ⟨⟨t159, t160⟩, A3, H⟩ := bs_ H
 try dsimp -simprocs only at H
 by_cases c4 : t160 = 0
 ·rw [if_pos c4] at H
  have c4b0 : (t160 == 0) = true := beq_iff_eq.mpr c4
  have c4b1 : (t160 != 0) = false := bne_eq_false_iff_eq.mpr c4
  clear c4
  obtain ⟨⟨t161, t162⟩, A5, H⟩ := bs_ H
  try dsimp -simprocs only at H
  by_cases c6 : t162 = 0
  ·rw [if_pos c6] at H
   have c6b0 : (t162 == 0) = true := beq_iff_eq.mpr c6
   have c6b1 : (t162 != 0) = false := bne_eq_false_iff_eq.mpr c6
   clear c6
   have HC7 := A0_ H
   clear H
   go_enter Tryz.func29, Tryz.ntmps29
   go_upto_region 7 with (first | ((with_reducible refine gate_dst (N := 3) rfl ?_); refine box_event ?hg (N := 3) ?hd (cs := #[.int .u64 a1_0, .int .u64 a1_1]) (t := 26) ?hr ?_; (case hd => rfl); (case hg => rfl); (case hr => first | (go_simp; done) | (go_simp; rfl)); intro gb158 hg w8 hbox hb; have BK158 := A0_ (hbox); have GW158 := A0_ ((by rw [hg]; exact (below_size (qm_ HB.out)) : w.heap.size ≤ gb158)); have GE158 := GW158; replace HB := hs_ hb; clear hb hbox hg; have hcz9 := bc2_ BK158.out; have hfz9 := bf2_ BK158.out) | ((with_reducible refine gate_callee (f := 56) rfl ?_); refine goesL_ (some 13) rfl rfl Tryz.func56 (by kernel_rfl) rfl #[.int .u8 a0, .int .u64 a1_0] rfl (am_ rfl) ?_; (with_reducible refine (word_Class.calls k a0 a1_0 t159 t160 _ A3.out).mono ?_); rintro e w10 ⟨rfl, hb⟩; refine ⟨_, rfl, ?_⟩; replace BK158 := bb_ BK158 hb; replace HB := hs_ hb; (try clear hb); have hcz11 := bc2_ BK158.out; have hfz11 := bf2_ BK158.out) | ((with_reducible refine gate_callee (f := 56) rfl ?_); refine goesL_ (some 23) rfl rfl Tryz.func56 (by kernel_rfl) rfl #[.int .u8 a0, .int .u64 a1_1] rfl (am_ rfl) ?_; (with_reducible refine (word_Class.calls k a0 a1_1 t161 t162 _ A5.out).mono ?_); rintro e w12 ⟨rfl, hb⟩; refine ⟨_, rfl, ?_⟩; replace BK158 := bb_ BK158 hb; replace HB := hs_ hb; (try clear hb)))
   (try simp only [Act.put, sp_])
   go_cut [30] (fun v30 wc => ∃ (kq : Nat) (x30_6 : Bool), v30 = .bool x30_6 ∧ Aside0 (pair_Class.j0 kq t159 t161 x30_6 = some (r1, r2)) ∧ Aside0 (kq ≤ k) ∧ Aside0 (wc.heap[gb158]? = some (.cells #[.int .u64 a1_0, .int .u64 a1_1] 26 (0, 0))) ∧ Aside0 (Below w.heap.size w wc))
   case first =>
    have H := HC7.out
    clear HC7
    by_cases c13 : t159 = 4
    ·rw [if_pos c13] at H
     have c13b0 : (t159 == 4) = true := beq_iff_eq.mpr c13
     have c13b1 : (t159 != 4) = false := bne_eq_false_iff_eq.mpr c13
     clear c13
     (first | rw [c13b0] | (simp only [i64_w, i32_w]; rw [c13b0]) | skip)
     have H' := A0_ H
     clear H
     go_wp2
     go_meet
     case rel => exact ⟨_, (true), (by first | rfl | (simp; done) | (simp [*]; done)), H', ⟨by first | omega | exact Nat.le_refl _⟩, ⟨bm_ BK158.out⟩, ⟨qz_⟩⟩
    ·rw [if_neg c13] at H
     have c13b0 : (t159 == 4) = false := beq_eq_false_iff_ne.mpr c13
     have c13b1 : (t159 != 4) = true := bne_iff_ne.mpr c13
     (first | rw [c13b0] | (simp only [i64_w, i32_w]; rw [c13b0]) | skip)
     have H' := A0_ H
     clear H
     go_wp2
     go_meet
     case rel => exact ⟨_, ((t161 == 4)), (by first | rfl | (simp; done) | (simp [*]; done)), H', ⟨by first | omega | exact Nat.le_refl _⟩, ⟨bm_ BK158.out⟩, ⟨qz_⟩⟩
   case rest =>
    clear HC7
    try clear c1
    try clear c2
    try clear p2
    try clear c4
    try clear c4b0
    try clear c4b1
    try clear c5
    try clear c6
    try clear c6b0
    try clear c6b1
    try clear c13
    try clear c13b0
    try clear c13b1
    try clear hcz11
    try clear hcz9
    try clear hfz11
    try clear hfz9
    obtain ⟨kq, x30_6, rfl, HA, HJ6, BK158, HB⟩ := hcut
    cases kq with
    | zero => exact absurd HA.out (by simp [pair_Class.j0])
    | succ kj6 =>
     have H := HA.out
     clear HA
     simp only [pair_Class.j0] at H
     by_cases c14 : x30_6 = true
     ·subst c14
      rw [if_pos rfl] at H
      simp only [Option.some.injEq, Prod.mk.injEq] at H
      obtain ⟨rfl, rfl⟩ := H
      go_wp2
      go_ret2
      exact ⟨by first | rfl | (simp [errW_none, errW_some] <;> rfl) | (simp [*, errW_none, errW_some] <;> rfl), qz_⟩
     ·replace c14 := Bool.eq_false_iff.mpr c14
      subst c14
      rw [if_neg (show ¬ (false = true) by decide)] at H
      have HC15 := A0_ H
      clear H
      go_upto_region 9 with (fail)
      go_cut [37] (fun v37 wc => ∃ (kq : Nat) (x37_14 : Bool), v37 = .bool x37_14 ∧ Aside0 (pair_Class.j1 kq t159 t161 x37_14 = some (r1, r2)) ∧ Aside0 (kq ≤ kj6) ∧ Aside0 (wc.heap[gb158]? = some (.cells #[.int .u64 a1_0, .int .u64 a1_1] 26 (0, 0))) ∧ Aside0 (Below w.heap.size w wc))
      case first =>
       have H := HC15.out
       clear HC15
       by_cases c16 : t159 = 5
       ·rw [if_pos c16] at H
        have c16b0 : (t159 == 5) = true := beq_iff_eq.mpr c16
        have c16b1 : (t159 != 5) = false := bne_eq_false_iff_eq.mpr c16
        clear c16
        (first | rw [c16b0] | (simp only [i64_w, i32_w]; rw [c16b0]) | skip)
        have H' := A0_ H
        clear H
        go_wp2
        go_meet
        case rel => exact ⟨_, (true), (by first | rfl | (simp; done) | (simp [*]; done)), H', ⟨by have := HJ6.out; first | omega | exact Nat.le_refl _⟩, ⟨bm_ BK158.out⟩, ⟨qz_⟩⟩
       ·rw [if_neg c16] at H
        have c16b0 : (t159 == 5) = false := beq_eq_false_iff_ne.mpr c16
        have c16b1 : (t159 != 5) = true := bne_iff_ne.mpr c16
        (first | rw [c16b0] | (simp only [i64_w, i32_w]; rw [c16b0]) | skip)
        have H' := A0_ H
        clear H
        go_wp2
        go_meet
        case rel => exact ⟨_, ((t161 == 5)), (by first | rfl | (simp; done) | (simp [*]; done)), H', ⟨by have := HJ6.out; first | omega | exact Nat.le_refl _⟩, ⟨bm_ BK158.out⟩, ⟨qz_⟩⟩
      case rest =>
       clear HC15
       try clear c1
       try clear c2
       try clear p2
       try clear c4
       try clear c4b0
       try clear c4b1
       try clear c5
       try clear c6
       try clear c6b0
       try clear c6b1
       try clear c13
       try clear c13b0
       try clear c13b1
       try clear c14
       try clear c16
       try clear c16b0
       try clear c16b1
       try clear hcz11
       try clear hcz9
       try clear hfz11
       try clear hfz9
       try clear p2
       obtain ⟨kq, x37_14, rfl, HA, HJ14, BK158, HB⟩ := hcut
       cases kq with
       | zero => exact absurd HA.out (by simp [pair_Class.j1])
       | succ kj14 =>
        have H := HA.out
        clear HA
        simp only [pair_Class.j1] at H
        by_cases c17 : x37_14 = true
        ·subst c17
         rw [if_pos rfl] at H
         simp only [Option.some.injEq, Prod.mk.injEq] at H
         obtain ⟨rfl, rfl⟩ := H
         go_wp2
         go_ret2
         exact ⟨by first | rfl | (simp [errW_none, errW_some] <;> rfl) | (simp [*, errW_none, errW_some] <;> rfl), qz_⟩
        ·replace c17 := Bool.eq_false_iff.mpr c17
         subst c17
         rw [if_neg (show ¬ (false = true) by decide)] at H
         by_cases c18 : t159 = 1
         ·rw [if_pos c18] at H
          have c18b0 : (t159 == 1) = true := beq_iff_eq.mpr c18
          have c18b1 : (t159 != 1) = false := bne_eq_false_iff_eq.mpr c18
          clear c18
          by_cases c19 : t161 = 1
          ·rw [if_pos c19] at H
           have c19b0 : (t161 == 1) = true := beq_iff_eq.mpr c19
           have c19b1 : (t161 != 1) = false := bne_eq_false_iff_eq.mpr c19
           clear c19
           simp only [Option.some.injEq, Prod.mk.injEq] at H
           obtain ⟨rfl, rfl⟩ := H
           go_wp2
           go_ret2
           exact ⟨by first | rfl | (simp [errW_none, errW_some] <;> rfl) | (simp [*, errW_none, errW_some] <;> rfl), qz_⟩
          ·rw [if_neg c19] at H
           have c19b0 : (t161 == 1) = false := beq_eq_false_iff_ne.mpr c19
           have c19b1 : (t161 != 1) = true := bne_iff_ne.mpr c19
           simp only [Option.some.injEq, Prod.mk.injEq] at H
           obtain ⟨rfl, rfl⟩ := H
           go_wp2
           go_ret2
           exact ⟨by first | rfl | (simp [errW_none, errW_some] <;> rfl) | (simp [*, errW_none, errW_some] <;> rfl), qz_⟩
         ·rw [if_neg c18] at H
          have c18b0 : (t159 == 1) = false := beq_eq_false_iff_ne.mpr c18
          have c18b1 : (t159 != 1) = true := bne_iff_ne.mpr c18
          simp only [Option.some.injEq, Prod.mk.injEq] at H
          obtain ⟨rfl, rfl⟩ := H
          go_wp2
          go_ret2
          exact ⟨by first | rfl | (simp [errW_none, errW_some] <;> rfl) | (simp [*, errW_none, errW_some] <;> rfl), qz_⟩
  ·rw [if_neg c6] at H
   have c6b0 : (t162 == 0) = false := beq_eq_false_iff_ne.mpr c6
   have c6b1 : (t162 != 0) = true := bne_iff_ne.mpr c6
   simp only [Option.some.injEq, Prod.mk.injEq] at H
   obtain ⟨rfl, rfl⟩ := H
   go_enter Tryz.func29, Tryz.ntmps29
   go_wp2_with (first | ((with_reducible refine gate_dst (N := 3) rfl ?_); refine box_event ?hg (N := 3) ?hd (cs := #[.int .u64 a1_0, .int .u64 a1_1]) (t := 26) ?hr ?_; (case hd => rfl); (case hg => rfl); (case hr => first | (go_simp; done) | (go_simp; rfl)); intro gb158 hg w20 hbox hb; have BK158 := A0_ (hbox); have GW158 := A0_ ((by rw [hg]; exact (below_size (qm_ HB.out)) : w.heap.size ≤ gb158)); have GE158 := GW158; replace HB := hs_ hb; clear hb hbox hg; have hcz21 := bc2_ BK158.out; have hfz21 := bf2_ BK158.out) | ((with_reducible refine gate_callee (f := 56) rfl ?_); refine goesL_ (some 13) rfl rfl Tryz.func56 (by kernel_rfl) rfl #[.int .u8 a0, .int .u64 a1_0] rfl (am_ rfl) ?_; (with_reducible refine (word_Class.calls k a0 a1_0 t159 t160 _ A3.out).mono ?_); rintro e w22 ⟨rfl, hb⟩; refine ⟨_, rfl, ?_⟩; replace BK158 := bb_ BK158 hb; replace HB := hs_ hb; (try clear hb); have hcz23 := bc2_ BK158.out; have hfz23 := bf2_ BK158.out) | ((with_reducible refine gate_callee (f := 56) rfl ?_); refine goesL_ (some 23) rfl rfl Tryz.func56 (by kernel_rfl) rfl #[.int .u8 a0, .int .u64 a1_1] rfl (am_ rfl) ?_; (with_reducible refine (word_Class.calls k a0 a1_1 t161 t162 _ A5.out).mono ?_); rintro e w24 ⟨rfl, hb⟩; refine ⟨_, rfl, ?_⟩; replace BK158 := bb_ BK158 hb; replace HB := hs_ hb; (try clear hb)))
   go_ret2
   exact ⟨by first | rfl | (simp [errW_none, errW_some] <;> rfl) | (simp [*, errW_none, errW_some] <;> rfl), qz_⟩
 ·rw [if_neg c4] at H
  have c4b0 : (t160 == 0) = false := beq_eq_false_iff_ne.mpr c4
  have c4b1 : (t160 != 0) = true := bne_iff_ne.mpr c4
  simp only [Option.some.injEq, Prod.mk.injEq] at H
  obtain ⟨rfl, rfl⟩ := H
  go_enter Tryz.func29, Tryz.ntmps29
  go_wp2_with (first | ((with_reducible refine gate_dst (N := 3) rfl ?_); refine box_event ?hg (N := 3) ?hd (cs := #[.int .u64 a1_0, .int .u64 a1_1]) (t := 26) ?hr ?_; (case hd => rfl); (case hg => rfl); (case hr => first | (go_simp; done) | (go_simp; rfl)); intro gb158 hg w25 hbox hb; have BK158 := A0_ (hbox); have GW158 := A0_ ((by rw [hg]; exact (below_size (qm_ HB.out)) : w.heap.size ≤ gb158)); have GE158 := GW158; replace HB := hs_ hb; clear hb hbox hg; have hcz26 := bc2_ BK158.out; have hfz26 := bf2_ BK158.out) | ((with_reducible refine gate_callee (f := 56) rfl ?_); refine goesL_ (some 13) rfl rfl Tryz.func56 (by kernel_rfl) rfl #[.int .u8 a0, .int .u64 a1_0] rfl (am_ rfl) ?_; (with_reducible refine (word_Class.calls k a0 a1_0 t159 t160 _ A3.out).mono ?_); rintro e w27 ⟨rfl, hb⟩; refine ⟨_, rfl, ?_⟩; replace BK158 := bb_ BK158 hb; replace HB := hs_ hb; (try clear hb)))
  go_ret2
  exact ⟨by first | rfl | (simp [errW_none, errW_some] <;> rfl) | (simp [*, errW_none, errW_some] <;> rfl), qz_⟩
end Go.Proofs.YtlgapmhjaaajfaaGreat.PA
end

section
namespace Go.Proofs.YtlgapmhjaaajfaaGreat.PA
open Go.RowKit Go.Proofs.YtlgapmhjaaajfaaGreatW.PrintWords Go.Proofs.YtlgapmhjaaajfaaGreatW.PrintLast Go.Proofs.YtlgapmhjaaajfaaGreatW.PrintMore
attribute [local go_sem] max2_int min2_int max_two min_two max_three min_three max_four min_four   -- for this text's walks alone
set_option linter.unusedVariables false
set_option linter.unusedSimpArgs false
def special_open.l0 : Nat → Int → List Int → List (S26) → Int → Int → Option (List Int × Int)
 | 0, _, _, _, _, _ => none
 | k + 1, x0, x10, x27, x28, x29 => if x29 < x28 then (if 0 ≤ x29 then (if x29 < (x27.length : Int) then ((pair_Class.f k x0 ((rd_T26 x27 x29).f0) ((rd_T26 x27 x29).f1)).bind fun bt170 => (if bt170.2 = 0 then (if x10.length < 140737488355328 then (special_open.l0 k x0 (x10 ++ [bt170.1]) x27 x28 (wrap64 (x29 + 1))) else (none)) else (some (([] : List Int), bt170.2)))) else (none)) else (none)) else (some (x10, 0))
def special_open.f (k : Nat) (a0 : Int) (a1 : Int) (l2 : List (S26)) : Option (List Int × Int) := (round_Over.f k a0 a1 false).bind fun bt163 => (if bt163.2 = 0 then (if 0 ≤ (l2.length : Int) then (if ((l2.length : Int) : Int).toNat ≤ 281474976710656 then (special_open.l0 k a0 (List.replicate 0 0) l2 (l2.length : Int) 0) else (none)) else (none)) else (some (([] : List Int), bt163.2)))
theorem special_open.mono_l : ∀ k, (∀ y0 y1 y2 y3 y4, LeO (special_open.l0 k y0 y1 y2 y3 y4) (special_open.l0 (k + 1) y0 y1 y2 y3 y4))
 | 0 => fun _ _ _ _ _ r h => by simp [special_open.l0] at h
 | k + 1 => by
  have ih0 := special_open.mono_l k
  ·intro y0 y1 y2 y3 y4
   unfold special_open.l0
   repeat' first
   | (with_reducible exact ih0 _ _ _ _ _)
   | (with_reducible exact pair_Class.mono _ _ _ _)
   | (with_reducible exact round_Over.mono _ _ _ _)
   | (with_reducible exact LeO.refl _)
   | (with_reducible exact LeO.none _)
   | (with_reducible refine LeO.ite ?_ ?_)
   | (with_reducible refine LeO.bind ?_ (fun _ => ?_))
   | exact ih0 _ _ _ _ _
   | exact pair_Class.mono _ _ _ _
   | exact round_Over.mono _ _ _ _
   | exact LeO.none _
   | refine LeO.ite ?_ ?_
   | refine LeO.bind ?_ (fun _ => ?_)
theorem special_open.mono : ∀ a0 a1 a2 k, LeO (special_open.f k a0 a1 a2) (special_open.f (k + 1) a0 a1 a2) := by
 intro a0 a1 a2 k
 have ih0 := special_open.mono_l k
 unfold special_open.f
 repeat' first
   | (with_reducible exact ih0 _ _ _ _ _)
   | (with_reducible exact pair_Class.mono _ _ _ _)
   | (with_reducible exact round_Over.mono _ _ _ _)
   | (with_reducible exact LeO.refl _)
   | (with_reducible exact LeO.none _)
   | (with_reducible refine LeO.ite ?_ ?_)
   | (with_reducible refine LeO.bind ?_ (fun _ => ?_))
   | exact ih0 _ _ _ _ _
   | exact pair_Class.mono _ _ _ _
   | exact round_Over.mono _ _ _ _
   | exact LeO.none _
   | refine LeO.ite ?_ ?_
   | refine LeO.bind ?_ (fun _ => ?_)
theorem special_open.calls (k : Nat) (a0 : Int) (a1 : Int) (A2 : Option Addr) (c2 : Nat) (l2 : List (S26)) (r1 : List Int) (r2 : Int) (w : World) (hr2 : Kd.C k26 w A2 l2.length l2) (hc2 : l2.length ≤ c2) (h : special_open.f k a0 a1 l2 = some (r1, r2)) :
  Calls Tryz.prog 8 #[.int .u8 a0, .int .u8 a1, .slice A2 l2.length c2] w fun e w' => ∃ v0_ : Value, e = .returned (.tuple #[v0_, .int .i64 r2]) ∧ Kd.R (Kd.int .u8) 41 w' w.heap.size (fun _ => True) v0_ r1 ∧ Below w.heap.size w w' := by
 have hu26 := Tryz.underlying26
 have HR2 := A0_ hr2
 have HC2 := A0_ hc2
 clear hr2 hc2
 have HB := A0_ (Below.refl w.heap.size w)
 have H := h
 clear h
 unfold special_open.f at H
 obtain ⟨⟨t163, t164⟩, A4, H⟩ := bs_ H
 try dsimp -simprocs only at H
 by_cases c5 : t164 = 0
 ·rw [if_pos c5] at H
  have c5b0 : (t164 == 0) = true := beq_iff_eq.mpr c5
  have c5b1 : (t164 != 0) = false := bne_eq_false_iff_eq.mpr c5
  clear c5
  obtain ⟨c6, H⟩ := ic_ H
  have c6b0 := eq_true c6
  have c6b1 : decide (0 ≤ (l2.length : Int)) = true := decide_eq_true c6
  clear c6
  obtain ⟨c7, H⟩ := ic_ H
  have c7b0 := eq_true c7
  have c7b1 : decide (((l2.length : Int) : Int).toNat ≤ 281474976710656) = true := decide_eq_true c7
  clear c7
  obtain ⟨y165, hy165⟩ : ∃ y_ : List Int, y_ = (List.replicate 0 0) := ⟨_, rfl⟩
  replace H : (special_open.l0 k a0 y165 l2 (l2.length : Int) 0) = some (r1, r2) := by first | (rw [hy165]; with_reducible exact H) | (have H2_ := (Option.bind_some _ _).symm.trans H; rw [hy165]; with_reducible exact H2_) | (have H2_ := (Option.bind_some _ _).symm.trans H; with_reducible exact H2_) | with_reducible exact H | (rw [hy165]; exact H) | exact H
  have Ny165 := A0_ hy165
  clear hy165
  have H' := A0_ H
  clear H
  go_enter Tryz.func8, Tryz.ntmps8
  go_wp2_with (first | ((with_reducible refine gate_callee (f := 28) rfl ?_); refine goesL_ (some 18) rfl rfl Tryz.func28 (by kernel_rfl) rfl #[.int .u8 a0, .int .u8 a1, .bool false] rfl (am_ rfl) ?_; (with_reducible refine (round_Over.calls k a0 a1 false t163 t164 _ A4.out).mono ?_); rintro e w8 ⟨rfl, hb⟩; refine ⟨_, rfl, ?_⟩; replace HB := hs_ hb; (try clear hb)) | ((with_reducible refine gate_dst (N := 26) rfl ?_); refine Kd.R_makec (Kd.int .u8) _ 41 rfl (N := 26) rfl 38 _ _ rfl 0 (l2.length : Int) rfl rfl Tryz.underlying38 (.int .u8 0) 1 info41 rfl (by decide) (by omega) 0 (ok := fun _ => True) (okp := fun _ => True) rfl (fun _ hk => hk) trivial (by omega) (of_decide_eq_true (by first | (with_reducible assumption) | assumption)) (Nat.le_trans (Nat.mul_le_mul_right _ (of_decide_eq_true (by first | (with_reducible assumption) | assumption) : ((l2.length : Int) : Int).toNat ≤ 281474976710656)) (by omega)) (Below.refl _ _) (Nat.le_refl _) ?_; intro v166 w9 ho10 hb hg_ hnew_; clear hg_ hnew_; (first | rw [← Ny165.out] at ho10 | (simp only [Int.reduceToNat] at ho10; rw [← Ny165.out] at ho10)); have HO167 := A0_ (Kd.R_lower ho10 (below_size (qm_ HB.out))); replace HB := hs_ hb; clear hb ho10))
  go_loopg [10, 29] k (fun kq v10 v29 w' => ∃ (x10_1 : List Int) (x29_1 : Int), v29 = .int .i64 x29_1 ∧ Aside0 (special_open.l0 kq a0 x10_1 l2 (l2.length : Int) x29_1 = some (r1, r2)) ∧ Aside0 (kq ≤ k) ∧ Aside0 (Kd.R (Kd.int .u8) 41 w' w.heap.size (fun _ => True) v10 x10_1) ∧ Aside0 (Below w.heap.size w w'))
  case atStart => exact ⟨(y165), (0), (by first | rfl | (simp; done) | (simp [*]; done)), H', ⟨Nat.le_refl _⟩, ⟨by exact rm_ HO167.out⟩, ⟨qm_ HB.out⟩⟩
  case round =>
   clear H'
   try clear c2
   try clear p2
   try clear c5
   try clear c5b0
   try clear c5b1
   try clear c6
   try clear c6b0
   try clear c6b1
   try clear c7
   try clear c7b0
   try clear c7b1
   try clear c8
   obtain ⟨x10_1, x29_1, rfl, HA, HK1, HO_10, HB⟩ := hrel
   cases gk with
   | zero => exact absurd HA.out (by simp [special_open.l0])
   | succ k1 =>
    have H := HA.out
    clear HA
    simp only [special_open.l0] at H
    by_cases c11 : x29_1 < (l2.length : Int)
    ·rw [if_pos c11] at H
     have c11b0 : decide (x29_1 < (l2.length : Int)) = true := decide_eq_true c11
     clear c11
     obtain ⟨c12, H⟩ := ic_ H
     have c12b0 : decide (0 ≤ x29_1) = true := decide_eq_true c12
     clear c12
     obtain ⟨c13, H⟩ := ic_ H
     have c13b0 : decide (x29_1 < (l2.length : Int)) = true := decide_eq_true c13
     clear c13
     obtain ⟨⟨t170, t171⟩, A14, H⟩ := bs_ H
     try dsimp -simprocs only at H
     by_cases c15 : t171 = 0
     ·rw [if_pos c15] at H
      have c15b0 : (t171 == 0) = true := beq_iff_eq.mpr c15
      have c15b1 : (t171 != 0) = false := bne_eq_false_iff_eq.mpr c15
      clear c15
      obtain ⟨c16, H⟩ := ic_ H
      have LMc16 := A0_ c16
      clear c16
      obtain ⟨y172, hy172⟩ : ∃ y_ : List Int, y_ = (x10_1 ++ [t170]) := ⟨_, rfl⟩
      replace H : (special_open.l0 k1 a0 y172 l2 (l2.length : Int) (wrap64 (x29_1 + 1))) = some (r1, r2) := by first | (rw [hy172]; with_reducible exact H) | (have H2_ := (Option.bind_some _ _).symm.trans H; rw [hy172]; with_reducible exact H2_) | (have H2_ := (Option.bind_some _ _).symm.trans H; with_reducible exact H2_) | with_reducible exact H | (rw [hy172]; exact H) | exact H
      have Ny172 := A0_ hy172
      clear hy172
      have H' := A0_ H
      clear H
      have p168 : 0 ≤ (x29_1 : Int) := of_decide_eq_true (by first | (with_reducible assumption) | assumption)
      have q168 : x29_1 < (l2.length : Int) := of_decide_eq_true (by first | (with_reducible assumption) | assumption)
      obtain ⟨ad168, e168, hx168_0, hx168_1⟩ := at_T26 HR2.out x29_1 p168 q168
      cases e168
      replace hx168_0 := (HB.out.cell (World.block_lt_of_cell? w _ hx168_0)).trans hx168_0
      replace hx168_1 := (HB.out.cell (World.block_lt_of_cell? w _ hx168_1)).trans hx168_1
      replace p168 := eq_true p168
      replace q168 := eq_true q168
      go_wp2_with (first | ((with_reducible refine gate_dst (N := 12) rfl ?_); refine box_event ?hg (N := 12) ?hd (cs := #[.int .u64 0, .int .u64 0]) (t := 26) ?hr ?_; (case hd => rfl); (case hg => rfl); (case hr => first | (go_simp; done) | (go_simp; rfl)); intro gb169 hg w17 hbox hb; replace HO_10 := A0_ (Kd.R_below (by exact rm_ HO_10.out) hb); have BK169 := A0_ (hbox); have GW169 := A0_ ((by rw [hg]; exact (below_size (qm_ HB.out)) : w.heap.size ≤ gb169)); have GE169 := GW169; replace HB := hs_ hb; clear hb hbox hg; have hcz18 := bc2_ BK169.out; have hfz18 := bf2_ BK169.out) | ((with_reducible refine gate_callee (f := 29) rfl ?_); refine goesL_ (some 36) rfl rfl Tryz.func29 (by kernel_rfl) rfl #[.int .u8 a0, .agg #[.int .u64 ((rd_T26 l2 x29_1).f0), .int .u64 ((rd_T26 l2 x29_1).f1)]] rfl (am_ rfl) ?_; (with_reducible refine (pair_Class.calls k1 a0 ((rd_T26 l2 x29_1).f0) ((rd_T26 l2 x29_1).f1) t170 t171 _ A14.out).mono ?_); rintro e w19 ⟨rfl, hb⟩; refine ⟨_, rfl, ?_⟩; replace HO_10 := A0_ (Kd.R_below (by (with_reducible repeat (first | apply Kd.R_alloc | apply Kd.R_drewN | apply Kd.R_drew)); exact (Kd.R_mono (Kd.R_far (p := ⟨gb169, 1, none⟩) (Kd.R_far (p := ⟨gb169, 0, none⟩) (Kd.R_types HO_10.out BK169.out (by decide)) (fun _ hk => hk.2) (.int .u64 ((rd_T26 l2 x29_1).f0))) (fun _ hk => hk.2) (.int .u64 ((rd_T26 l2 x29_1).f1))) (fun _ h_ => h_.1))) hb); replace BK169 := A0_ (blk_below (g := gb169) (o := .cells #[.int .u64 ((rd_T26 l2 x29_1).f0), .int .u64 ((rd_T26 l2 x29_1).f1)] 26 (0, 0)) (by (with_reducible repeat first | apply bN_ | apply bD_ | apply bA_); refine blk_put (cs := #[.int .u64 ((rd_T26 l2 x29_1).f0), .int .u64 0]) ?_ 1 _ rfl; refine blk_put (cs := #[.int .u64 0, .int .u64 0]) ?_ 0 _ rfl; exact bm_ BK169.out) hb); replace HB := hs_ hb; (try clear hb)) | ((with_reducible refine gate_builtin (b := .append) (xs := #[.tmp 42, .tmp 44]) rfl ?_); at_builtin; refine Kd.R_append (Kd.int .u8) (w0 := w) w.heap.size rfl (.tmp 42) (.tmp 44) 38 41 (.int .u8 0) 1 rfl Tryz.underlying38 info41 rfl (by decide) (by omega) u10 x10_1 t170 [.int .u8 t170] (fun _ => True) (fun _ => False) rfl rfl ?aP (fun _ hk => hk.elim) ?aF ?aO ?aB ?aS ?aL ?_; (case aP => exact rfl); (case aB => exact qz_); (case aF => exact (fun _ _ => trivial)); (case aO => exact (by exact rm_ HO_10.out)); (case aS => exact (below_size qz_)); (case aL => have := LMc16.out; omega); intro v173 w20 ho hb hg hat; rw [← Ny172.out] at ho; replace BK169 := A0_ (blk_grown (bm_ BK169.out) hg (Kd.R_ne HO_10.out BK169.out (by decide))); replace HB := A0_ (hb); have HO174 := A0_ (ho); clear HO_10 ho hb hg hat))
      go_roundg k1
      case measure => have := HK1.out; omega
      case rel => exact ⟨(y172), (wrap64 (x29_1 + 1)), (by first | rfl | (simp; done) | (simp [*]; done)), H', ⟨by have := HK1.out; omega⟩, ⟨by exact rm_ HO174.out⟩, ⟨qz_⟩⟩
     ·rw [if_neg c15] at H
      have c15b0 : (t171 == 0) = false := beq_eq_false_iff_ne.mpr c15
      have c15b1 : (t171 != 0) = true := bne_iff_ne.mpr c15
      simp only [Option.some.injEq, Prod.mk.injEq] at H
      obtain ⟨rfl, rfl⟩ := H
      have p168 : 0 ≤ (x29_1 : Int) := of_decide_eq_true (by first | (with_reducible assumption) | assumption)
      have q168 : x29_1 < (l2.length : Int) := of_decide_eq_true (by first | (with_reducible assumption) | assumption)
      obtain ⟨ad168, e168, hx168_0, hx168_1⟩ := at_T26 HR2.out x29_1 p168 q168
      cases e168
      replace hx168_0 := (HB.out.cell (World.block_lt_of_cell? w _ hx168_0)).trans hx168_0
      replace hx168_1 := (HB.out.cell (World.block_lt_of_cell? w _ hx168_1)).trans hx168_1
      replace p168 := eq_true p168
      replace q168 := eq_true q168
      go_wp2_with (first | ((with_reducible refine gate_dst (N := 12) rfl ?_); refine box_event ?hg (N := 12) ?hd (cs := #[.int .u64 0, .int .u64 0]) (t := 26) ?hr ?_; (case hd => rfl); (case hg => rfl); (case hr => first | (go_simp; done) | (go_simp; rfl)); intro gb169 hg w21 hbox hb; replace HO_10 := A0_ (Kd.R_below (by exact rm_ HO_10.out) hb); have BK169 := A0_ (hbox); have GW169 := A0_ ((by rw [hg]; exact (below_size (qm_ HB.out)) : w.heap.size ≤ gb169)); have GE169 := GW169; replace HB := hs_ hb; clear hb hbox hg; have hcz22 := bc2_ BK169.out; have hfz22 := bf2_ BK169.out) | ((with_reducible refine gate_callee (f := 29) rfl ?_); refine goesL_ (some 36) rfl rfl Tryz.func29 (by kernel_rfl) rfl #[.int .u8 a0, .agg #[.int .u64 ((rd_T26 l2 x29_1).f0), .int .u64 ((rd_T26 l2 x29_1).f1)]] rfl (am_ rfl) ?_; (with_reducible refine (pair_Class.calls k1 a0 ((rd_T26 l2 x29_1).f0) ((rd_T26 l2 x29_1).f1) t170 t171 _ A14.out).mono ?_); rintro e w23 ⟨rfl, hb⟩; refine ⟨_, rfl, ?_⟩; replace HO_10 := A0_ (Kd.R_below (by (with_reducible repeat (first | apply Kd.R_alloc | apply Kd.R_drewN | apply Kd.R_drew)); exact (Kd.R_mono (Kd.R_far (p := ⟨gb169, 1, none⟩) (Kd.R_far (p := ⟨gb169, 0, none⟩) (Kd.R_types HO_10.out BK169.out (by decide)) (fun _ hk => hk.2) (.int .u64 ((rd_T26 l2 x29_1).f0))) (fun _ hk => hk.2) (.int .u64 ((rd_T26 l2 x29_1).f1))) (fun _ h_ => h_.1))) hb); replace BK169 := A0_ (blk_below (g := gb169) (o := .cells #[.int .u64 ((rd_T26 l2 x29_1).f0), .int .u64 ((rd_T26 l2 x29_1).f1)] 26 (0, 0)) (by (with_reducible repeat first | apply bN_ | apply bD_ | apply bA_); refine blk_put (cs := #[.int .u64 ((rd_T26 l2 x29_1).f0), .int .u64 0]) ?_ 1 _ rfl; refine blk_put (cs := #[.int .u64 0, .int .u64 0]) ?_ 0 _ rfl; exact bm_ BK169.out) hb); replace HB := hs_ hb; (try clear hb)))
      go_ret2
      exact ⟨_, by first | rfl | (simp [errW_none, errW_some] <;> rfl) | (simp [*, errW_none, errW_some] <;> rfl), by first | exact Kd.R_nil _ _ _ _ _ | exact Kd.N_nil _ _ _ _ _ | exact Kd.V_nil _ _ _ _ _ | exact Kd.Q_nil _ _ _ _ _ | exact Kd.S_nil _ _ _ _ _, qz_⟩
    ·rw [if_neg c11] at H
     have c11b0 : decide (x29_1 < (l2.length : Int)) = false := decide_eq_false c11
     clear c11
     simp only [Option.some.injEq, Prod.mk.injEq] at H
     obtain ⟨rfl, rfl⟩ := H
     go_wp2
     go_ret2
     exact ⟨_, by first | rfl | (simp [errW_none, errW_some] <;> rfl) | (simp [*, errW_none, errW_some] <;> rfl), by (with_reducible repeat (first | apply Kd.R_alloc | apply Kd.R_drewN | apply Kd.R_drew)); exact HO_10.out, qm_ HB.out⟩
 ·rw [if_neg c5] at H
  have c5b0 : (t164 == 0) = false := beq_eq_false_iff_ne.mpr c5
  have c5b1 : (t164 != 0) = true := bne_iff_ne.mpr c5
  simp only [Option.some.injEq, Prod.mk.injEq] at H
  obtain ⟨rfl, rfl⟩ := H
  go_enter Tryz.func8, Tryz.ntmps8
  go_wp2_with (first | ((with_reducible refine gate_callee (f := 28) rfl ?_); refine goesL_ (some 18) rfl rfl Tryz.func28 (by kernel_rfl) rfl #[.int .u8 a0, .int .u8 a1, .bool false] rfl (am_ rfl) ?_; (with_reducible refine (round_Over.calls k a0 a1 false t163 t164 _ A4.out).mono ?_); rintro e w24 ⟨rfl, hb⟩; refine ⟨_, rfl, ?_⟩; replace HB := hs_ hb; (try clear hb)))
  go_ret2
  exact ⟨_, by first | rfl | (simp [errW_none, errW_some] <;> rfl) | (simp [*, errW_none, errW_some] <;> rfl), by first | exact Kd.R_nil _ _ _ _ _ | exact Kd.N_nil _ _ _ _ _ | exact Kd.V_nil _ _ _ _ _ | exact Kd.Q_nil _ _ _ _ _ | exact Kd.S_nil _ _ _ _ _, qm_ HB.out⟩
end Go.Proofs.YtlgapmhjaaajfaaGreat.PA
end

section
namespace Go.Proofs.YtlgapmhjaaajfaaGreat.PA
open Go.RowKit Go.Proofs.YtlgapmhjaaajfaaGreatW.PrintWords Go.Proofs.YtlgapmhjaaajfaaGreatW.PrintLast Go.Proofs.YtlgapmhjaaajfaaGreatW.PrintMore
attribute [local go_sem] max2_int min2_int max_two min_two max_three min_three max_four min_four   -- for this text's walks alone
set_option linter.unusedVariables false
set_option linter.unusedSimpArgs false
def word_shape_none.f (a0_0 : Int) (a0_1 : Int) (a0_2 : Int) : Option (Int) := (word_shape_inf.f a0_0 a0_1 a0_2).bind fun t176 => (if 0 ≤ (wrap64 (a0_0 - 1)) then (some (Go.bits .or .u64 t176 (shl .u64 1 (wrap64 (a0_0 - 1))))) else (none))
def word_shape_none.T1 : Bool × List (List Nat × List Nat) := (true, [([], []), ([0], [0]), ([], []), ([2], [2]), ([3], [3]), ([4], [4]), ([1, 5], [1, 5]), ([6, 1, 0, 1, 2, 3, 4, 5, 6], [6])])
def word_shape_none.B1 : List Nat := [0, 1, 0, 4, 12, 28, 63, 127]
theorem word_shape_none.tab1 : rtab .any (opsOf Tryz.f58 1) = word_shape_none.T1 := by kernel_rfl
theorem word_shape_none.bits1 : waitsOk word_shape_none.T1.2 word_shape_none.B1 = true := by kernel_rfl
theorem word_shape_none.calls (a0_0 : Int) (a0_1 : Int) (a0_2 : Int) (r : Int) (w : World) (h : word_shape_none.f a0_0 a0_1 a0_2 = some r) :
  Calls Tryz.prog 58 #[.agg #[.int .i64 a0_0, .int .i64 a0_1, .int .u64 a0_2]] w fun e w' => e = .returned (.int .u64 r) ∧ Below w.heap.size w w' := by
 have hu72 := Tryz.underlying72
 have HB := A0_ (Below.refl w.heap.size w)
 have H := h
 clear h
 unfold word_shape_none.f at H
 obtain ⟨t176, A2, H⟩ := bs_ H
 try dsimp -simprocs only at H
 obtain ⟨ji3, hji3⟩ : ∃ j_ : Int, (wrap64 (a0_0 - 1)) = j_ := ⟨_, rfl⟩
 replace H : (if 0 ≤ (ji3) then (some (Go.bits .or .u64 t176 (shl .u64 1 (ji3)))) else (none)) = some r := by first | (rw [hji3] at H; exact H) | (simp only [hji3] at H ⊢; exact H)
 (try rw [hji3] at A2)
 have hji3w : (IntKind.i64.wrap (a0_0 - 1)) = ji3 := (i64_w _).trans hji3
 obtain ⟨c4, H⟩ := ic_ H
 have c4b0 := eq_true c4
 have c4b1 : decide (0 ≤ (ji3)) = true := decide_eq_true c4
 clear c4
 obtain ⟨ji5, hji5⟩ : ∃ j_ : Int, (shl .u64 1 (ji3)) = j_ := ⟨_, rfl⟩
 replace H : (some (Go.bits .or .u64 t176 (ji5))) = some r := by first | (rw [hji5] at H; exact H) | (simp only [hji5] at H ⊢; exact H)
 (try rw [hji5] at A2)
 have hji5_ : (IntKind.u64.wrap (1 * 2 ^ min (ji3).toNat 64)) = ji5 := hji5
 have hji5z : (ji3) ≤ 64 → (IntKind.u64.wrap (1 * 2 ^ (ji3).toNat)) = ji5 := shl_small hji5
 have hji5u : (IntKind.u64.wrap (2 ^ min (ji3).toNat 64)) = ji5 := by have h_ := hji5_; rw [Int.one_mul] at h_; exact h_
 have hji5v : (ji3) ≤ 64 → (IntKind.u64.wrap (2 ^ (ji3).toNat)) = ji5 := fun hle_ => by have h_ := hji5z hle_; rw [Int.one_mul] at h_; exact h_
 obtain rfl := Option.some.inj H
 go_enter Tryz.func58, Tryz.ntmps58
 try go_wp2_with (first | ((with_reducible refine gate_dst (N := 1) rfl ?_); refine box_event ?hg (N := 1) ?hd (cs := #[.int .i64 a0_0, .int .i64 a0_1, .int .u64 a0_2]) (t := 72) ?hr ?_; (case hd => rfl); (case hg => rfl); (case hr => first | (go_simp; done) | (go_simp; rfl)); intro gb175 hg w6 hbox hb; have BK175 := A0_ (hbox); have GW175 := A0_ ((by rw [hg]; exact (below_size (qm_ HB.out)) : w.heap.size ≤ gb175)); have GE175 := GW175; replace HB := hs_ hb; clear hb hbox hg))
 replace BK175 := A0_ (blk_drew BK175.out)
 replace HB := A0_ (below_drew1 HB.out)
 refine start_ (n := 8) (S := fun w' => w'.cell? ⟨gb175, 0, none⟩ = some (.int .i64 a0_0) ∧ w'.cell? ⟨gb175, 1, none⟩ = some (.int .i64 a0_1) ∧ w'.cell? ⟨gb175, 2, none⟩ = some (.int .u64 a0_2)) (ds := []) #[false, false, false, false, false, false, false, false] (by kernel_rfl) rfl rfl ⟨bC_ BK175.out 0, bC_ BK175.out 1, bC_ BK175.out 2⟩ (fun hHeld => ?_); refine with_tabW word_shape_none.tab1 word_shape_none.bits1 (fun HT_ HW_ => ?_)
 generalize w6.drew = w7 at BK175 HB hHeld ⊢
 refine pure_ (i := 2) (N := some 5) (v := ?_) (a' := ?_) #[false, false, true, false, false, false, false, false] rfl rfl (any_of HT_.out (by kernel_rfl)) (fun _ _ _ h => h) (Or.inl ⟨by rfl, ?_⟩) ?_ ?_
 rotate_left
 ·intro w'
  go_simp
  with_reducible rfl
 rotate_left
 ·simp only [Act.put, sp_, i64_w, i32_w]
  rfl
 refine take_ (i := 0) (N := some 3) (v := ?_) (a' := ?_) #[true, false, true, false, false, false, false, false] rfl rfl (take_ofW HT_.out HW_.out (by kernel_rfl)) (fun _ _ _ h => h) (Or.inl ⟨by rfl, ?_⟩) hHeld ?_ ?_
 rotate_left
 ·rintro w' ⟨s0, s1, s2⟩
  go_simp
  with_reducible rfl
 rotate_left
 ·simp only [Act.put, sp_, i64_w, i32_w]
  rfl
 refine take_ (i := 3) (N := some 6) (v := ?_) (a' := ?_) #[true, false, true, true, false, false, false, false] rfl rfl (take_ofW HT_.out HW_.out (by kernel_rfl)) (fun _ _ _ h => h) (Or.inl ⟨by rfl, ?_⟩) hHeld ?_ ?_
 rotate_left
 ·rintro w' ⟨s0, s1, s2⟩
  go_simp
  with_reducible rfl
 rotate_left
 ·simp only [Act.put, sp_, i64_w, i32_w]
  rfl
 refine pure_ (i := 4) (N := some 7) (v := ?_) (a' := ?_) #[true, false, true, true, true, false, false, false] rfl rfl (any_of HT_.out (by kernel_rfl)) (fun _ _ _ h => h) (Or.inl ⟨by rfl, ?_⟩) ?_ ?_
 rotate_left
 ·intro w'
  go_simp
  with_reducible rfl
 rotate_left
 ·simp only [Act.put, sp_, i64_w, i32_w]
  rfl
 refine pure_ (i := 5) (N := some 8) (v := ?_) (a' := ?_) #[true, false, true, true, true, true, false, false] rfl rfl (any_of HT_.out (by kernel_rfl)) (fun _ _ _ h => h) (Or.inl ⟨by rfl, ?_⟩) ?_ ?_
 rotate_left
 ·intro w'
  go_simp
  with_reducible rfl
 rotate_left
 ·simp only [Act.put, sp_, i64_w, i32_w]
  rfl
 refine one_ (i := 1) (N := some 4) #[true, true, true, true, true, true, false, false] rfl rfl (one_of HT_.out (by kernel_rfl)) (by decide) (fun K hK => ?_)
 refine goes_ Tryz.func31 (by kernel_rfl) rfl #[.agg #[.int .i64 a0_0, .int .i64 a0_1, .int .u64 a0_2]] (by rfl) rfl rfl (am_ rfl) ?_
 with_reducible refine (word_shape_inf.calls a0_0 a0_1 a0_2 t176 _ A2.out).mono ?_
 rintro e w8 ⟨rfl, hb⟩
 refine ⟨_, rfl, ?_⟩
 replace BK175 := bb_ BK175 hb
 replace HB := hs_ hb
 (try clear hb)
 refine hK.out _ _ ⟨bC_ BK175.out 0, bC_ BK175.out 1, bC_ BK175.out 2⟩ (fun hHeld => ?_)
 clear hK K
 refine norm_ (a' := ?_) ?_ ?_
 rotate_left
 ·show Act.put _ (some 4) _ = _
  simp only [Act.put, sp_, i64_w, i32_w]
  rfl
 refine pure_ (i := 6) (N := some 9) (v := ?_) (a' := ?_) #[true, true, true, true, true, true, true, false] rfl rfl (any_of HT_.out (by kernel_rfl)) (fun _ _ _ h => h) (Or.inl ⟨by rfl, ?_⟩) ?_ ?_
 rotate_left
 ·intro w'
  go_simp
  with_reducible rfl
 rotate_left
 ·simp only [Act.put, sp_, i64_w, i32_w]
  rfl
 refine pure_ (i := 7) (N := some 2) (v := ?_) (a' := ?_) #[true, true, true, true, true, true, true, true] rfl rfl (any_of HT_.out (by kernel_rfl)) (fun _ _ _ h => h) (Or.inl ⟨by rfl, ?_⟩) ?_ ?_
 rotate_left
 ·intro w'
  go_simp
  with_reducible rfl
 rotate_left
 ·simp only [Act.put, sp_, i64_w, i32_w]
  rfl
 refine done_ (done_of HT_.out (by kernel_rfl)) ?_
 try go_wp2
 go_ret
 exact ⟨by first | rfl | (simp [errW_none, errW_some] <;> rfl) | (simp only [← hji3, ← hji5]; first | rfl | (simp [errW_none, errW_some] <;> rfl)) | (simp [*, errW_none, errW_some] <;> rfl), qz_⟩
def word_None.f (k : Nat) (a0 : Int) : Option (Int × Int) := (word_named.f k a0 false (word_shape_none.f)).bind fun bt177 => (some (bt177.1, bt177.2))
theorem word_None.mono : ∀ a0 k, LeO (word_None.f k a0) (word_None.f (k + 1) a0) := by
 intro a0 k
 unfold word_None.f
 repeat' first
   | (with_reducible exact word_named.mono _ _ _ _)
   | (with_reducible exact LeO.refl _)
   | (with_reducible exact LeO.none _)
   | (with_reducible refine LeO.ite ?_ ?_)
   | (with_reducible refine LeO.bind ?_ (fun _ => ?_))
   | exact word_named.mono _ _ _ _
   | exact LeO.none _
   | refine LeO.ite ?_ ?_
   | refine LeO.bind ?_ (fun _ => ?_)
theorem word_None.calls (k : Nat) (a0 : Int) (r1 : Int) (r2 : Int) (w : World) (h : word_None.f k a0 = some (r1, r2)) :
  Calls Tryz.prog 32 #[.int .u8 a0] w fun e w' => e = .returned (.tuple #[.int .u64 r1, .int .i64 r2]) ∧ Below w.heap.size w w' := by
 have HB := A0_ (Below.refl w.heap.size w)
 have H := h
 clear h
 unfold word_None.f at H
 obtain ⟨⟨t177, t178⟩, A2, H⟩ := bs_ H
 try dsimp -simprocs only at H
 simp only [Option.some.injEq, Prod.mk.injEq] at H
 obtain ⟨rfl, rfl⟩ := H
 go_enter Tryz.func32, Tryz.ntmps32
 go_wp2_with (first | ((with_reducible refine gate_callee (f := 30) rfl ?_); refine goesL_ (some 5) rfl rfl Tryz.func30 (by kernel_rfl) rfl #[.int .u8 a0, .bool false, .func (.func 58) #[] #[]] rfl (am_ rfl) ?_; (refine (word_named.calls (fg2 := 58) (fn2 := Tryz.f58) (fc2 := []) (FV2 := A0_ ⟨Tryz.func58, by kernel_rfl, rfl, fun s0_ s1_ s2_ q0_ w_ hbw_ hh_ => word_shape_none.calls s0_ s1_ s2_ q0_ w_ hh_⟩) k a0 false (word_shape_none.f) t177 t178 _ A2.out).mono ?_); rintro e w3 ⟨rfl, hb⟩; refine ⟨_, rfl, ?_⟩; replace HB := hs_ hb; (try clear hb)))
 go_ret2
 exact ⟨by first | rfl | (simp [errW_none, errW_some] <;> rfl) | (simp [*, errW_none, errW_some] <;> rfl), qm_ HB.out⟩
def special_none.f (k : Nat) (a0 : Int) (a1 : Int) : Option (Int × Int × Int × Int) := (word_None.f k a0).bind fun bt180 => (some (bt180.1, bt180.1, a1, a1))
theorem special_none.mono : ∀ a0 a1 k, LeO (special_none.f k a0 a1) (special_none.f (k + 1) a0 a1) := by
 intro a0 a1 k
 unfold special_none.f
 repeat' first
   | (with_reducible exact word_None.mono _ _)
   | (with_reducible exact LeO.refl _)
   | (with_reducible exact LeO.none _)
   | (with_reducible refine LeO.ite ?_ ?_)
   | (with_reducible refine LeO.bind ?_ (fun _ => ?_))
   | exact word_None.mono _ _
   | exact LeO.none _
   | refine LeO.ite ?_ ?_
   | refine LeO.bind ?_ (fun _ => ?_)
theorem special_none.calls (k : Nat) (a0 : Int) (a1 : Int) (r1 : Int) (r2 : Int) (r3 : Int) (r4 : Int) (w : World) (h : special_none.f k a0 a1 = some (r1, r2, r3, r4)) :
  Calls Tryz.prog 10 #[.int .u8 a0, .int .u8 a1] w fun e w' => e = .returned (.agg #[.int .u64 r1, .int .u64 r2, .int .u8 r3, .int .u8 r4]) ∧ Below w.heap.size w w' := by
 have hu29 := Tryz.underlying29
 have hu26 := Tryz.underlying26
 have HB := A0_ (Below.refl w.heap.size w)
 have H := h
 clear h
 unfold special_none.f at H
 obtain ⟨⟨t180, t181⟩, A3, H⟩ := bs_ H
 try dsimp -simprocs only at H
 simp only [Option.some.injEq, Prod.mk.injEq] at H
 obtain ⟨rfl, rfl, rfl, rfl⟩ := H
 go_enter Tryz.func10, Tryz.ntmps10
 go_wp2_with (first | ((with_reducible refine gate_dst (N := 4) rfl ?_); refine box_event ?hg (N := 4) ?hd (cs := #[.int .u64 0, .int .u64 0, .int .u8 0, .int .u8 0]) (t := 29) ?hr ?_; (case hd => rfl); (case hg => rfl); (case hr => first | (go_simp; done) | (go_simp; rfl)); intro gb179 hg w4 hbox hb; have BK179 := A0_ (hbox); have GW179 := A0_ ((by rw [hg]; exact (below_size (qm_ HB.out)) : w.heap.size ≤ gb179)); have GE179 := GW179; replace HB := hs_ hb; clear hb hbox hg) | ((with_reducible refine gate_callee (f := 32) rfl ?_); refine goesL_ (some 9) rfl rfl Tryz.func32 (by kernel_rfl) rfl #[.int .u8 a0] rfl (am_ rfl) ?_; (with_reducible refine (word_None.calls k a0 t180 t181 _ A3.out).mono ?_); rintro e w5 ⟨rfl, hb⟩; refine ⟨_, rfl, ?_⟩; replace BK179 := bb_ BK179 hb; replace HB := hs_ hb; (try clear hb); have hcz6 := bc4_ BK179.out; have hfz6 := bf4_ BK179.out))
 refine bodyPost_ret (results_cell_row rfl _ _ gb179 29 #[.int .u64 t180, .int .u64 t180, .int .u8 a1, .int .u8 a1] (0, 0) _ rfl (by (with_reducible repeat first | apply bN_ | apply bD_ | apply bA_); refine blk_put (cs := #[.int .u64 t180, .int .u64 t180, .int .u8 a1, .int .u8 0]) ?_ 3 _ rfl; refine blk_put (cs := #[.int .u64 t180, .int .u64 t180, .int .u8 0, .int .u8 0]) ?_ 2 _ rfl; refine blk_put (cs := #[.int .u64 t180, .int .u64 0, .int .u8 0, .int .u8 0]) ?_ 1 _ rfl; refine blk_put (cs := #[.int .u64 0, .int .u64 0, .int .u8 0, .int .u8 0]) ?_ 0 _ rfl; exact bm_ BK179.out) Tryz.underlying29 rfl (by kernel_rfl)) rfl ?_
 exact ⟨by first | rfl | (simp [errW_none, errW_some] <;> rfl) | (simp [*, errW_none, errW_some] <;> rfl), qz_⟩
end Go.Proofs.YtlgapmhjaaajfaaGreat.PA
end

section
namespace Go.Proofs.YtlgapmhjaaajfaaGreat.PA
open Go.RowKit Go.Proofs.YtlgapmhjaaajfaaGreatW.PrintWords Go.Proofs.YtlgapmhjaaajfaaGreatW.PrintLast Go.Proofs.YtlgapmhjaaajfaaGreatW.PrintMore
attribute [local go_sem] max2_int min2_int max_two min_two max_three min_three max_four min_four   -- for this text's walks alone
set_option linter.unusedVariables false
set_option linter.unusedSimpArgs false
def word_shape_split.f (a0_0 : Int) (a0_1 : Int) (a0_2 : Int) (a1 : Int) : Option (Bool × Int × Int) := if 0 ≤ a0_0 then (some (((Go.bits .and .u64 a1 a0_2) != 0), wrap64 (shr .u64 (Go.bits .andNot .u64 a1 a0_2) a0_0), Go.bits .and .u64 (Go.bits .andNot .u64 a1 a0_2) (IntKind.u64.wrap ((shl .u64 1 a0_0) - 1)))) else (none)
def word_shape_split.T2 : Bool × List (List Nat × List Nat) := (true, [([], []), ([], []), ([1], [1]), ([0, 2], [0, 2]), ([3], [3]), ([], []), ([], []), ([6], [6]), ([5, 7], [5, 7]), ([8], [8]), ([], []), ([], []), ([11], [11]), ([12], [12]), ([13], [13]), ([10, 14], [10, 14]), ([4, 9, 15], [4, 9, 15]), ([16, 0, 1, 2, 3, 4, 5, 6, 7, 8, 9, 10, 11, 12, 13, 14, 15, 16], [16])])
def word_shape_split.B2 : List Nat := [0, 0, 2, 7, 15, 0, 0, 64, 224, 480, 0, 0, 2048, 6144, 14336, 31744, 65535, 131071]
theorem word_shape_split.tab2 : rtab .any (opsOf Tryz.f77 2) = word_shape_split.T2 := by kernel_rfl
theorem word_shape_split.bits2 : waitsOk word_shape_split.T2.2 word_shape_split.B2 = true := by kernel_rfl
theorem word_shape_split.calls (a0_0 : Int) (a0_1 : Int) (a0_2 : Int) (a1 : Int) (r1 : Bool) (r2 : Int) (r3 : Int) (w : World) (h : word_shape_split.f a0_0 a0_1 a0_2 a1 = some (r1, r2, r3)) :
  Calls Tryz.prog 77 #[.agg #[.int .i64 a0_0, .int .i64 a0_1, .int .u64 a0_2], .int .u64 a1] w fun e w' => e = .returned (.agg #[.bool r1, .int .i64 r2, .int .u64 r3]) ∧ Below w.heap.size w w' := by
 have hu72 := Tryz.underlying72
 have hu61 := Tryz.underlying61
 have HB := A0_ (Below.refl w.heap.size w)
 have H := h
 clear h
 unfold word_shape_split.f at H
 obtain ⟨c3, H⟩ := ic_ H
 have c3b0 := eq_true c3
 have c3b1 : decide (0 ≤ a0_0) = true := decide_eq_true c3
 clear c3
 obtain ⟨ji4, hji4⟩ : ∃ j_ : Int, (shr .u64 (Go.bits .andNot .u64 a1 a0_2) a0_0) = j_ := ⟨_, rfl⟩
 replace H : (some (((Go.bits .and .u64 a1 a0_2) != 0), wrap64 (ji4), Go.bits .and .u64 (Go.bits .andNot .u64 a1 a0_2) (IntKind.u64.wrap ((shl .u64 1 a0_0) - 1)))) = some (r1, r2, r3) := by first | (rw [hji4] at H; exact H) | (simp only [hji4] at H ⊢; exact H)
 have hji4_ : ((Go.bits .andNot .u64 a1 a0_2) / 2 ^ min a0_0.toNat 64) = ji4 := hji4
 have hji4z : a0_0 ≤ 64 → ((Go.bits .andNot .u64 a1 a0_2) / 2 ^ a0_0.toNat) = ji4 := shr_small hji4
 have c5b0 := eq_true (of_decide_eq_true (by first | (with_reducible assumption) | assumption) : 0 ≤ a0_0)
 obtain ⟨ji6, hji6⟩ : ∃ j_ : Int, (shl .u64 1 a0_0) = j_ := ⟨_, rfl⟩
 replace H : (some (((Go.bits .and .u64 a1 a0_2) != 0), wrap64 (ji4), Go.bits .and .u64 (Go.bits .andNot .u64 a1 a0_2) (IntKind.u64.wrap ((ji6) - 1)))) = some (r1, r2, r3) := by first | (rw [hji6] at H; exact H) | (simp only [hji6] at H ⊢; exact H)
 have hji6_ : (IntKind.u64.wrap (1 * 2 ^ min a0_0.toNat 64)) = ji6 := hji6
 have hji6z : a0_0 ≤ 64 → (IntKind.u64.wrap (1 * 2 ^ a0_0.toNat)) = ji6 := shl_small hji6
 have hji6u : (IntKind.u64.wrap (2 ^ min a0_0.toNat 64)) = ji6 := by have h_ := hji6_; rw [Int.one_mul] at h_; exact h_
 have hji6v : a0_0 ≤ 64 → (IntKind.u64.wrap (2 ^ a0_0.toNat)) = ji6 := fun hle_ => by have h_ := hji6z hle_; rw [Int.one_mul] at h_; exact h_
 simp only [Option.some.injEq, Prod.mk.injEq] at H
 obtain ⟨rfl, rfl, rfl⟩ := H
 go_enter Tryz.func77, Tryz.ntmps77
 try go_wp2_with (first | ((with_reducible refine gate_dst (N := 2) rfl ?_); refine box_event ?hg (N := 2) ?hd (cs := #[.int .i64 a0_0, .int .i64 a0_1, .int .u64 a0_2]) (t := 72) ?hr ?_; (case hd => rfl); (case hg => rfl); (case hr => first | (go_simp; done) | (go_simp; rfl)); intro gb182 hg w7 hbox hb; have BK182 := A0_ (hbox); have GW182 := A0_ ((by rw [hg]; exact (below_size (qm_ HB.out)) : w.heap.size ≤ gb182)); have GE182 := GW182; replace HB := hs_ hb; clear hb hbox hg) | ((with_reducible refine gate_dst (N := 4) rfl ?_); refine box_event ?hg (N := 4) ?hd (cs := #[.bool false, .int .i64 0, .int .u64 0]) (t := 61) ?hr ?_; (case hd => rfl); (case hg => rfl); (case hr => first | (go_simp; done) | (go_simp; rfl)); intro gb183 hg w8 hbox hb; have BK183 := A0_ (hbox); have GW183 := A0_ ((by rw [hg]; exact (below_size qz_) : w.heap.size ≤ gb183)); have GE183 := GW183; replace HB := hs_ hb; have NB182_183 := nl_ hg BK182; have NB183_182 := ng_ hg BK182; replace BK182 := bb_ BK182 hb; clear hb hbox hg; have hnb9 := NB182_183.out; have hnc9 := NB183_182.out; have hcz10 := bc3_ BK182.out; have hfz10 := bf3_ BK182.out))
 replace BK182 := A0_ (blk_drew BK182.out)
 replace BK183 := A0_ (blk_drew BK183.out)
 replace HB := A0_ (below_drew1 HB.out)
 refine start_ (n := 18) (S := fun w' => w'.cell? ⟨gb182, 0, none⟩ = some (.int .i64 a0_0) ∧ w'.cell? ⟨gb182, 1, none⟩ = some (.int .i64 a0_1) ∧ w'.cell? ⟨gb182, 2, none⟩ = some (.int .u64 a0_2)) (ds := []) #[false, false, false, false, false, false, false, false, false, false, false, false, false, false, false, false, false, false] (by kernel_rfl) rfl rfl ⟨bC_ BK182.out 0, bC_ BK182.out 1, bC_ BK182.out 2⟩ (fun hHeld => ?_); refine with_tabW word_shape_split.tab2 word_shape_split.bits2 (fun HT_ HW_ => ?_)
 generalize w8.drew = w11 at BK182 BK183 HB hHeld ⊢
 refine pure_ (i := 0) (N := some 10) (v := ?_) (a' := ?_) #[true, false, false, false, false, false, false, false, false, false, false, false, false, false, false, false, false, false] rfl rfl (any_of HT_.out (by kernel_rfl)) (fun _ _ _ h => h) (Or.inl ⟨by rfl, ?_⟩) ?_ ?_
 rotate_left
 ·intro w'
  go_simp
  with_reducible rfl
 rotate_left
 ·simp only [Act.put, sp_, i64_w, i32_w]
  rfl
 refine pure_ (i := 1) (N := some 11) (v := ?_) (a' := ?_) #[true, true, false, false, false, false, false, false, false, false, false, false, false, false, false, false, false, false] rfl rfl (any_of HT_.out (by kernel_rfl)) (fun _ _ _ h => h) (Or.inl ⟨by rfl, ?_⟩) ?_ ?_
 rotate_left
 ·intro w'
  go_simp
  with_reducible rfl
 rotate_left
 ·simp only [Act.put, sp_, i64_w, i32_w]
  rfl
 refine pure_ (i := 5) (N := some 15) (v := ?_) (a' := ?_) #[true, true, false, false, false, true, false, false, false, false, false, false, false, false, false, false, false, false] rfl rfl (any_of HT_.out (by kernel_rfl)) (fun _ _ _ h => h) (Or.inl ⟨by rfl, ?_⟩) ?_ ?_
 rotate_left
 ·intro w'
  go_simp
  with_reducible rfl
 rotate_left
 ·simp only [Act.put, sp_, i64_w, i32_w]
  rfl
 refine pure_ (i := 6) (N := some 16) (v := ?_) (a' := ?_) #[true, true, false, false, false, true, true, false, false, false, false, false, false, false, false, false, false, false] rfl rfl (any_of HT_.out (by kernel_rfl)) (fun _ _ _ h => h) (Or.inl ⟨by rfl, ?_⟩) ?_ ?_
 rotate_left
 ·intro w'
  go_simp
  with_reducible rfl
 rotate_left
 ·simp only [Act.put, sp_, i64_w, i32_w]
  rfl
 refine pure_ (i := 10) (N := some 20) (v := ?_) (a' := ?_) #[true, true, false, false, false, true, true, false, false, false, true, false, false, false, false, false, false, false] rfl rfl (any_of HT_.out (by kernel_rfl)) (fun _ _ _ h => h) (Or.inl ⟨by rfl, ?_⟩) ?_ ?_
 rotate_left
 ·intro w'
  go_simp
  with_reducible rfl
 rotate_left
 ·simp only [Act.put, sp_, i64_w, i32_w]
  rfl
 refine pure_ (i := 11) (N := some 21) (v := ?_) (a' := ?_) #[true, true, false, false, false, true, true, false, false, false, true, true, false, false, false, false, false, false] rfl rfl (any_of HT_.out (by kernel_rfl)) (fun _ _ _ h => h) (Or.inl ⟨by rfl, ?_⟩) ?_ ?_
 rotate_left
 ·intro w'
  go_simp
  with_reducible rfl
 rotate_left
 ·simp only [Act.put, sp_, i64_w, i32_w]
  rfl
 refine take_ (i := 2) (N := some 12) (v := ?_) (a' := ?_) #[true, true, true, false, false, true, true, false, false, false, true, true, false, false, false, false, false, false] rfl rfl (take_ofW HT_.out HW_.out (by kernel_rfl)) (fun _ _ _ h => h) (Or.inl ⟨by rfl, ?_⟩) hHeld ?_ ?_
 rotate_left
 ·rintro w' ⟨s0, s1, s2⟩
  go_simp
  with_reducible rfl
 rotate_left
 ·simp only [Act.put, sp_, i64_w, i32_w]
  rfl
 refine pure_ (i := 3) (N := some 13) (v := ?_) (a' := ?_) #[true, true, true, true, false, true, true, false, false, false, true, true, false, false, false, false, false, false] rfl rfl (any_of HT_.out (by kernel_rfl)) (fun _ _ _ h => h) (Or.inl ⟨by rfl, ?_⟩) ?_ ?_
 rotate_left
 ·intro w'
  go_simp
  with_reducible rfl
 rotate_left
 ·simp only [Act.put, sp_, i64_w, i32_w]
  rfl
 refine pure_ (i := 4) (N := some 14) (v := ?_) (a' := ?_) #[true, true, true, true, true, true, true, false, false, false, true, true, false, false, false, false, false, false] rfl rfl (any_of HT_.out (by kernel_rfl)) (fun _ _ _ h => h) (Or.inl ⟨by rfl, ?_⟩) ?_ ?_
 rotate_left
 ·intro w'
  go_simp
  with_reducible rfl
 rotate_left
 ·simp only [Act.put, sp_, i64_w, i32_w]
  rfl
 refine take_ (i := 7) (N := some 17) (v := ?_) (a' := ?_) #[true, true, true, true, true, true, true, true, false, false, true, true, false, false, false, false, false, false] rfl rfl (take_ofW HT_.out HW_.out (by kernel_rfl)) (fun _ _ _ h => h) (Or.inl ⟨by rfl, ?_⟩) hHeld ?_ ?_
 rotate_left
 ·rintro w' ⟨s0, s1, s2⟩
  go_simp
  with_reducible rfl
 rotate_left
 ·simp only [Act.put, sp_, i64_w, i32_w]
  rfl
 refine pure_ (i := 8) (N := some 18) (v := ?_) (a' := ?_) #[true, true, true, true, true, true, true, true, true, false, true, true, false, false, false, false, false, false] rfl rfl (any_of HT_.out (by kernel_rfl)) (fun _ _ _ h => h) (Or.inl ⟨by rfl, ?_⟩) ?_ ?_
 rotate_left
 ·intro w'
  go_simp
  with_reducible rfl
 rotate_left
 ·simp only [Act.put, sp_, i64_w, i32_w]
  rfl
 refine pure_ (i := 9) (N := some 19) (v := ?_) (a' := ?_) #[true, true, true, true, true, true, true, true, true, true, true, true, false, false, false, false, false, false] rfl rfl (any_of HT_.out (by kernel_rfl)) (fun _ _ _ h => h) (Or.inl ⟨by rfl, ?_⟩) ?_ ?_
 rotate_left
 ·intro w'
  go_simp
  with_reducible rfl
 rotate_left
 ·simp only [Act.put, sp_, i64_w, i32_w]
  rfl
 refine take_ (i := 12) (N := some 22) (v := ?_) (a' := ?_) #[true, true, true, true, true, true, true, true, true, true, true, true, true, false, false, false, false, false] rfl rfl (take_ofW HT_.out HW_.out (by kernel_rfl)) (fun _ _ _ h => h) (Or.inl ⟨by rfl, ?_⟩) hHeld ?_ ?_
 rotate_left
 ·rintro w' ⟨s0, s1, s2⟩
  go_simp
  with_reducible rfl
 rotate_left
 ·simp only [Act.put, sp_, i64_w, i32_w]
  rfl
 refine pure_ (i := 13) (N := some 23) (v := ?_) (a' := ?_) #[true, true, true, true, true, true, true, true, true, true, true, true, true, true, false, false, false, false] rfl rfl (any_of HT_.out (by kernel_rfl)) (fun _ _ _ h => h) (Or.inl ⟨by rfl, ?_⟩) ?_ ?_
 rotate_left
 ·intro w'
  go_simp
  with_reducible rfl
 rotate_left
 ·simp only [Act.put, sp_, i64_w, i32_w]
  rfl
 refine pure_ (i := 14) (N := some 24) (v := ?_) (a' := ?_) #[true, true, true, true, true, true, true, true, true, true, true, true, true, true, true, false, false, false] rfl rfl (any_of HT_.out (by kernel_rfl)) (fun _ _ _ h => h) (Or.inl ⟨by rfl, ?_⟩) ?_ ?_
 rotate_left
 ·intro w'
  go_simp
  with_reducible rfl
 rotate_left
 ·simp only [Act.put, sp_, i64_w, i32_w]
  rfl
 refine pure_ (i := 15) (N := some 25) (v := ?_) (a' := ?_) #[true, true, true, true, true, true, true, true, true, true, true, true, true, true, true, true, false, false] rfl rfl (any_of HT_.out (by kernel_rfl)) (fun _ _ _ h => h) (Or.inl ⟨by rfl, ?_⟩) ?_ ?_
 rotate_left
 ·intro w'
  go_simp
  with_reducible rfl
 rotate_left
 ·simp only [Act.put, sp_, i64_w, i32_w]
  rfl
 refine pure_ (i := 16) (N := some 26) (v := ?_) (a' := ?_) #[true, true, true, true, true, true, true, true, true, true, true, true, true, true, true, true, true, false] rfl rfl (any_of HT_.out (by kernel_rfl)) (fun _ _ _ h => h) (Or.inl ⟨by rfl, ?_⟩) ?_ ?_
 rotate_left
 ·intro w'
  go_simp
  with_reducible rfl
 rotate_left
 ·simp only [Act.put, sp_, i64_w, i32_w]
  rfl
 refine one_ (i := 17) (N := none) #[true, true, true, true, true, true, true, true, true, true, true, true, true, true, true, true, true, true] rfl rfl (one_of HT_.out (by kernel_rfl)) (by decide) (fun K hK => ?_)
 have hs12 : w11.cell? ⟨gb183, 0, none⟩ = some (.bool false) := (blk_cell BK183.out 0).trans rfl
 have hfs12 := blk_frozen BK183.out 0
 have hns12_0 := NB182_183.out
 have hms12_0 := NB183_182.out
 have hs13 : w11.cell? ⟨gb183, 1, none⟩ = some (.int .i64 0) := (blk_cell BK183.out 1).trans rfl
 have hfs13 := blk_frozen BK183.out 1
 have hns13_0 := NB182_183.out
 have hms13_0 := NB183_182.out
 have hs14 : w11.cell? ⟨gb183, 2, none⟩ = some (.int .u64 0) := (blk_cell BK183.out 2).trans rfl
 have hfs14 := blk_frozen BK183.out 2
 have hns14_0 := NB182_183.out
 have hms14_0 := NB183_182.out
 refine skip_ (w1 := ?_) (by rfl) rfl ?_ ?_
 rotate_left
 ·go_simp
  rfl
 refine hK.out _ _ ⟨((cell_far (p := ⟨gb183, _, none⟩) NB182_183.out _).trans (((cell_far (p := ⟨gb183, _, none⟩) NB182_183.out _).trans (((cell_far (p := ⟨gb183, _, none⟩) NB182_183.out _).trans (hHeld.1)))))), ((cell_far (p := ⟨gb183, _, none⟩) NB182_183.out _).trans (((cell_far (p := ⟨gb183, _, none⟩) NB182_183.out _).trans (((cell_far (p := ⟨gb183, _, none⟩) NB182_183.out _).trans (hHeld.2.1)))))), ((cell_far (p := ⟨gb183, _, none⟩) NB182_183.out _).trans (((cell_far (p := ⟨gb183, _, none⟩) NB182_183.out _).trans (((cell_far (p := ⟨gb183, _, none⟩) NB182_183.out _).trans (hHeld.2.2))))))⟩ (fun hHeld => ?_)
 clear hK K
 refine done_ (done_of HT_.out (by kernel_rfl)) ?_
 try go_wp2
 refine bodyPost_ret (results_cell_row rfl _ _ gb183 61 #[.bool ((Go.bits .and .u64 a1 a0_2) != 0), .int .i64 (wrap64 (ji4)), .int .u64 (Go.bits .and .u64 (Go.bits .andNot .u64 a1 a0_2) (IntKind.u64.wrap ((ji6) - 1)))] (0, 0) _ rfl (by (with_reducible repeat first | apply bN_ | apply bD_ | apply bA_); refine blk_put (cs := #[.bool ((Go.bits .and .u64 a1 a0_2) != 0), .int .i64 (wrap64 (ji4)), .int .u64 0]) ?_ 2 _ rfl; refine blk_put (cs := #[.bool ((Go.bits .and .u64 a1 a0_2) != 0), .int .i64 0, .int .u64 0]) ?_ 1 _ rfl; refine blk_put (cs := #[.bool false, .int .i64 0, .int .u64 0]) ?_ 0 _ rfl; exact bm_ BK183.out) Tryz.underlying61 rfl (by kernel_rfl)) rfl ?_
 exact ⟨by first | rfl | (simp [errW_none, errW_some] <;> rfl) | (simp only [← hji4, ← hji6]; first | rfl | (simp [errW_none, errW_some] <;> rfl)) | (simp [*, errW_none, errW_some] <;> rfl), qz_⟩
def word_Split.f (k : Nat) (a0 : Int) (a1 : Int) : Option (Bool × Int × Int × Int) := (word_open.f k a0 (([a1] : List Int))).bind fun bt188 => (if bt188.2.2.2 = 0 then ((word_shape_split.f bt188.1 bt188.2.1 bt188.2.2.1 a1).bind fun bt193 => (some (bt193.1, bt193.2.1, bt193.2.2, 0))) else (some (false, 0, 0, bt188.2.2.2)))
theorem word_Split.mono : ∀ a0 a1 k, LeO (word_Split.f k a0 a1) (word_Split.f (k + 1) a0 a1) := by
 intro a0 a1 k
 unfold word_Split.f
 repeat' first
   | (with_reducible exact word_open.mono _ _ _)
   | (with_reducible exact LeO.refl _)
   | (with_reducible exact LeO.none _)
   | (with_reducible refine LeO.ite ?_ ?_)
   | (with_reducible refine LeO.bind ?_ (fun _ => ?_))
   | exact word_open.mono _ _ _
   | exact LeO.none _
   | refine LeO.ite ?_ ?_
   | refine LeO.bind ?_ (fun _ => ?_)
theorem word_Split.calls (k : Nat) (a0 : Int) (a1 : Int) (r1 : Bool) (r2 : Int) (r3 : Int) (r4 : Int) (w : World) (h : word_Split.f k a0 a1 = some (r1, r2, r3, r4)) :
  Calls Tryz.prog 59 #[.int .u8 a0, .int .u64 a1] w fun e w' => e = .returned (.tuple #[.agg #[.bool r1, .int .i64 r2, .int .u64 r3], .int .i64 r4]) ∧ Below w.heap.size w w' := by
 have hu61 := Tryz.underlying61
 have hu72 := Tryz.underlying72
 have HB := A0_ (Below.refl w.heap.size w)
 have H := h
 clear h
 unfold word_Split.f at H
 obtain ⟨y185, hy185⟩ : ∃ y_ : List Int, y_ = (([a1] : List Int)) := ⟨_, rfl⟩
 replace H : ((word_open.f k a0 y185).bind fun bt188 => (if bt188.2.2.2 = 0 then ((word_shape_split.f bt188.1 bt188.2.1 bt188.2.2.1 a1).bind fun bt193 => (some (bt193.1, bt193.2.1, bt193.2.2, 0))) else (some (false, 0, 0, bt188.2.2.2)))) = some (r1, r2, r3, r4) := by first | (rw [hy185]; with_reducible exact H) | (have H2_ := (Option.bind_some _ _).symm.trans H; rw [hy185]; with_reducible exact H2_) | (have H2_ := (Option.bind_some _ _).symm.trans H; with_reducible exact H2_) | with_reducible exact H | (rw [hy185]; exact H) | exact H
 have Ny185 := A0_ hy185
 clear hy185
 obtain ⟨⟨t188, t189, t190, t191⟩, A3, H⟩ := bs_ H
 try dsimp -simprocs only at H
 by_cases c4 : t191 = 0
 ·rw [if_pos c4] at H
  have c4b0 : (t191 == 0) = true := beq_iff_eq.mpr c4
  have c4b1 : (t191 != 0) = false := bne_eq_false_iff_eq.mpr c4
  clear c4
  obtain ⟨⟨t193, t194, t195⟩, A5, H⟩ := bs_ H
  try dsimp -simprocs only at H
  simp only [Option.some.injEq, Prod.mk.injEq] at H
  obtain ⟨rfl, rfl, rfl, rfl⟩ := H
  go_enter Tryz.func59, Tryz.ntmps59
  go_wp2_with (first | ((with_reducible refine gate_dst (N := 4) rfl ?_); refine box_event ?hg (N := 4) ?hd (cs := #[.bool false, .int .i64 0, .int .u64 0]) (t := 61) ?hr ?_; (case hd => rfl); (case hg => rfl); (case hr => first | (go_simp; done) | (go_simp; rfl)); intro gb184 hg w6 hbox hb; have BK184 := A0_ (hbox); have GW184 := A0_ ((by rw [hg]; exact (below_size (qm_ HB.out)) : w.heap.size ≤ gb184)); have GE184 := GW184; replace HB := hs_ hb; clear hb hbox hg) | ((with_reducible refine gate_dst (N := 11) rfl ?_); refine Kd.R_lit (Kd.int .u64) _ 24 ?hg (N := 11) ?hd (xs := ([a1] : List Int)) (inner := [.int .u64 a1]) (ok := fun _ => True) (okp := fun _ => True) ?hr ?hp (fun _ hk => hk) trivial (Below.refl _ _) (Nat.le_refl _) (by simp) ?_; (case hd => rfl); (case hg => rfl); (case hr => first | (go_simp; done) | (go_simp; rfl)); (case hp => exact (Reps.one (show Kd.M (Kd.int .u64) _ _ _ a1 [.int .u64 a1] from rfl) (Reps.none _ _))); intro v186 w7 ho8 hb hg_ hnew_; clear hg_ hnew_; (first | rw [← Ny185.out] at ho8 | (simp only [Int.reduceToNat] at ho8; rw [← Ny185.out] at ho8)); have HO187 := A0_ (Kd.R_lower ho8 (below_size qz_)); replace BK184 := bb_ BK184 hb; replace HB := hs_ hb; clear hb ho8; obtain ⟨Ao9, co9, eo9⟩ := Kd.R_slice HO187.out; subst eo9) | ((with_reducible refine gate_callee (f := 57) rfl ?_); refine goesL_ (some 12) rfl rfl Tryz.func57 (by kernel_rfl) rfl #[.int .u8 a0, .slice Ao9 y185.length co9] rfl (am_ rfl) ?_; (with_reducible refine (word_open.calls k a0 _ _ y185 t188 t189 t190 t191 _ ?side1 ?side2 A3.out).mono ?_); (case side1 => repeat (first | exact (Kd.R_reads' HO187.out).2.2 | (with_reducible refine Kd.C_alloc ?_ _) | (with_reducible refine Kd.C_drewN ?_ _) | (with_reducible refine Kd.C_drew ?_))); (case side2 => exact (Kd.R_reads' HO187.out).2.1); rintro e w10 ⟨rfl, hb⟩; refine ⟨_, rfl, ?_⟩; replace HO187 := A0_ (Kd.R_below (by exact rm_ HO187.out) hb); replace BK184 := bb_ BK184 hb; replace HB := hs_ hb; (try clear hb)) | ((with_reducible refine gate_dst (N := 6) rfl ?_); refine box_event ?hg (N := 6) ?hd (cs := #[.int .i64 0, .int .i64 0, .int .u64 0]) (t := 72) ?hr ?_; (case hd => rfl); (case hg => rfl); (case hr => first | (go_simp; done) | (go_simp; rfl)); intro gb192 hg w11 hbox hb; replace HO187 := A0_ (Kd.R_below (by exact rm_ HO187.out) hb); have BK192 := A0_ (hbox); have GW192 := A0_ ((by rw [hg]; exact (below_size qz_) : w.heap.size ≤ gb192)); have GE192 := GW192; replace HB := hs_ hb; have NB184_192 := nl_ hg BK184; have NB192_184 := ng_ hg BK184; replace BK184 := bb_ BK184 hb; clear hb hbox hg; have hnb12 := NB192_184.out; have hnc12 := NB184_192.out; have hcz13 := bc3_ BK192.out; have hfz13 := bf3_ BK192.out) | ((with_reducible refine gate_callee (f := 77) rfl ?_); refine goesL_ (some 21) rfl rfl Tryz.func77 (by kernel_rfl) rfl #[.agg #[.int .i64 t188, .int .i64 t189, .int .u64 t190], .int .u64 a1] rfl (am_ rfl) ?_; (with_reducible refine (word_shape_split.calls t188 t189 t190 a1 t193 t194 t195 _ A5.out).mono ?_); rintro e w14 ⟨rfl, hb⟩; refine ⟨_, rfl, ?_⟩; replace HO187 := A0_ (Kd.R_below (by (with_reducible repeat (first | apply Kd.R_alloc | apply Kd.R_drewN | apply Kd.R_drew)); exact (Kd.R_mono (Kd.R_far (p := ⟨gb192, 2, none⟩) (Kd.R_far (p := ⟨gb192, 1, none⟩) (Kd.R_far (p := ⟨gb192, 0, none⟩) (Kd.R_types HO187.out BK192.out (by decide)) (fun _ hk => hk.2) (.int .i64 t188)) (fun _ hk => hk.2) (.int .i64 t189)) (fun _ hk => hk.2) (.int .u64 t190)) (fun _ h_ => h_.1))) hb); replace BK184 := A0_ (blk_below (g := gb184) (o := .cells #[.bool false, .int .i64 0, .int .u64 0] 61 (0, 0)) (by (with_reducible repeat first | apply bN_ | apply bD_ | apply bA_); refine blk_far ?_ NB184_192.out _; refine blk_far ?_ NB184_192.out _; refine blk_far ?_ NB184_192.out _; exact bm_ BK184.out) hb); replace BK192 := A0_ (blk_below (g := gb192) (o := .cells #[.int .i64 t188, .int .i64 t189, .int .u64 t190] 72 (0, 0)) (by (with_reducible repeat first | apply bN_ | apply bD_ | apply bA_); refine blk_put (cs := #[.int .i64 t188, .int .i64 t189, .int .u64 0]) ?_ 2 _ rfl; refine blk_put (cs := #[.int .i64 t188, .int .i64 0, .int .u64 0]) ?_ 1 _ rfl; refine blk_put (cs := #[.int .i64 0, .int .i64 0, .int .u64 0]) ?_ 0 _ rfl; exact bm_ BK192.out) hb); replace HB := hs_ hb; (try clear hb); have hcz15 := bc3_ BK184.out; have hfz15 := bf3_ BK184.out))
  refine bodyPost_ret (results_ct rfl _ _ gb184 61 #[.bool t193, .int .i64 t194, .int .u64 t195] (0, 0) _ rfl (by (with_reducible repeat first | apply bN_ | apply bD_ | apply bA_); refine blk_put (cs := #[.bool t193, .int .i64 t194, .int .u64 0]) ?_ 2 _ rfl; refine blk_put (cs := #[.bool t193, .int .i64 0, .int .u64 0]) ?_ 1 _ rfl; refine blk_put (cs := #[.bool false, .int .i64 0, .int .u64 0]) ?_ 0 _ rfl; exact bm_ BK184.out) Tryz.underlying61 rfl (by kernel_rfl)) rfl ?_
  exact ⟨by first | rfl | (simp [errW_none, errW_some] <;> rfl) | (simp [*, errW_none, errW_some] <;> rfl), qz_⟩
 ·rw [if_neg c4] at H
  have c4b0 : (t191 == 0) = false := beq_eq_false_iff_ne.mpr c4
  have c4b1 : (t191 != 0) = true := bne_iff_ne.mpr c4
  simp only [Option.some.injEq, Prod.mk.injEq] at H
  obtain ⟨rfl, rfl, rfl, rfl⟩ := H
  go_enter Tryz.func59, Tryz.ntmps59
  go_wp2_with (first | ((with_reducible refine gate_dst (N := 4) rfl ?_); refine box_event ?hg (N := 4) ?hd (cs := #[.bool false, .int .i64 0, .int .u64 0]) (t := 61) ?hr ?_; (case hd => rfl); (case hg => rfl); (case hr => first | (go_simp; done) | (go_simp; rfl)); intro gb184 hg w16 hbox hb; have BK184 := A0_ (hbox); have GW184 := A0_ ((by rw [hg]; exact (below_size (qm_ HB.out)) : w.heap.size ≤ gb184)); have GE184 := GW184; replace HB := hs_ hb; clear hb hbox hg) | ((with_reducible refine gate_dst (N := 11) rfl ?_); refine Kd.R_lit (Kd.int .u64) _ 24 ?hg (N := 11) ?hd (xs := ([a1] : List Int)) (inner := [.int .u64 a1]) (ok := fun _ => True) (okp := fun _ => True) ?hr ?hp (fun _ hk => hk) trivial (Below.refl _ _) (Nat.le_refl _) (by simp) ?_; (case hd => rfl); (case hg => rfl); (case hr => first | (go_simp; done) | (go_simp; rfl)); (case hp => exact (Reps.one (show Kd.M (Kd.int .u64) _ _ _ a1 [.int .u64 a1] from rfl) (Reps.none _ _))); intro v186 w17 ho18 hb hg_ hnew_; clear hg_ hnew_; (first | rw [← Ny185.out] at ho18 | (simp only [Int.reduceToNat] at ho18; rw [← Ny185.out] at ho18)); have HO187 := A0_ (Kd.R_lower ho18 (below_size qz_)); replace BK184 := bb_ BK184 hb; replace HB := hs_ hb; clear hb ho18; obtain ⟨Ao19, co19, eo19⟩ := Kd.R_slice HO187.out; subst eo19) | ((with_reducible refine gate_callee (f := 57) rfl ?_); refine goesL_ (some 12) rfl rfl Tryz.func57 (by kernel_rfl) rfl #[.int .u8 a0, .slice Ao19 y185.length co19] rfl (am_ rfl) ?_; (with_reducible refine (word_open.calls k a0 _ _ y185 t188 t189 t190 t191 _ ?side1 ?side2 A3.out).mono ?_); (case side1 => repeat (first | exact (Kd.R_reads' HO187.out).2.2 | (with_reducible refine Kd.C_alloc ?_ _) | (with_reducible refine Kd.C_drewN ?_ _) | (with_reducible refine Kd.C_drew ?_))); (case side2 => exact (Kd.R_reads' HO187.out).2.1); rintro e w20 ⟨rfl, hb⟩; refine ⟨_, rfl, ?_⟩; replace HO187 := A0_ (Kd.R_below (by exact rm_ HO187.out) hb); replace BK184 := bb_ BK184 hb; replace HB := hs_ hb; (try clear hb)) | ((with_reducible refine gate_dst (N := 6) rfl ?_); refine box_event ?hg (N := 6) ?hd (cs := #[.int .i64 0, .int .i64 0, .int .u64 0]) (t := 72) ?hr ?_; (case hd => rfl); (case hg => rfl); (case hr => first | (go_simp; done) | (go_simp; rfl)); intro gb192 hg w21 hbox hb; replace HO187 := A0_ (Kd.R_below (by exact rm_ HO187.out) hb); have BK192 := A0_ (hbox); have GW192 := A0_ ((by rw [hg]; exact (below_size qz_) : w.heap.size ≤ gb192)); have GE192 := GW192; replace HB := hs_ hb; have NB184_192 := nl_ hg BK184; have NB192_184 := ng_ hg BK184; replace BK184 := bb_ BK184 hb; clear hb hbox hg; have hnb22 := NB192_184.out; have hnc22 := NB184_192.out; have hcz23 := bc3_ BK192.out; have hfz23 := bf3_ BK192.out; have hcz24 := bc3_ BK184.out; have hfz24 := bf3_ BK184.out))
  refine bodyPost_ret (results_ct rfl _ _ gb184 61 #[.bool false, .int .i64 0, .int .u64 0] (0, 0) _ rfl (by (with_reducible repeat first | apply bN_ | apply bD_ | apply bA_); refine blk_put (cs := #[.bool false, .int .i64 0, .int .u64 0]) ?_ 2 _ rfl; refine blk_put (cs := #[.bool false, .int .i64 0, .int .u64 0]) ?_ 1 _ rfl; refine blk_put (cs := #[.bool false, .int .i64 0, .int .u64 0]) ?_ 0 _ rfl; refine blk_far ?_ NB184_192.out _; refine blk_far ?_ NB184_192.out _; refine blk_far ?_ NB184_192.out _; exact bm_ BK184.out) Tryz.underlying61 rfl (by kernel_rfl)) rfl ?_
  exact ⟨by first | rfl | (simp [errW_none, errW_some] <;> rfl) | (simp [*, errW_none, errW_some] <;> rfl), qz_⟩
end Go.Proofs.YtlgapmhjaaajfaaGreat.PA
end

section
namespace Go.Proofs.YtlgapmhjaaajfaaGreat.PA
open Go.RowKit Go.Proofs.YtlgapmhjaaajfaaGreatW.PrintWords Go.Proofs.YtlgapmhjaaajfaaGreatW.PrintLast Go.Proofs.YtlgapmhjaaajfaaGreatW.PrintMore
attribute [local go_sem] max2_int min2_int max_two min_two max_three min_three max_four min_four   -- for this text's walks alone
set_option linter.unusedVariables false
set_option linter.unusedSimpArgs false
def special_sideOf.j0 : Nat → Int → Bool → Bool → Int → Int → Option (Int × Bool)
 | 0, _, _, _, _, _ => none
 | k + 1, x7, x11, x204000, x204001, x204002 => if x7 = 5 then (some (0, false)) else (if x11 = true then (if x204000 = true then (some ((-1), true)) else (some (1, false))) else (some (0, x204000)))
def special_sideOf.f (k : Nat) (a0 : Int) (a1 : Int) (a2 : Bool) : Option (Int × Bool) := (word_Class.f k a0 a1).bind fun bt197 => ((word_Split.f k a0 a1).bind fun bt199 => (if a2 = true then (special_sideOf.j0 k bt197.1 (bt197.1 == 4) bt199.1 bt199.2.1 bt199.2.2.1) else (special_sideOf.j0 k bt197.1 (bt197.1 != 1) bt199.1 bt199.2.1 bt199.2.2.1)))
theorem special_sideOf.mono_l : ∀ k, (∀ y0 y1 y2 y3 y4, LeO (special_sideOf.j0 k y0 y1 y2 y3 y4) (special_sideOf.j0 (k + 1) y0 y1 y2 y3 y4))
 | 0 => fun _ _ _ _ _ r h => by simp [special_sideOf.j0] at h
 | k + 1 => by
  have ih0 := special_sideOf.mono_l k
  ·intro y0 y1 y2 y3 y4
   unfold special_sideOf.j0
   repeat' first
   | (with_reducible exact ih0 _ _ _ _ _)
   | (with_reducible exact word_Class.mono _ _ _)
   | (with_reducible exact word_Split.mono _ _ _)
   | (with_reducible exact LeO.refl _)
   | (with_reducible exact LeO.none _)
   | (with_reducible refine LeO.ite ?_ ?_)
   | (with_reducible refine LeO.bind ?_ (fun _ => ?_))
   | exact ih0 _ _ _ _ _
   | exact word_Class.mono _ _ _
   | exact word_Split.mono _ _ _
   | exact LeO.none _
   | refine LeO.ite ?_ ?_
   | refine LeO.bind ?_ (fun _ => ?_)
theorem special_sideOf.mono : ∀ a0 a1 a2 k, LeO (special_sideOf.f k a0 a1 a2) (special_sideOf.f (k + 1) a0 a1 a2) := by
 intro a0 a1 a2 k
 have ih0 := special_sideOf.mono_l k
 unfold special_sideOf.f
 repeat' first
   | (with_reducible exact ih0 _ _ _ _ _)
   | (with_reducible exact word_Class.mono _ _ _)
   | (with_reducible exact word_Split.mono _ _ _)
   | (with_reducible exact LeO.refl _)
   | (with_reducible exact LeO.none _)
   | (with_reducible refine LeO.ite ?_ ?_)
   | (with_reducible refine LeO.bind ?_ (fun _ => ?_))
   | exact ih0 _ _ _ _ _
   | exact word_Class.mono _ _ _
   | exact word_Split.mono _ _ _
   | exact LeO.none _
   | refine LeO.ite ?_ ?_
   | refine LeO.bind ?_ (fun _ => ?_)
theorem special_sideOf.calls (k : Nat) (a0 : Int) (a1 : Int) (a2 : Bool) (r1 : Int) (r2 : Bool) (w : World) (h : special_sideOf.f k a0 a1 a2 = some (r1, r2)) :
  Calls Tryz.prog 33 #[.int .u8 a0, .int .u64 a1, .bool a2] w fun e w' => e = .returned (.agg #[.int .i64 r1, .bool r2]) ∧ Below w.heap.size w w' := by
 have hu46 := Tryz.underlying46
 have hu61 := Tryz.underlying61
 have HB := A0_ (Below.refl w.heap.size w)
 have H := h
 clear h
 unfold special_sideOf.f at H
 obtain ⟨⟨t197, t198⟩, A4, H⟩ := bs_ H
 try dsimp -simprocs only at H
 obtain ⟨⟨t199, t200, t201, t202⟩, A5, H⟩ := bs_ H
 try dsimp -simprocs only at H
 have HC6 := A0_ H
 clear H
 go_enter Tryz.func33, Tryz.ntmps33
 go_upto_if 26 with (first | ((with_reducible refine gate_dst (N := 6) rfl ?_); refine box_event ?hg (N := 6) ?hd (cs := #[.int .i64 0, .bool false]) (t := 46) ?hr ?_; (case hd => rfl); (case hg => rfl); (case hr => first | (go_simp; done) | (go_simp; rfl)); intro gb196 hg w7 hbox hb; have BK196 := A0_ (hbox); have GW196 := A0_ ((by rw [hg]; exact (below_size (qm_ HB.out)) : w.heap.size ≤ gb196)); have GE196 := GW196; replace HB := hs_ hb; clear hb hbox hg) | ((with_reducible refine gate_callee (f := 56) rfl ?_); refine goesL_ (some 15) rfl rfl Tryz.func56 (by kernel_rfl) rfl #[.int .u8 a0, .int .u64 a1] rfl (am_ rfl) ?_; (with_reducible refine (word_Class.calls k a0 a1 t197 t198 _ A4.out).mono ?_); rintro e w8 ⟨rfl, hb⟩; refine ⟨_, rfl, ?_⟩; replace BK196 := bb_ BK196 hb; replace HB := hs_ hb; (try clear hb)) | ((with_reducible refine gate_callee (f := 59) rfl ?_); refine goesL_ (some 21) rfl rfl Tryz.func59 (by kernel_rfl) rfl #[.int .u8 a0, .int .u64 a1] rfl (am_ rfl) ?_; (with_reducible refine (word_Split.calls k a0 a1 t199 t200 t201 t202 _ A5.out).mono ?_); rintro e w9 ⟨rfl, hb⟩; refine ⟨_, rfl, ?_⟩; replace BK196 := bb_ BK196 hb; replace HB := hs_ hb; (try clear hb)) | ((with_reducible refine gate_dst (N := 9) rfl ?_); refine box_event ?hg (N := 9) ?hd (cs := #[.bool false, .int .i64 0, .int .u64 0]) (t := 61) ?hr ?_; (case hd => rfl); (case hg => rfl); (case hr => first | (go_simp; done) | (go_simp; rfl)); intro gb203 hg w10 hbox hb; have BK203 := A0_ (hbox); have GW203 := A0_ ((by rw [hg]; exact (below_size qz_) : w.heap.size ≤ gb203)); have GE203 := GW203; replace HB := hs_ hb; have NB196_203 := nl_ hg BK196; have NB203_196 := ng_ hg BK196; replace BK196 := bb_ BK196 hb; clear hb hbox hg; have hnb11 := NB203_196.out; have hnc11 := NB196_203.out; have hcz12 := bc3_ BK203.out; have hfz12 := bf3_ BK203.out))
 (try simp only [Act.put, sp_])
 go_cut [11] (fun v11 wc => ∃ (kq : Nat) (x11_5 : Bool), v11 = .bool x11_5 ∧ Aside0 (special_sideOf.j0 kq t197 x11_5 t199 t200 t201 = some (r1, r2)) ∧ Aside0 (kq ≤ k) ∧ Aside0 (wc.heap[gb196]? = some (.cells #[.int .i64 0, .bool false] 46 (0, 0))) ∧ Aside0 (wc.heap[gb203]? = some (.cells #[.bool t199, .int .i64 t200, .int .u64 t201] 61 (0, 0))) ∧ Aside0 (Below w.heap.size w wc))
 case first =>
  have H := HC6.out
  clear HC6
  by_cases c13 : a2 = true
  ·subst c13
   rw [if_pos rfl] at H
   have H' := A0_ H
   clear H
   go_wp2
   go_meet
   case rel => exact ⟨_, ((t197 == 4)), (by first | rfl | (simp; done) | (simp [*]; done)), H', ⟨by first | omega | exact Nat.le_refl _⟩, ⟨by (with_reducible repeat first | apply bN_ | apply bD_ | apply bA_); refine blk_far ?_ NB196_203.out _; refine blk_far ?_ NB196_203.out _; refine blk_far ?_ NB196_203.out _; exact bm_ BK196.out⟩, ⟨by (with_reducible repeat first | apply bN_ | apply bD_ | apply bA_); refine blk_put (cs := #[.bool t199, .int .i64 t200, .int .u64 0]) ?_ 2 _ rfl; refine blk_put (cs := #[.bool t199, .int .i64 0, .int .u64 0]) ?_ 1 _ rfl; refine blk_put (cs := #[.bool false, .int .i64 0, .int .u64 0]) ?_ 0 _ rfl; exact bm_ BK203.out⟩, ⟨qz_⟩⟩
  ·replace c13 := Bool.eq_false_iff.mpr c13
   subst c13
   rw [if_neg (show ¬ (false = true) by decide)] at H
   have H' := A0_ H
   clear H
   go_wp2
   go_meet
   case rel => exact ⟨_, ((t197 != 1)), (by first | rfl | (simp; done) | (simp [*]; done)), H', ⟨by first | omega | exact Nat.le_refl _⟩, ⟨by (with_reducible repeat first | apply bN_ | apply bD_ | apply bA_); refine blk_far ?_ NB196_203.out _; refine blk_far ?_ NB196_203.out _; refine blk_far ?_ NB196_203.out _; exact bm_ BK196.out⟩, ⟨by (with_reducible repeat first | apply bN_ | apply bD_ | apply bA_); refine blk_put (cs := #[.bool t199, .int .i64 t200, .int .u64 0]) ?_ 2 _ rfl; refine blk_put (cs := #[.bool t199, .int .i64 0, .int .u64 0]) ?_ 1 _ rfl; refine blk_put (cs := #[.bool false, .int .i64 0, .int .u64 0]) ?_ 0 _ rfl; exact bm_ BK203.out⟩, ⟨qz_⟩⟩
 case rest =>
  clear HC6
  try clear c1
  try clear p2
  try clear c3
  try clear c5
  try clear c11
  try clear c13
  try clear hcz12
  try clear hfz12
  obtain ⟨kq, x11_5, rfl, HA, HJ5, BK196, BK203, HB⟩ := hcut
  cases kq with
  | zero => exact absurd HA.out (by simp [special_sideOf.j0])
  | succ kj5 =>
   have H := HA.out
   clear HA
   simp only [special_sideOf.j0] at H
   by_cases c14 : t197 = 5
   ·rw [if_pos c14] at H
    have c14b0 : (t197 == 5) = true := beq_iff_eq.mpr c14
    have c14b1 : (t197 != 5) = false := bne_eq_false_iff_eq.mpr c14
    clear c14
    simp only [Option.some.injEq, Prod.mk.injEq] at H
    obtain ⟨rfl, rfl⟩ := H
    have hnb15 := NB196_203.out
    have hnc15 := NB203_196.out
    have hcz16 := bc2_ BK196.out
    have hfz16 := bf2_ BK196.out
    go_wp2
    refine bodyPost_ret (results_cell_row rfl _ _ gb196 46 #[.int .i64 0, .bool false] (0, 0) _ rfl (by (with_reducible repeat first | apply bN_ | apply bD_ | apply bA_); refine blk_put (cs := #[.int .i64 0, .bool false]) ?_ 1 _ rfl; refine blk_put (cs := #[.int .i64 0, .bool false]) ?_ 0 _ rfl; exact bm_ BK196.out) Tryz.underlying46 rfl (by kernel_rfl)) rfl ?_
    exact ⟨by first | rfl | (simp [errW_none, errW_some] <;> rfl) | (simp [*, errW_none, errW_some] <;> rfl), qz_⟩
   ·rw [if_neg c14] at H
    have c14b0 : (t197 == 5) = false := beq_eq_false_iff_ne.mpr c14
    have c14b1 : (t197 != 5) = true := bne_iff_ne.mpr c14
    by_cases c17 : x11_5 = true
    ·subst c17
     rw [if_pos rfl] at H
     by_cases c18 : t199 = true
     ·subst c18
      rw [if_pos rfl] at H
      simp only [Option.some.injEq, Prod.mk.injEq] at H
      obtain ⟨rfl, rfl⟩ := H
      have hnb19 := NB203_196.out
      have hnc19 := NB196_203.out
      have hcz20 := bc3_ BK203.out
      have hfz20 := bf3_ BK203.out
      have hcz21 := bc2_ BK196.out
      have hfz21 := bf2_ BK196.out
      go_wp2
      refine bodyPost_ret (results_cell_row rfl _ _ gb196 46 #[.int .i64 (-1), .bool true] (0, 0) _ rfl (by (with_reducible repeat first | apply bN_ | apply bD_ | apply bA_); refine blk_put (cs := #[.int .i64 (-1), .bool false]) ?_ 1 _ rfl; refine blk_put (cs := #[.int .i64 0, .bool false]) ?_ 0 _ rfl; exact bm_ BK196.out) Tryz.underlying46 rfl (by kernel_rfl)) rfl ?_
      exact ⟨by first | rfl | (simp [errW_none, errW_some] <;> rfl) | (simp [*, errW_none, errW_some] <;> rfl), qz_⟩
     ·replace c18 := Bool.eq_false_iff.mpr c18
      subst c18
      rw [if_neg (show ¬ (false = true) by decide)] at H
      simp only [Option.some.injEq, Prod.mk.injEq] at H
      obtain ⟨rfl, rfl⟩ := H
      have hnb22 := NB203_196.out
      have hnc22 := NB196_203.out
      have hcz23 := bc3_ BK203.out
      have hfz23 := bf3_ BK203.out
      have hcz24 := bc2_ BK196.out
      have hfz24 := bf2_ BK196.out
      go_wp2
      refine bodyPost_ret (results_cell_row rfl _ _ gb196 46 #[.int .i64 1, .bool false] (0, 0) _ rfl (by (with_reducible repeat first | apply bN_ | apply bD_ | apply bA_); refine blk_put (cs := #[.int .i64 1, .bool false]) ?_ 1 _ rfl; refine blk_put (cs := #[.int .i64 0, .bool false]) ?_ 0 _ rfl; exact bm_ BK196.out) Tryz.underlying46 rfl (by kernel_rfl)) rfl ?_
      exact ⟨by first | rfl | (simp [errW_none, errW_some] <;> rfl) | (simp [*, errW_none, errW_some] <;> rfl), qz_⟩
    ·replace c17 := Bool.eq_false_iff.mpr c17
     subst c17
     rw [if_neg (show ¬ (false = true) by decide)] at H
     simp only [Option.some.injEq, Prod.mk.injEq] at H
     obtain ⟨rfl, rfl⟩ := H
     have hnb25 := NB203_196.out
     have hnc25 := NB196_203.out
     have hcz26 := bc3_ BK203.out
     have hfz26 := bf3_ BK203.out
     have hcz27 := bc2_ BK196.out
     have hfz27 := bf2_ BK196.out
     go_wp2
     refine bodyPost_ret (results_cell_row rfl _ _ gb196 46 #[.int .i64 0, .bool t199] (0, 0) _ rfl (by (with_reducible repeat first | apply bN_ | apply bD_ | apply bA_); refine blk_put (cs := #[.int .i64 0, .bool false]) ?_ 1 _ rfl; refine blk_put (cs := #[.int .i64 0, .bool false]) ?_ 0 _ rfl; exact bm_ BK196.out) Tryz.underlying46 rfl (by kernel_rfl)) rfl ?_
     exact ⟨by first | rfl | (simp [errW_none, errW_some] <;> rfl) | (simp [*, errW_none, errW_some] <;> rfl), qz_⟩
end Go.Proofs.YtlgapmhjaaajfaaGreat.PA
end
