/- Steps of Go functions that the law SpecialQuotients uses, told as plain Lean functions, each with the proof that its call comes to what it tells; words on memory; plain facts. No condition beyond those that each text names. -/
import Derived.Test.YtlgapmhjaaajfaaGreatProg
import Derived.WalkMore
import Derived.Test.YtlgapmhjaaajfaaGreatSSpecialQuotients0
import Derived.Test.YtlgapmhjaaajfaaGreatSSpecialQuotients1
import Derived.Test.YtlgapmhjaaajfaaGreatSSpecialQuotients2
import Derived.Test.YtlgapmhjaaajfaaGreatSSpecialQuotients3
import Derived.Test.YtlgapmhjaaajfaaGreatSSpecialQuotients5
import Derived.Test.YtlgapmhjaaajfaaGreatSSpecialQuotients6
import Derived.Test.YtlgapmhjaaajfaaGreatSSpecialQuotients7
import Derived.Test.YtlgapmhjaaajfaaGreatSSpecialQuotients8
import Derived.Test.YtlgapmhjaaajfaaGreatSSpecialQuotients9
import Derived.Test.YtlgapmhjaaajfaaGreatSSpecialQuotients10
import Derived.Test.YtlgapmhjaaajfaaGreatSSpecialQuotients11
set_option maxHeartbeats 16000000
set_option maxRecDepth 100000
section
namespace Go.Proofs.YtlgapmhjaaajfaaGreat.PA
open Go.RowKit Go.Proofs.YtlgapmhjaaajfaaGreatW.PrintWords Go.Proofs.YtlgapmhjaaajfaaGreatW.PrintLast Go.Proofs.YtlgapmhjaaajfaaGreatW.PrintMore
attribute [local go_sem] max2_int min2_int max_two min_two max_three min_three max_four min_four   -- for this text's walks alone
set_option linter.unusedVariables false
set_option linter.unusedSimpArgs false
def cutplaneref05_Sub.f (k : Nat) (a0 : Int) (a1 : Int) (a2 : Int) (a3 : Int) : Option (Int × Int) := (cutplaneref05_nan.f k a0 a3).bind fun t743 => (if t743 = true then ((cutplaneref05_Add.f k a0 a1 a2 a3).bind fun bt744 => (some (bt744.1, bt744.2))) else ((cutplaneref05_neg.f a0 a3).bind fun t746 => ((cutplaneref03_Signed.f a0 a3 (!t746)).bind fun t747 => ((cutplaneref05_Add.f k a0 a1 a2 t747).bind fun bt748 => (some (bt748.1, bt748.2))))))
theorem cutplaneref05_Sub.mono : ∀ a0 a1 a2 a3 k, LeO (cutplaneref05_Sub.f k a0 a1 a2 a3) (cutplaneref05_Sub.f (k + 1) a0 a1 a2 a3) := by
 intro a0 a1 a2 a3 k
 unfold cutplaneref05_Sub.f
 repeat' first
   | (with_reducible exact cutplaneref05_Add.mono _ _ _ _ _)
   | (with_reducible exact cutplaneref05_nan.mono _ _ _)
   | (with_reducible exact LeO.refl _)
   | (with_reducible exact LeO.none _)
   | (with_reducible refine LeO.ite ?_ ?_)
   | (with_reducible refine LeO.bind ?_ (fun _ => ?_))
   | exact cutplaneref05_Add.mono _ _ _ _ _
   | exact cutplaneref05_nan.mono _ _ _
   | exact LeO.none _
   | refine LeO.ite ?_ ?_
   | refine LeO.bind ?_ (fun _ => ?_)
theorem cutplaneref05_Sub.calls (k : Nat) (a0 : Int) (a1 : Int) (a2 : Int) (a3 : Int) (r1 : Int) (r2 : Int) (w : World) (h : cutplaneref05_Sub.f k a0 a1 a2 a3 = some (r1, r2)) :
  Calls Tryz.prog 49 #[.int .u8 a0, .int .u8 a1, .int .u64 a2, .int .u64 a3] w fun e w' => e = .returned (.tuple #[.int .u64 r1, .int .u8 r2]) ∧ Below w.heap.size w w' := by
 have HB := A0_ (Below.refl w.heap.size w)
 have H := h
 clear h
 unfold cutplaneref05_Sub.f at H
 obtain ⟨t743, A5, H⟩ := bs_ H
 try dsimp -simprocs only at H
 by_cases c6 : t743 = true
 ·subst c6
  rw [if_pos rfl] at H
  obtain ⟨⟨t744, t745⟩, A7, H⟩ := bs_ H
  try dsimp -simprocs only at H
  simp only [Option.some.injEq, Prod.mk.injEq] at H
  obtain ⟨rfl, rfl⟩ := H
  go_enter Tryz.func49, Tryz.ntmps49
  go_wp2_with (first | ((with_reducible refine gate_callee (f := 62) rfl ?_); refine goesL_ (some 12) rfl rfl Tryz.func62 (by kernel_rfl) rfl #[.int .u8 a0, .int .u64 a3] rfl (am_ rfl) ?_; (with_reducible refine (cutplaneref05_nan.calls k a0 a3 true _ A5.out).mono ?_); rintro e w8 ⟨rfl, hb⟩; refine ⟨_, rfl, ?_⟩; replace HB := hs_ hb; (try clear hb)) | ((with_reducible refine gate_callee (f := 50) rfl ?_); refine goesL_ (some 25) rfl rfl Tryz.func50 (by kernel_rfl) rfl #[.int .u8 a0, .int .u8 a1, .int .u64 a2, .int .u64 a3] rfl (am_ rfl) ?_; (with_reducible refine (cutplaneref05_Add.calls k a0 a1 a2 a3 t744 t745 _ A7.out).mono ?_); rintro e w9 ⟨rfl, hb⟩; refine ⟨_, rfl, ?_⟩; replace HB := hs_ hb; (try clear hb)))
  go_ret2
  exact ⟨by first | rfl | (simp [errW_none, errW_some] <;> rfl) | (simp [*, errW_none, errW_some] <;> rfl), qm_ HB.out⟩
 ·replace c6 := Bool.eq_false_iff.mpr c6
  subst c6
  rw [if_neg (show ¬ (false = true) by decide)] at H
  obtain ⟨t746, A10, H⟩ := bs_ H
  try dsimp -simprocs only at H
  obtain ⟨t747, A11, H⟩ := bs_ H
  try dsimp -simprocs only at H
  obtain ⟨⟨t748, t749⟩, A12, H⟩ := bs_ H
  try dsimp -simprocs only at H
  simp only [Option.some.injEq, Prod.mk.injEq] at H
  obtain ⟨rfl, rfl⟩ := H
  go_enter Tryz.func49, Tryz.ntmps49
  go_wp2_with (first | ((with_reducible refine gate_callee (f := 62) rfl ?_); refine goesL_ (some 12) rfl rfl Tryz.func62 (by kernel_rfl) rfl #[.int .u8 a0, .int .u64 a3] rfl (am_ rfl) ?_; (with_reducible refine (cutplaneref05_nan.calls k a0 a3 false _ A5.out).mono ?_); rintro e w13 ⟨rfl, hb⟩; refine ⟨_, rfl, ?_⟩; replace HB := hs_ hb; (try clear hb)) | ((with_reducible refine gate_callee (f := 65) rfl ?_); refine goesL_ (some 18) rfl rfl Tryz.func65 (by kernel_rfl) rfl #[.int .u8 a0, .int .u64 a3] rfl (am_ rfl) ?_; (with_reducible refine (cutplaneref05_neg.calls a0 a3 t746 _ A10.out).mono ?_); rintro e w' ⟨rfl, ⟨nd, rfl⟩⟩; refine ⟨_, rfl, ?_⟩) | ((with_reducible refine gate_callee (f := 53) rfl ?_); refine goesL_ (some 20) rfl rfl Tryz.func53 (by kernel_rfl) rfl #[.int .u8 a0, .int .u64 a3, .bool (!t746)] rfl (am_ rfl) ?_; (with_reducible refine (cutplaneref03_Signed.calls a0 a3 (!t746) t747 _ A11.out).mono ?_); rintro e w' ⟨rfl, ⟨nd, rfl⟩⟩; refine ⟨_, rfl, ?_⟩) | ((with_reducible refine gate_callee (f := 50) rfl ?_); refine goesL_ (some 25) rfl rfl Tryz.func50 (by kernel_rfl) rfl #[.int .u8 a0, .int .u8 a1, .int .u64 a2, .int .u64 t747] rfl (am_ rfl) ?_; (with_reducible refine (cutplaneref05_Add.calls k a0 a1 a2 t747 t748 t749 _ A12.out).mono ?_); rintro e w14 ⟨rfl, hb⟩; refine ⟨_, rfl, ?_⟩; replace HB := hs_ hb; (try clear hb)))
  go_ret2
  exact ⟨by first | rfl | (simp [errW_none, errW_some] <;> rfl) | (simp [*, errW_none, errW_some] <;> rfl), qm_ HB.out⟩
def cutplaneref11_product.f (k : Nat) (a0 : Int) (a1 : Int) (a2_0 : Int) (a2_1 : Int) (a3_0 : Int) (a3_1 : Int) : Option (Int × Int) := (cutplaneref05_Mul.f k a0 a1 a2_0 a3_0).bind fun bt753 => ((cutplaneref05_Mul.f k a0 a1 a2_1 a3_1).bind fun bt755 => ((cutplaneref05_Mul.f k a0 a1 a2_0 a3_1).bind fun bt757 => ((cutplaneref05_Mul.f k a0 a1 a2_1 a3_0).bind fun bt759 => ((cutplaneref05_Sub.f k a0 a1 bt753.1 bt755.1).bind fun bt761 => ((cutplaneref05_Add.f k a0 a1 bt757.1 bt759.1).bind fun bt763 => (some (bt761.1, bt763.1)))))))
theorem cutplaneref11_product.calls (k : Nat) (a0 : Int) (a1 : Int) (a2_0 : Int) (a2_1 : Int) (a3_0 : Int) (a3_1 : Int) (r1 : Int) (r2 : Int) (w : World) (h : cutplaneref11_product.f k a0 a1 a2_0 a2_1 a3_0 a3_1 = some (r1, r2)) :
  Calls Tryz.prog 24 #[.int .u8 a0, .int .u8 a1, .agg #[.int .u64 a2_0, .int .u64 a2_1], .agg #[.int .u64 a3_0, .int .u64 a3_1]] w fun e w' => e = .returned (.agg #[.int .u64 r1, .int .u64 r2]) ∧ Below w.heap.size w w' := by
 have hu26 := Tryz.underlying26
 have HB := A0_ (Below.refl w.heap.size w)
 have H := h
 clear h
 unfold cutplaneref11_product.f at H
 obtain ⟨⟨t753, t754⟩, A5, H⟩ := bs_ H
 try dsimp -simprocs only at H
 obtain ⟨⟨t755, t756⟩, A6, H⟩ := bs_ H
 try dsimp -simprocs only at H
 obtain ⟨⟨t757, t758⟩, A7, H⟩ := bs_ H
 try dsimp -simprocs only at H
 obtain ⟨⟨t759, t760⟩, A8, H⟩ := bs_ H
 try dsimp -simprocs only at H
 obtain ⟨⟨t761, t762⟩, A9, H⟩ := bs_ H
 try dsimp -simprocs only at H
 obtain ⟨⟨t763, t764⟩, A10, H⟩ := bs_ H
 try dsimp -simprocs only at H
 simp only [Option.some.injEq, Prod.mk.injEq] at H
 obtain ⟨rfl, rfl⟩ := H
 go_enter Tryz.func24, Tryz.ntmps24
 go_wp2_with (first | ((with_reducible refine gate_dst (N := 6) rfl ?_); refine box_event ?hg (N := 6) ?hd (cs := #[.int .u64 a2_0, .int .u64 a2_1]) (t := 26) ?hr ?_; (case hd => rfl); (case hg => rfl); (case hr => first | (go_simp; done) | (go_simp; rfl)); intro gb750 hg w11 hbox hb; have BK750 := A0_ (hbox); have GW750 := A0_ ((by rw [hg]; exact (below_size (qm_ HB.out)) : w.heap.size ≤ gb750)); have GE750 := GW750; replace HB := hs_ hb; clear hb hbox hg) | ((with_reducible refine gate_dst (N := 7) rfl ?_); refine box_event ?hg (N := 7) ?hd (cs := #[.int .u64 a3_0, .int .u64 a3_1]) (t := 26) ?hr ?_; (case hd => rfl); (case hg => rfl); (case hr => first | (go_simp; done) | (go_simp; rfl)); intro gb751 hg w12 hbox hb; have BK751 := A0_ (hbox); have GW751 := A0_ ((by rw [hg]; exact (below_size qz_) : w.heap.size ≤ gb751)); have GE751 := GW751; replace HB := hs_ hb; have NB750_751 := nl_ hg BK750; have NB751_750 := ng_ hg BK750; replace BK750 := bb_ BK750 hb; clear hb hbox hg) | ((with_reducible refine gate_dst (N := 8) rfl ?_); refine box_event ?hg (N := 8) ?hd (cs := #[.int .u64 0, .int .u64 0]) (t := 26) ?hr ?_; (case hd => rfl); (case hg => rfl); (case hr => first | (go_simp; done) | (go_simp; rfl)); intro gb752 hg w13 hbox hb; have BK752 := A0_ (hbox); have GW752 := A0_ ((by rw [hg]; exact (below_size qz_) : w.heap.size ≤ gb752)); have GE752 := GW752; replace HB := hs_ hb; have NB750_752 := nl_ hg BK750; have NB752_750 := ng_ hg BK750; replace BK750 := bb_ BK750 hb; have NB751_752 := nl_ hg BK751; have NB752_751 := ng_ hg BK751; replace BK751 := bb_ BK751 hb; clear hb hbox hg; have hnb14 := NB750_751.out; have hnc14 := NB751_750.out; have hnb15 := NB750_752.out; have hnc15 := NB752_750.out; have hcz16 := bc2_ BK750.out; have hfz16 := bf2_ BK750.out; have hnb17 := NB751_752.out; have hnc17 := NB752_751.out; have hcz18 := bc2_ BK751.out; have hfz18 := bf2_ BK751.out) | ((with_reducible refine gate_callee (f := 48) rfl ?_); refine goesL_ (some 28) rfl rfl Tryz.func48 (by kernel_rfl) rfl #[.int .u8 a0, .int .u8 a1, .int .u64 a2_0, .int .u64 a3_0] rfl (am_ rfl) ?_; (with_reducible refine (cutplaneref05_Mul.calls k a0 a1 a2_0 a3_0 t753 t754 _ A5.out).mono ?_); rintro e w19 ⟨rfl, hb⟩; refine ⟨_, rfl, ?_⟩; replace BK750 := bb_ BK750 hb; replace BK751 := bb_ BK751 hb; replace BK752 := bb_ BK752 hb; replace HB := hs_ hb; (try clear hb); have hcz20 := bc2_ BK750.out; have hfz20 := bf2_ BK750.out; have hcz21 := bc2_ BK751.out; have hfz21 := bf2_ BK751.out) | ((with_reducible refine gate_callee (f := 48) rfl ?_); refine goesL_ (some 38) rfl rfl Tryz.func48 (by kernel_rfl) rfl #[.int .u8 a0, .int .u8 a1, .int .u64 a2_1, .int .u64 a3_1] rfl (am_ rfl) ?_; (with_reducible refine (cutplaneref05_Mul.calls k a0 a1 a2_1 a3_1 t755 t756 _ A6.out).mono ?_); rintro e w22 ⟨rfl, hb⟩; refine ⟨_, rfl, ?_⟩; replace BK750 := bb_ BK750 hb; replace BK751 := bb_ BK751 hb; replace BK752 := bb_ BK752 hb; replace HB := hs_ hb; (try clear hb); have hcz23 := bc2_ BK750.out; have hfz23 := bf2_ BK750.out; have hcz24 := bc2_ BK751.out; have hfz24 := bf2_ BK751.out) | ((with_reducible refine gate_callee (f := 48) rfl ?_); refine goesL_ (some 48) rfl rfl Tryz.func48 (by kernel_rfl) rfl #[.int .u8 a0, .int .u8 a1, .int .u64 a2_0, .int .u64 a3_1] rfl (am_ rfl) ?_; (with_reducible refine (cutplaneref05_Mul.calls k a0 a1 a2_0 a3_1 t757 t758 _ A7.out).mono ?_); rintro e w25 ⟨rfl, hb⟩; refine ⟨_, rfl, ?_⟩; replace BK750 := bb_ BK750 hb; replace BK751 := bb_ BK751 hb; replace BK752 := bb_ BK752 hb; replace HB := hs_ hb; (try clear hb); have hcz26 := bc2_ BK750.out; have hfz26 := bf2_ BK750.out; have hcz27 := bc2_ BK751.out; have hfz27 := bf2_ BK751.out) | ((with_reducible refine gate_callee (f := 48) rfl ?_); refine goesL_ (some 58) rfl rfl Tryz.func48 (by kernel_rfl) rfl #[.int .u8 a0, .int .u8 a1, .int .u64 a2_1, .int .u64 a3_0] rfl (am_ rfl) ?_; (with_reducible refine (cutplaneref05_Mul.calls k a0 a1 a2_1 a3_0 t759 t760 _ A8.out).mono ?_); rintro e w28 ⟨rfl, hb⟩; refine ⟨_, rfl, ?_⟩; replace BK750 := bb_ BK750 hb; replace BK751 := bb_ BK751 hb; replace BK752 := bb_ BK752 hb; replace HB := hs_ hb; (try clear hb)) | ((with_reducible refine gate_callee (f := 49) rfl ?_); refine goesL_ (some 66) rfl rfl Tryz.func49 (by kernel_rfl) rfl #[.int .u8 a0, .int .u8 a1, .int .u64 t753, .int .u64 t755] rfl (am_ rfl) ?_; (with_reducible refine (cutplaneref05_Sub.calls k a0 a1 t753 t755 t761 t762 _ A9.out).mono ?_); rintro e w29 ⟨rfl, hb⟩; refine ⟨_, rfl, ?_⟩; replace BK750 := bb_ BK750 hb; replace BK751 := bb_ BK751 hb; replace BK752 := bb_ BK752 hb; replace HB := hs_ hb; (try clear hb)) | ((with_reducible refine gate_callee (f := 50) rfl ?_); refine goesL_ (some 74) rfl rfl Tryz.func50 (by kernel_rfl) rfl #[.int .u8 a0, .int .u8 a1, .int .u64 t757, .int .u64 t759] rfl (am_ rfl) ?_; (with_reducible refine (cutplaneref05_Add.calls k a0 a1 t757 t759 t763 t764 _ A10.out).mono ?_); rintro e w30 ⟨rfl, hb⟩; refine ⟨_, rfl, ?_⟩; replace BK750 := bb_ BK750 hb; replace BK751 := bb_ BK751 hb; replace BK752 := bb_ BK752 hb; replace HB := hs_ hb; (try clear hb); have hcz31 := bc2_ BK752.out; have hfz31 := bf2_ BK752.out))
 refine bodyPost_ret (results_cell_row rfl _ _ gb752 26 #[.int .u64 t761, .int .u64 t763] (0, 0) _ rfl (by (with_reducible repeat first | apply bN_ | apply bD_ | apply bA_); refine blk_put (cs := #[.int .u64 t761, .int .u64 0]) ?_ 1 _ rfl; refine blk_put (cs := #[.int .u64 0, .int .u64 0]) ?_ 0 _ rfl; exact bm_ BK752.out) Tryz.underlying26 rfl (by kernel_rfl)) rfl ?_
 exact ⟨by first | rfl | (simp [errW_none, errW_some] <;> rfl) | (simp [*, errW_none, errW_some] <;> rfl), qz_⟩
def cutplaneref03_Canon.f (k : Nat) (a0 : Int) (a1 : Int) : Option (Int) := (cutplaneref03_Class.f k a0 a1).bind fun t765 => (if t765 = 5 then ((cutplaneref03_None.f a0).bind fun t766 => (some t766)) else (some a1))
theorem cutplaneref03_Canon.calls (k : Nat) (a0 : Int) (a1 : Int) (r : Int) (w : World) (h : cutplaneref03_Canon.f k a0 a1 = some r) :
  Calls Tryz.prog 51 #[.int .u8 a0, .int .u64 a1] w fun e w' => e = .returned (.int .u64 r) ∧ Below w.heap.size w w' := by
 have HB := A0_ (Below.refl w.heap.size w)
 have H := h
 clear h
 unfold cutplaneref03_Canon.f at H
 obtain ⟨t765, A3, H⟩ := bs_ H
 try dsimp -simprocs only at H
 by_cases c4 : t765 = 5
 ·rw [if_pos c4] at H
  have c4b0 : (t765 == 5) = true := beq_iff_eq.mpr c4
  have c4b1 : (t765 != 5) = false := bne_eq_false_iff_eq.mpr c4
  clear c4
  obtain ⟨t766, A5, H⟩ := bs_ H
  try dsimp -simprocs only at H
  obtain rfl := Option.some.inj H
  go_enter Tryz.func51, Tryz.ntmps51
  go_wp2_with (first | ((with_reducible refine gate_callee (f := 40) rfl ?_); refine goesL_ (some 7) rfl rfl Tryz.func40 (by kernel_rfl) rfl #[.int .u8 a0, .int .u64 a1] rfl (am_ rfl) ?_; (with_reducible refine (cutplaneref03_Class.calls k a0 a1 t765 _ A3.out).mono ?_); rintro e w6 ⟨rfl, hb⟩; refine ⟨_, rfl, ?_⟩; replace HB := hs_ hb; (try clear hb)) | ((with_reducible refine gate_callee (f := 42) rfl ?_); refine goesL_ (some 10) rfl rfl Tryz.func42 (by kernel_rfl) rfl #[.int .u8 a0] rfl (am_ rfl) ?_; (with_reducible refine (cutplaneref03_None.calls a0 t766 _ A5.out).mono ?_); rintro e w7 ⟨rfl, hb⟩; refine ⟨_, rfl, ?_⟩; replace HB := hs_ hb; (try clear hb)))
  go_ret
  exact ⟨by first | rfl | (simp [errW_none, errW_some] <;> rfl) | (simp [*, errW_none, errW_some] <;> rfl), qm_ HB.out⟩
 ·rw [if_neg c4] at H
  have c4b0 : (t765 == 5) = false := beq_eq_false_iff_ne.mpr c4
  have c4b1 : (t765 != 5) = true := bne_iff_ne.mpr c4
  obtain rfl := Option.some.inj H
  go_enter Tryz.func51, Tryz.ntmps51
  go_wp2_with (first | ((with_reducible refine gate_callee (f := 40) rfl ?_); refine goesL_ (some 7) rfl rfl Tryz.func40 (by kernel_rfl) rfl #[.int .u8 a0, .int .u64 a1] rfl (am_ rfl) ?_; (with_reducible refine (cutplaneref03_Class.calls k a0 a1 t765 _ A3.out).mono ?_); rintro e w8 ⟨rfl, hb⟩; refine ⟨_, rfl, ?_⟩; replace HB := hs_ hb; (try clear hb)))
  go_ret
  exact ⟨by first | rfl | (simp [errW_none, errW_some] <;> rfl) | (simp [*, errW_none, errW_some] <;> rfl), qm_ HB.out⟩
def cutplaneref10_Minus.f (k : Nat) (a0 : Int) (a1 : Int) : Option (Int) := (cutplaneref03_Class.f k a0 a1).bind fun t767 => (if t767 = 5 then ((cutplaneref03_None.f a0).bind fun t768 => (some t768)) else ((cutplaneref03_Split.f a0 a1).bind fun bt769 => ((cutplaneref03_Signed.f a0 a1 (!bt769.1)).bind fun t772 => (some t772))))
theorem cutplaneref10_Minus.calls (k : Nat) (a0 : Int) (a1 : Int) (r : Int) (w : World) (h : cutplaneref10_Minus.f k a0 a1 = some r) :
  Calls Tryz.prog 52 #[.int .u8 a0, .int .u64 a1] w fun e w' => e = .returned (.int .u64 r) ∧ Below w.heap.size w w' := by
 have hfd61_0 : ∀ (v0_ v1_ v2_ : Value) (w : World), (Instr.field 61 (.agg #[v0_, v1_, v2_]) 0).run Tryz.prog w = .ok v0_ w := fun _ _ _ _ => by kernel_rfl
 have HB := A0_ (Below.refl w.heap.size w)
 have H := h
 clear h
 unfold cutplaneref10_Minus.f at H
 obtain ⟨t767, A3, H⟩ := bs_ H
 try dsimp -simprocs only at H
 by_cases c4 : t767 = 5
 ·rw [if_pos c4] at H
  have c4b0 : (t767 == 5) = true := beq_iff_eq.mpr c4
  have c4b1 : (t767 != 5) = false := bne_eq_false_iff_eq.mpr c4
  clear c4
  obtain ⟨t768, A5, H⟩ := bs_ H
  try dsimp -simprocs only at H
  obtain rfl := Option.some.inj H
  go_enter Tryz.func52, Tryz.ntmps52
  go_wp2_with (first | ((with_reducible refine gate_callee (f := 40) rfl ?_); refine goesL_ (some 7) rfl rfl Tryz.func40 (by kernel_rfl) rfl #[.int .u8 a0, .int .u64 a1] rfl (am_ rfl) ?_; (with_reducible refine (cutplaneref03_Class.calls k a0 a1 t767 _ A3.out).mono ?_); rintro e w6 ⟨rfl, hb⟩; refine ⟨_, rfl, ?_⟩; replace HB := hs_ hb; (try clear hb)) | ((with_reducible refine gate_callee (f := 42) rfl ?_); refine goesL_ (some 10) rfl rfl Tryz.func42 (by kernel_rfl) rfl #[.int .u8 a0] rfl (am_ rfl) ?_; (with_reducible refine (cutplaneref03_None.calls a0 t768 _ A5.out).mono ?_); rintro e w7 ⟨rfl, hb⟩; refine ⟨_, rfl, ?_⟩; replace HB := hs_ hb; (try clear hb)))
  go_ret
  exact ⟨by first | rfl | (simp [errW_none, errW_some] <;> rfl) | (simp [*, errW_none, errW_some] <;> rfl), qm_ HB.out⟩
 ·rw [if_neg c4] at H
  have c4b0 : (t767 == 5) = false := beq_eq_false_iff_ne.mpr c4
  have c4b1 : (t767 != 5) = true := bne_iff_ne.mpr c4
  obtain ⟨⟨t769, t770, t771⟩, A8, H⟩ := bs_ H
  try dsimp -simprocs only at H
  obtain ⟨t772, A9, H⟩ := bs_ H
  try dsimp -simprocs only at H
  obtain rfl := Option.some.inj H
  go_enter Tryz.func52, Tryz.ntmps52
  go_wp2_with (first | ((with_reducible refine gate_callee (f := 40) rfl ?_); refine goesL_ (some 7) rfl rfl Tryz.func40 (by kernel_rfl) rfl #[.int .u8 a0, .int .u64 a1] rfl (am_ rfl) ?_; (with_reducible refine (cutplaneref03_Class.calls k a0 a1 t767 _ A3.out).mono ?_); rintro e w10 ⟨rfl, hb⟩; refine ⟨_, rfl, ?_⟩; replace HB := hs_ hb; (try clear hb)) | ((with_reducible refine gate_callee (f := 23) rfl ?_); refine goesL_ (some 15) rfl rfl Tryz.func23 (by kernel_rfl) rfl #[.int .u8 a0, .int .u64 a1] rfl (am_ rfl) ?_; (with_reducible refine (cutplaneref03_Split.calls a0 a1 t769 t770 t771 _ A8.out).mono ?_); rintro e w11 ⟨rfl, hb⟩; refine ⟨_, rfl, ?_⟩; replace HB := hs_ hb; (try clear hb)) | ((with_reducible refine gate_callee (f := 53) rfl ?_); refine goesL_ (some 18) rfl rfl Tryz.func53 (by kernel_rfl) rfl #[.int .u8 a0, .int .u64 a1, .bool (!t769)] rfl (am_ rfl) ?_; (with_reducible refine (cutplaneref03_Signed.calls a0 a1 (!t769) t772 _ A9.out).mono ?_); rintro e w' ⟨rfl, ⟨nd, rfl⟩⟩; refine ⟨_, rfl, ?_⟩))
  go_ret
  exact ⟨by first | rfl | (simp [errW_none, errW_some] <;> rfl) | (simp [*, errW_none, errW_some] <;> rfl), qm_ HB.out⟩
end Go.Proofs.YtlgapmhjaaajfaaGreat.PA
end

section
namespace Go.Proofs.YtlgapmhjaaajfaaGreat.PA
open Go.RowKit Go.Proofs.YtlgapmhjaaajfaaGreatW.PrintWords Go.Proofs.YtlgapmhjaaajfaaGreatW.PrintLast Go.Proofs.YtlgapmhjaaajfaaGreatW.PrintMore
attribute [local go_sem] max2_int min2_int max_two min_two max_three min_three max_four min_four   -- for this text's walks alone
set_option linter.unusedVariables false
set_option linter.unusedSimpArgs false
def cutplaneref10_Conj.f (k : Nat) (a0 : Int) (a1_0 : Int) (a1_1 : Int) : Option (Int × Int) := (cutplaneref03_Canon.f k a0 a1_0).bind fun t775 => ((cutplaneref10_Minus.f k a0 a1_1).bind fun t776 => (some (t775, t776)))
def cutplaneref10_Conj.T1 : Bool × List (List Nat × List Nat) := (true, [([], []), ([], []), ([1], [1]), ([0, 2], [0, 2]), ([], []), ([], []), ([5], [5]), ([4, 6, 3], [4, 6]), ([3, 7], [3, 7]), ([8, 7, 0, 1, 2, 3, 4, 5, 6, 7, 8], [8])])
def cutplaneref10_Conj.B1 : List Nat := [0, 0, 2, 7, 0, 0, 32, 127, 255, 511]
theorem cutplaneref10_Conj.tab1 : rtab .any (opsOf Tryz.f25 1) = cutplaneref10_Conj.T1 := by kernel_rfl
theorem cutplaneref10_Conj.bits1 : waitsOk cutplaneref10_Conj.T1.2 cutplaneref10_Conj.B1 = true := by kernel_rfl
theorem cutplaneref10_Conj.calls (k : Nat) (a0 : Int) (a1_0 : Int) (a1_1 : Int) (r1 : Int) (r2 : Int) (w : World) (h : cutplaneref10_Conj.f k a0 a1_0 a1_1 = some (r1, r2)) :
  Calls Tryz.prog 25 #[.int .u8 a0, .agg #[.int .u64 a1_0, .int .u64 a1_1]] w fun e w' => e = .returned (.agg #[.int .u64 r1, .int .u64 r2]) ∧ Below w.heap.size w w' := by
 have hu26 := Tryz.underlying26
 have HB := A0_ (Below.refl w.heap.size w)
 have H := h
 clear h
 unfold cutplaneref10_Conj.f at H
 obtain ⟨t775, A3, H⟩ := bs_ H
 try dsimp -simprocs only at H
 obtain ⟨t776, A4, H⟩ := bs_ H
 try dsimp -simprocs only at H
 simp only [Option.some.injEq, Prod.mk.injEq] at H
 obtain ⟨rfl, rfl⟩ := H
 go_enter Tryz.func25, Tryz.ntmps25
 try go_wp2_with (first | ((with_reducible refine gate_dst (N := 3) rfl ?_); refine box_event ?hg (N := 3) ?hd (cs := #[.int .u64 a1_0, .int .u64 a1_1]) (t := 26) ?hr ?_; (case hd => rfl); (case hg => rfl); (case hr => first | (go_simp; done) | (go_simp; rfl)); intro gb773 hg w5 hbox hb; have BK773 := A0_ (hbox); have GW773 := A0_ ((by rw [hg]; exact (below_size (qm_ HB.out)) : w.heap.size ≤ gb773)); have GE773 := GW773; replace HB := hs_ hb; clear hb hbox hg) | ((with_reducible refine gate_dst (N := 4) rfl ?_); refine box_event ?hg (N := 4) ?hd (cs := #[.int .u64 0, .int .u64 0]) (t := 26) ?hr ?_; (case hd => rfl); (case hg => rfl); (case hr => first | (go_simp; done) | (go_simp; rfl)); intro gb774 hg w6 hbox hb; have BK774 := A0_ (hbox); have GW774 := A0_ ((by rw [hg]; exact (below_size qz_) : w.heap.size ≤ gb774)); have GE774 := GW774; replace HB := hs_ hb; have NB773_774 := nl_ hg BK773; have NB774_773 := ng_ hg BK773; replace BK773 := bb_ BK773 hb; clear hb hbox hg))
 replace BK773 := A0_ (blk_drew BK773.out)
 replace BK774 := A0_ (blk_drew BK774.out)
 replace HB := A0_ (below_drew1 HB.out)
 refine start_ (n := 10) (S := fun w' => w'.cell? ⟨gb773, 0, none⟩ = some (.int .u64 a1_0) ∧ w'.cell? ⟨gb773, 1, none⟩ = some (.int .u64 a1_1)) (ds := []) #[false, false, false, false, false, false, false, false, false, false] (by kernel_rfl) rfl rfl ⟨bC_ BK773.out 0, bC_ BK773.out 1⟩ (fun hHeld => ?_); refine with_tabW cutplaneref10_Conj.tab1 cutplaneref10_Conj.bits1 (fun HT_ HW_ => ?_)
 generalize w6.drew = w7 at BK773 BK774 HB hHeld ⊢
 refine pure_ (i := 0) (N := some 5) (v := ?_) (a' := ?_) #[true, false, false, false, false, false, false, false, false, false] rfl rfl (any_of HT_.out (by kernel_rfl)) (fun _ _ _ h => h) (Or.inl ⟨by rfl, ?_⟩) ?_ ?_
 rotate_left
 ·intro w'
  go_simp
  with_reducible rfl
 rotate_left
 ·simp only [Act.put, sp_, i64_w, i32_w]
  rfl
 refine pure_ (i := 1) (N := some 6) (v := ?_) (a' := ?_) #[true, true, false, false, false, false, false, false, false, false] rfl rfl (any_of HT_.out (by kernel_rfl)) (fun _ _ _ h => h) (Or.inl ⟨by rfl, ?_⟩) ?_ ?_
 rotate_left
 ·intro w'
  go_simp
  with_reducible rfl
 rotate_left
 ·simp only [Act.put, sp_, i64_w, i32_w]
  rfl
 refine pure_ (i := 4) (N := some 9) (v := ?_) (a' := ?_) #[true, true, false, false, true, false, false, false, false, false] rfl rfl (any_of HT_.out (by kernel_rfl)) (fun _ _ _ h => h) (Or.inl ⟨by rfl, ?_⟩) ?_ ?_
 rotate_left
 ·intro w'
  go_simp
  with_reducible rfl
 rotate_left
 ·simp only [Act.put, sp_, i64_w, i32_w]
  rfl
 refine pure_ (i := 5) (N := some 10) (v := ?_) (a' := ?_) #[true, true, false, false, true, true, false, false, false, false] rfl rfl (any_of HT_.out (by kernel_rfl)) (fun _ _ _ h => h) (Or.inl ⟨by rfl, ?_⟩) ?_ ?_
 rotate_left
 ·intro w'
  go_simp
  with_reducible rfl
 rotate_left
 ·simp only [Act.put, sp_, i64_w, i32_w]
  rfl
 refine take_ (i := 2) (N := some 7) (v := ?_) (a' := ?_) #[true, true, true, false, true, true, false, false, false, false] rfl rfl (take_ofW HT_.out HW_.out (by kernel_rfl)) (fun _ _ _ h => h) (Or.inl ⟨by rfl, ?_⟩) hHeld ?_ ?_
 rotate_left
 ·rintro w' ⟨s0, s1⟩
  go_simp
  with_reducible rfl
 rotate_left
 ·simp only [Act.put, sp_, i64_w, i32_w]
  rfl
 refine take_ (i := 6) (N := some 11) (v := ?_) (a' := ?_) #[true, true, true, false, true, true, true, false, false, false] rfl rfl (take_ofW HT_.out HW_.out (by kernel_rfl)) (fun _ _ _ h => h) (Or.inl ⟨by rfl, ?_⟩) hHeld ?_ ?_
 rotate_left
 ·rintro w' ⟨s0, s1⟩
  go_simp
  with_reducible rfl
 rotate_left
 ·simp only [Act.put, sp_, i64_w, i32_w]
  rfl
 refine one_ (i := 3) (N := some 8) #[true, true, true, true, true, true, true, false, false, false] rfl rfl (one_of HT_.out (by kernel_rfl)) (by decide) (fun K hK => ?_)
 refine goes_ Tryz.func51 (by kernel_rfl) rfl #[.int .u8 a0, .int .u64 a1_0] (by rfl) rfl rfl (am_ rfl) ?_
 with_reducible refine (cutplaneref03_Canon.calls k a0 a1_0 t775 _ A3.out).mono ?_
 rintro e w8 ⟨rfl, hb⟩
 refine ⟨_, rfl, ?_⟩
 replace BK773 := bb_ BK773 hb
 replace BK774 := bb_ BK774 hb
 replace HB := hs_ hb
 (try clear hb)
 refine hK.out _ _ ⟨bC_ BK773.out 0, bC_ BK773.out 1⟩ (fun hHeld => ?_)
 clear hK K
 refine norm_ (a' := ?_) ?_ ?_
 rotate_left
 ·show Act.put _ (some 8) _ = _
  simp only [Act.put, sp_, i64_w, i32_w]
  rfl
 refine one_ (i := 7) (N := some 12) #[true, true, true, true, true, true, true, true, false, false] rfl rfl (one_of HT_.out (by kernel_rfl)) (by decide) (fun K hK => ?_)
 refine goes_ Tryz.func52 (by kernel_rfl) rfl #[.int .u8 a0, .int .u64 a1_1] (by rfl) rfl rfl (am_ rfl) ?_
 with_reducible refine (cutplaneref10_Minus.calls k a0 a1_1 t776 _ A4.out).mono ?_
 rintro e w9 ⟨rfl, hb⟩
 refine ⟨_, rfl, ?_⟩
 replace BK773 := bb_ BK773 hb
 replace BK774 := bb_ BK774 hb
 replace HB := hs_ hb
 (try clear hb)
 refine hK.out _ _ ⟨bC_ BK773.out 0, bC_ BK773.out 1⟩ (fun hHeld => ?_)
 clear hK K
 refine norm_ (a' := ?_) ?_ ?_
 rotate_left
 ·show Act.put _ (some 12) _ = _
  simp only [Act.put, sp_, i64_w, i32_w]
  rfl
 refine pure_ (i := 8) (N := some 13) (v := ?_) (a' := ?_) #[true, true, true, true, true, true, true, true, true, false] rfl rfl (any_of HT_.out (by kernel_rfl)) (fun _ _ _ h => h) (Or.inl ⟨by rfl, ?_⟩) ?_ ?_
 rotate_left
 ·intro w'
  go_simp
  with_reducible rfl
 rotate_left
 ·simp only [Act.put, sp_, i64_w, i32_w]
  rfl
 refine one_ (i := 9) (N := none) #[true, true, true, true, true, true, true, true, true, true] rfl rfl (one_of HT_.out (by kernel_rfl)) (by decide) (fun K hK => ?_)
 have hs10 : w9.cell? ⟨gb774, 0, none⟩ = some (.int .u64 0) := (blk_cell BK774.out 0).trans rfl
 have hfs10 := blk_frozen BK774.out 0
 have hns10_0 := NB773_774.out
 have hms10_0 := NB774_773.out
 have hs11 : w9.cell? ⟨gb774, 1, none⟩ = some (.int .u64 0) := (blk_cell BK774.out 1).trans rfl
 have hfs11 := blk_frozen BK774.out 1
 have hns11_0 := NB773_774.out
 have hms11_0 := NB774_773.out
 refine skip_ (w1 := ?_) (by rfl) rfl ?_ ?_
 rotate_left
 ·go_simp
  rfl
 refine hK.out _ _ ⟨((cell_far (p := ⟨gb774, _, none⟩) NB773_774.out _).trans (((cell_far (p := ⟨gb774, _, none⟩) NB773_774.out _).trans (hHeld.1)))), ((cell_far (p := ⟨gb774, _, none⟩) NB773_774.out _).trans (((cell_far (p := ⟨gb774, _, none⟩) NB773_774.out _).trans (hHeld.2))))⟩ (fun hHeld => ?_)
 clear hK K
 refine done_ (done_of HT_.out (by kernel_rfl)) ?_
 try go_wp2
 refine bodyPost_ret (results_cell_row rfl _ _ gb774 26 #[.int .u64 t775, .int .u64 t776] (0, 0) _ rfl (by (with_reducible repeat first | apply bN_ | apply bD_ | apply bA_); refine blk_put (cs := #[.int .u64 t775, .int .u64 0]) ?_ 1 _ rfl; refine blk_put (cs := #[.int .u64 0, .int .u64 0]) ?_ 0 _ rfl; exact bm_ BK774.out) Tryz.underlying26 rfl (by kernel_rfl)) rfl ?_
 exact ⟨by first | rfl | (simp [errW_none, errW_some] <;> rfl) | (simp [*, errW_none, errW_some] <;> rfl), qz_⟩
end Go.Proofs.YtlgapmhjaaajfaaGreat.PA
end

section
namespace Go.Proofs.YtlgapmhjaaajfaaGreat.PA
open Go.RowKit Go.Proofs.YtlgapmhjaaajfaaGreatW.PrintWords Go.Proofs.YtlgapmhjaaajfaaGreatW.PrintLast Go.Proofs.YtlgapmhjaaajfaaGreatW.PrintMore
attribute [local go_sem] max2_int min2_int max_two min_two max_three min_three max_four min_four   -- for this text's walks alone
set_option linter.unusedVariables false
set_option linter.unusedSimpArgs false
def cutplaneref11_turned.l0 : Nat → Int → Int → List Int → Int → Option (Int × Int)
 | 0, _, _, _, _ => none
 | k + 1, x0, x2, x7, x8 => if x8 < 2 then (if 0 ≤ x8 then (if x8 < (x7.length : Int) then ((cutplaneref03_Class.f k x0 (rd x7 x8)).bind fun t785 => (if t785 = 1 then (cutplaneref11_turned.l0 k x0 x2 x7 (wrap64 (x8 + 1))) else ((cutplaneref03_Split.f x0 (rd x7 x8)).bind fun bt787 => ((cutplaneref03_Signed.f x0 x2 bt787.1).bind fun t790 => (cutplaneref11_turned.l0 k x0 x2 (x7.set (x8 : Int).toNat t790) (wrap64 (x8 + 1))))))) else (none)) else (none)) else (if 0 < (x7.length : Int) then (if 1 < (x7.length : Int) then (some (rd x7 0, rd x7 1)) else (none)) else (none))
def cutplaneref11_turned.f (k : Nat) (a0 : Int) (a1_0 : Int) (a1_1 : Int) (a2 : Int) : Option (Int × Int) := cutplaneref11_turned.l0 k a0 a2 (([a1_0, a1_1] : List Int)) 0
def cutplaneref11_turned.T7 : Bool × List (List Nat × List Nat) := (true, [([], []), ([0], [0]), ([1], [1]), ([], []), ([3], [3]), ([4], [4]), ([2, 5], [2, 5]), ([6, 0, 1, 2, 3, 4, 5, 6], [6])])
def cutplaneref11_turned.B7 : List Nat := [0, 1, 3, 0, 8, 24, 63, 127]
theorem cutplaneref11_turned.tab7 : rtab .any (opsOf Tryz.f26 7) = cutplaneref11_turned.T7 := by kernel_rfl
theorem cutplaneref11_turned.bits7 : waitsOk cutplaneref11_turned.T7.2 cutplaneref11_turned.B7 = true := by kernel_rfl
theorem cutplaneref11_turned.calls (k : Nat) (a0 : Int) (a1_0 : Int) (a1_1 : Int) (a2 : Int) (r1 : Int) (r2 : Int) (w : World) (h : cutplaneref11_turned.f k a0 a1_0 a1_1 a2 = some (r1, r2)) :
  Calls Tryz.prog 26 #[.int .u8 a0, .agg #[.int .u64 a1_0, .int .u64 a1_1], .int .u64 a2] w fun e w' => e = .returned (.agg #[.int .u64 r1, .int .u64 r2]) ∧ Below w.heap.size w w' := by
 have hfd61_0 : ∀ (v0_ v1_ v2_ : Value) (w : World), (Instr.field 61 (.agg #[v0_, v1_, v2_]) 0).run Tryz.prog w = .ok v0_ w := fun _ _ _ _ => by kernel_rfl
 have hu26 := Tryz.underlying26
 have HB := A0_ (Below.refl w.heap.size w)
 have H := h
 clear h
 unfold cutplaneref11_turned.f at H
 obtain ⟨y779, hy779⟩ : ∃ y_ : List Int, y_ = (([a1_0, a1_1] : List Int)) := ⟨_, rfl⟩
 replace H : (cutplaneref11_turned.l0 k a0 a2 y779 0) = some (r1, r2) := by first | (rw [hy779]; with_reducible exact H) | (have H2_ := (Option.bind_some _ _).symm.trans H; rw [hy779]; with_reducible exact H2_) | (have H2_ := (Option.bind_some _ _).symm.trans H; with_reducible exact H2_) | with_reducible exact H | (rw [hy779]; exact H) | exact H
 have Ny779 := A0_ hy779
 clear hy779
 have H' := A0_ H
 clear H
 go_enter Tryz.func26, Tryz.ntmps26
 go_wp2_with (first | ((with_reducible refine gate_dst (N := 4) rfl ?_); refine box_event ?hg (N := 4) ?hd (cs := #[.int .u64 a1_0, .int .u64 a1_1]) (t := 26) ?hr ?_; (case hd => rfl); (case hg => rfl); (case hr => first | (go_simp; done) | (go_simp; rfl)); intro gb777 hg w4 hbox hb; have BK777 := A0_ (hbox); have GW777 := A0_ ((by rw [hg]; exact (below_size (qm_ HB.out)) : w.heap.size ≤ gb777)); have GE777 := GW777; replace HB := hs_ hb; clear hb hbox hg) | ((with_reducible refine gate_dst (N := 6) rfl ?_); refine box_event ?hg (N := 6) ?hd (cs := #[.int .u64 0, .int .u64 0]) (t := 26) ?hr ?_; (case hd => rfl); (case hg => rfl); (case hr => first | (go_simp; done) | (go_simp; rfl)); intro gb778 hg w5 hbox hb; have BK778 := A0_ (hbox); have GW778 := A0_ ((by rw [hg]; exact (below_size qz_) : w.heap.size ≤ gb778)); have GE778 := GW778; replace HB := hs_ hb; have NB777_778 := nl_ hg BK777; have NB778_777 := ng_ hg BK777; replace BK777 := bb_ BK777 hb; clear hb hbox hg; have hnb6 := NB777_778.out; have hnc6 := NB778_777.out; have hcz7 := bc2_ BK777.out; have hfz7 := bf2_ BK777.out) | ((with_reducible refine gate_dst (N := 13) rfl ?_); refine Kd.R_lit (Kd.int .u64) _ 24 ?hg (N := 13) ?hd (xs := ([a1_0, a1_1] : List Int)) (inner := [.int .u64 a1_0, .int .u64 a1_1]) (ok := fun _ => True) (okp := fun _ => True) ?hr ?hp (fun _ hk => hk) trivial (Below.refl _ _) (Nat.le_refl _) (by simp) ?_; (case hd => rfl); (case hg => rfl); (case hr => first | (go_simp; done) | (go_simp; rfl)); (case hp => exact (Reps.one (show Kd.M (Kd.int .u64) _ _ _ a1_0 [.int .u64 a1_0] from rfl) (Reps.one (show Kd.M (Kd.int .u64) _ _ _ a1_1 [.int .u64 a1_1] from rfl) (Reps.none _ _)))); intro v780 w8 ho9 hb hg_ hnew_; clear hg_ hnew_; (first | rw [← Ny779.out] at ho9 | (simp only [Int.reduceToNat] at ho9; rw [← Ny779.out] at ho9)); have HO781 := A0_ (Kd.R_lower ho9 (below_size qz_)); replace BK777 := bb_ BK777 hb; replace BK778 := bb_ BK778 hb; replace HB := hs_ hb; clear hb ho9))
 go_loopg [8] k (fun kq v8 w' => ∃ (x7_1 : List Int) (x8_1 : Int), v8 = .int .i64 x8_1 ∧ Aside0 (cutplaneref11_turned.l0 kq a0 a2 x7_1 x8_1 = some (r1, r2)) ∧ Aside0 (kq ≤ k) ∧ Aside0 (Kd.R (Kd.int .u64) 24 w' w.heap.size (fun _ => True) v780 x7_1) ∧ Aside0 (w'.heap[gb777]? = some (.cells #[.int .u64 a1_0, .int .u64 a1_1] 26 (0, 0))) ∧ Aside0 (w'.heap[gb778]? = some (.cells #[.int .u64 0, .int .u64 0] 26 (0, 0))) ∧ Aside0 (Below w.heap.size w w'))
 case atStart => exact ⟨(y779), (0), (by first | rfl | (simp; done) | (simp [*]; done)), H', ⟨Nat.le_refl _⟩, ⟨by exact rm_ HO781.out⟩, ⟨bm_ BK777.out⟩, ⟨bm_ BK778.out⟩, ⟨qz_⟩⟩
 case round =>
  clear H'
  try clear c2
  try clear p2
  try clear c6
  try clear hcz7
  try clear hfz7
  obtain ⟨x7_1, x8_1, rfl, HA, HK1, HO_7, BK777, BK778, HB⟩ := hrel
  cases gk with
  | zero => exact absurd HA.out (by simp [cutplaneref11_turned.l0])
  | succ k1 =>
   have H := HA.out
   clear HA
   simp only [cutplaneref11_turned.l0] at H
   by_cases c10 : x8_1 < 2
   ·rw [if_pos c10] at H
    have c10b0 : decide (x8_1 < 2) = true := decide_eq_true c10
    clear c10
    obtain ⟨c11, H⟩ := ic_ H
    have c11b0 : decide (0 ≤ x8_1) = true := decide_eq_true c11
    clear c11
    obtain ⟨c12, H⟩ := ic_ H
    have c12b0 : decide (x8_1 < (x7_1.length : Int)) = true := decide_eq_true c12
    clear c12
    obtain ⟨t785, A13, H⟩ := bs_ H
    try dsimp -simprocs only at H
    by_cases c14 : t785 = 1
    ·rw [if_pos c14] at H
     have c14b0 : (t785 == 1) = true := beq_iff_eq.mpr c14
     have c14b1 : (t785 != 1) = false := bne_eq_false_iff_eq.mpr c14
     clear c14
     have H' := A0_ H
     clear H
     obtain ⟨Ao15, co15, eo15⟩ := Kd.R_slice HO_7.out
     subst eo15
     have p784 : 0 ≤ (x8_1 : Int) := of_decide_eq_true (by first | (with_reducible assumption) | assumption)
     have q784 : x8_1 < (x7_1.length : Int) := of_decide_eq_true (by first | (with_reducible assumption) | assumption)
     obtain ⟨ad784, e784, hx784_0⟩ := Kd.at_int (Kd.R_reads' HO_7.out).2.2 x8_1 p784 q784
     cases e784
     replace p784 := eq_true p784
     replace q784 := eq_true q784
     go_wp2_with (first | ((with_reducible refine gate_callee (f := 40) rfl ?_); refine goesL_ (some 23) rfl rfl Tryz.func40 (by kernel_rfl) rfl #[.int .u8 a0, .int .u64 (rd x7_1 x8_1)] rfl (am_ rfl) ?_; (with_reducible refine (cutplaneref03_Class.calls k1 a0 (rd x7_1 x8_1) t785 _ A13.out).mono ?_); rintro e w16 ⟨rfl, hb⟩; refine ⟨_, rfl, ?_⟩; replace HO_7 := A0_ (Kd.R_below (by exact rm_ HO_7.out) hb); replace BK777 := bb_ BK777 hb; replace BK778 := bb_ BK778 hb; replace HB := hs_ hb; (try clear hb)))
     go_roundg k1
     case measure => have := HK1.out; omega
     case rel => exact ⟨(x7_1), (wrap64 (x8_1 + 1)), (by first | rfl | (simp; done) | (simp [*]; done)), H', ⟨by have := HK1.out; omega⟩, ⟨by exact rm_ HO_7.out⟩, ⟨bm_ BK777.out⟩, ⟨bm_ BK778.out⟩, ⟨qz_⟩⟩
    ·rw [if_neg c14] at H
     have c14b0 : (t785 == 1) = false := beq_eq_false_iff_ne.mpr c14
     have c14b1 : (t785 != 1) = true := bne_iff_ne.mpr c14
     obtain ⟨⟨t787, t788, t789⟩, A17, H⟩ := bs_ H
     try dsimp -simprocs only at H
     obtain ⟨t790, A18, H⟩ := bs_ H
     try dsimp -simprocs only at H
     obtain ⟨y791, hy791⟩ : ∃ y_ : List Int, y_ = (x7_1.set (x8_1 : Int).toNat t790) := ⟨_, rfl⟩
     replace H : (cutplaneref11_turned.l0 k1 a0 a2 y791 (wrap64 (x8_1 + 1))) = some (r1, r2) := by first | (rw [hy791]; with_reducible exact H) | (have H2_ := (Option.bind_some _ _).symm.trans H; rw [hy791]; with_reducible exact H2_) | (have H2_ := (Option.bind_some _ _).symm.trans H; with_reducible exact H2_) | with_reducible exact H | (rw [hy791]; exact H) | exact H
     have Ny791 := A0_ hy791
     clear hy791
     have H' := A0_ H
     clear H
     obtain ⟨Ao20, co20, eo20⟩ := Kd.R_slice HO_7.out
     subst eo20
     have p784 : 0 ≤ (x8_1 : Int) := of_decide_eq_true (by first | (with_reducible assumption) | assumption)
     have q784 : x8_1 < (x7_1.length : Int) := of_decide_eq_true (by first | (with_reducible assumption) | assumption)
     obtain ⟨ad784, e784, hx784_0⟩ := Kd.at_int (Kd.R_reads' HO_7.out).2.2 x8_1 p784 q784
     cases e784
     replace p784 := eq_true p784
     replace q784 := eq_true q784
     go_wp2_with (first | ((with_reducible refine gate_callee (f := 40) rfl ?_); refine goesL_ (some 23) rfl rfl Tryz.func40 (by kernel_rfl) rfl #[.int .u8 a0, .int .u64 (rd x7_1 x8_1)] rfl (am_ rfl) ?_; (with_reducible refine (cutplaneref03_Class.calls k1 a0 (rd x7_1 x8_1) t785 _ A13.out).mono ?_); rintro e w21 ⟨rfl, hb⟩; refine ⟨_, rfl, ?_⟩; replace HO_7 := A0_ (Kd.R_below (by exact rm_ HO_7.out) hb); replace BK777 := bb_ BK777 hb; replace BK778 := bb_ BK778 hb; replace HB := hs_ hb; (try clear hb); have p786 : 0 ≤ (x8_1 : Int) := of_decide_eq_true (by first | (with_reducible assumption) | assumption); have q786 : x8_1 < (x7_1.length : Int) := of_decide_eq_true (by first | (with_reducible assumption) | assumption); obtain ⟨ad786, e786, hx786_0⟩ := Kd.at_int (Kd.R_reads' HO_7.out).2.2 x8_1 p786 q786; obtain rfl : ad784 = ad786 := (by injection e786); replace p786 := eq_true p786; replace q786 := eq_true q786) | ((with_reducible refine gate_callee (f := 23) rfl ?_); refine goesL_ (some 34) rfl rfl Tryz.func23 (by kernel_rfl) rfl #[.int .u8 a0, .int .u64 (rd x7_1 x8_1)] rfl (am_ rfl) ?_; (with_reducible refine (cutplaneref03_Split.calls a0 (rd x7_1 x8_1) t787 t788 t789 _ A17.out).mono ?_); rintro e w22 ⟨rfl, hb⟩; refine ⟨_, rfl, ?_⟩; replace HO_7 := A0_ (Kd.R_below (by exact rm_ HO_7.out) hb); replace BK777 := bb_ BK777 hb; replace BK778 := bb_ BK778 hb; replace HB := hs_ hb; (try clear hb)) | ((with_reducible refine gate_callee (f := 53) rfl ?_); refine goesL_ (some 36) rfl rfl Tryz.func53 (by kernel_rfl) rfl #[.int .u8 a0, .int .u64 a2, .bool t787] rfl (am_ rfl) ?_; (with_reducible refine (cutplaneref03_Signed.calls a0 a2 t787 t790 _ A18.out).mono ?_); rintro e w' ⟨rfl, ⟨nd, rfl⟩⟩; refine ⟨_, rfl, ?_⟩; (try (rw [drewN_self w22]; generalize hq_ : World.drewN w22 _ = w22; have n0_ : Aside0 (Kd.R (Kd.int .u64) 24 w22 w.heap.size (fun _ => True) (.slice (some ad784) x7_1.length co20) x7_1) := ⟨by rw [← hq_]; exact (by exact rm_ HO_7.out)⟩; have n1_ : Aside0 (w22.heap[gb777]? = some (.cells #[.int .u64 a1_0, .int .u64 a1_1] 26 (0, 0))) := ⟨by rw [← hq_]; exact (bm_ BK777.out)⟩; have n2_ : Aside0 (w22.heap[gb778]? = some (.cells #[.int .u64 0, .int .u64 0] 26 (0, 0))) := ⟨by rw [← hq_]; exact (bm_ BK778.out)⟩; have n3_ : Aside0 (Below w.heap.size w w22) := ⟨by rw [← hq_]; exact qz_⟩; clear HO_7 BK777 BK778 HB hq_; have HO_7 := n0_; have BK777 := n1_; have BK778 := n2_; have HB := n3_; clear n0_ n1_ n2_ n3_)); have p19 : 0 ≤ (x8_1 : Int) := of_decide_eq_true (by first | (with_reducible assumption) | assumption); have q19 : (x8_1 : Int) < ((x7_1.length : Int) : Int) := of_decide_eq_true (by first | (with_reducible assumption) | assumption); obtain ⟨go19, co19, eo19, gb19, gl19, cl19, HG19⟩ := Kd.R_form HO_7.out (by omega); (first | cases eo19 | (injection eo19 with ea_ en_ ec_; (first | subst ea_ | (injection ea_ with ea_; subst ea_)); subst ec_; clear en_)); have GB19 := A0_ gb19; have GG19 := A0_ HG19; clear gb19 gl19 HG19; (first | simp only [add_plain] at hx784_0 | skip); (first | simp only [add_plain] at hx786_0 | skip); obtain ⟨hx19_0, hf19_0⟩ := Kd.R_celln 0 HO_7.out (x8_1 : Int) p19 q19; replace p19 := eq_true p19; replace q19 := eq_true q19; obtain ⟨hy23_, hz23_⟩ := Kd.R_celln 0 HO_7.out (x8_1 : Int) (of_decide_eq_true (by first | (with_reducible assumption) | assumption)) (of_decide_eq_true (by first | (with_reducible assumption) | assumption)); have HP23 := Kd.R_putg HO_7.out (x8_1 : Int) t790) | ((with_reducible refine gate_store (t := 24) (p := 37) rfl ?_); refine store_event (t := 24) (p := 37) (v := ?vo_w24) (w1 := (w22.setCell ⟨go19, (x8_1 : Int).toNat, none⟩ (.int .u64 t790))) ?hg ?ho ?hn ?hr ?_; (case ho => rfl); (case hg => rfl); (case hn => rfl); (case hr => first | (go_simp; done) | (go_simp; rfl)); intro w24 hw; have hg : w22.grownBy w24 (some go19) := (by rw [hw]; exact HP23.2); have hp_ : Kd.R (Kd.int .u64) 24 w24 w.heap.size (fun _ => True) (.slice (some ⟨go19, 0, none⟩) x7_1.length co20) y791 := (by rw [hw, Ny791.out]; exact HP23.1); clear HP23; replace BK777 := A0_ (blk_grown (bm_ BK777.out) hg (Kd.R_ne HO_7.out BK777.out (by decide))); replace BK778 := A0_ (blk_grown (bm_ BK778.out) hg (Kd.R_ne HO_7.out BK778.out (by decide))); replace HO_7 := A0_ (hp_); replace HB := A0_ ((by rw [hw]; exact below_set (HB.out) GB19.out : Below w.heap.size w w24)); clear hg hw hp_))
     go_roundg k1
     case measure => have := HK1.out; omega
     case rel => exact ⟨(y791), (wrap64 (x8_1 + 1)), (by first | rfl | (simp; done) | (simp [*]; done)), H', ⟨by have := HK1.out; omega⟩, ⟨by exact rm_ HO_7.out⟩, ⟨bm_ BK777.out⟩, ⟨bm_ BK778.out⟩, ⟨qz_⟩⟩
   ·rw [if_neg c10] at H
    have c10b0 : decide (x8_1 < 2) = false := decide_eq_false c10
    clear c10
    obtain ⟨(c25 : 0 < (x7_1.length : Int)), H⟩ := ic_ H
    have c25b0 : decide (0 < (x7_1.length : Int)) = true := decide_eq_true c25
    have c25b1 : decide (0 < x7_1.length) = true := decide_eq_true (by omega)
    clear c25
    obtain ⟨(c26 : 1 < (x7_1.length : Int)), H⟩ := ic_ H
    have c26b0 : decide (1 < (x7_1.length : Int)) = true := decide_eq_true c26
    have c26b1 : decide (1 < x7_1.length) = true := decide_eq_true (by omega)
    clear c26
    simp only [Option.some.injEq, Prod.mk.injEq] at H
    obtain ⟨rfl, rfl⟩ := H
    try go_wp2
    replace HO_7 := A0_ (Kd.R_drew HO_7.out)
    replace BK777 := A0_ (blk_drew BK777.out)
    replace BK778 := A0_ (blk_drew BK778.out)
    replace HB := A0_ (below_drew1 HB.out)
    obtain ⟨Ao28, co28, eo28⟩ := Kd.R_slice HO_7.out
    (first | subst eo28 | (injection eo28 with f1_ f2_ f3_; have f4_ := f1_.symm; have f5_ := f3_.symm; clear f1_ f2_ f3_; subst f4_; subst f5_))
    have p782 : 0 ≤ (0 : Int) := (by omega)
    have q782 : 0 < (x7_1.length : Int) := of_decide_eq_true (by first | (with_reducible assumption) | assumption)
    obtain ⟨ad782, e782, hx782_0⟩ := Kd.at_int (Kd.R_reads' HO_7.out).2.2 0 p782 q782
    cases e782
    have qi782 : (0 < x7_1.length) = True := eq_true (by omega)
    (try rw [show ((0 : Int)).toNat = 0 from rfl] at hx782_0)
    (try rw [Addr.add_zero'] at hx782_0)
    replace p782 := eq_true p782
    replace q782 := eq_true q782
    have p783 : 0 ≤ (1 : Int) := (by omega)
    have q783 : 1 < (x7_1.length : Int) := of_decide_eq_true (by first | (with_reducible assumption) | assumption)
    obtain ⟨ad783, e783, hx783_0⟩ := Kd.at_int (Kd.R_reads' HO_7.out).2.2 1 p783 q783
    obtain rfl : ad782 = ad783 := (by injection e783)
    (try simp only [show (1 : Int).toNat = 1 from rfl, Nat.reduceMul, Nat.reduceEqDiff, Go.Addr.add, ↓reduceIte] at hx783_0)
    have qi783 : (1 < x7_1.length) = True := eq_true (by omega)
    (try rw [show ((1 : Int)).toNat = 1 from rfl] at hx783_0)
    replace p783 := eq_true p783
    replace q783 := eq_true q783
    refine start_ (n := 8) (S := fun w' => w'.cell? ad782 = some (.int .u64 (rd x7_1 0)) ∧ w'.cell? ⟨ad782.block, ad782.off + 1, none⟩ = some (.int .u64 (rd x7_1 1))) (ds := []) #[false, false, false, false, false, false, false, false] (by kernel_rfl) rfl rfl ⟨hx782_0, hx783_0⟩ (fun hHeld => ?_); refine with_tabW cutplaneref11_turned.tab7 cutplaneref11_turned.bits7 (fun HT_ HW_ => ?_)
    generalize wr.drew = w27 at HO_7 BK777 BK778 HB hx782_0 hx783_0 hHeld ⊢
    refine pure_ (i := 0) (N := some 38) (v := ?_) (a' := ?_) #[true, false, false, false, false, false, false, false] rfl rfl (any_of HT_.out (by kernel_rfl)) (fun _ _ _ h => h) (Or.inl ⟨by rfl, ?_⟩) ?_ ?_
    rotate_left
    ·intro w'
     go_simp
     with_reducible rfl
    rotate_left
    ·simp only [Act.put, sp_, i64_w, i32_w]
     rfl
    refine pure_ (i := 1) (N := some 39) (v := ?_) (a' := ?_) #[true, true, false, false, false, false, false, false] rfl rfl (any_of HT_.out (by kernel_rfl)) (fun _ _ _ h => h) (Or.inl ⟨by rfl, ?_⟩) ?_ ?_
    rotate_left
    ·intro w'
     go_simp
     with_reducible rfl
    rotate_left
    ·simp only [Act.put, sp_, i64_w, i32_w]
     rfl
    refine pure_ (i := 3) (N := some 41) (v := ?_) (a' := ?_) #[true, true, false, true, false, false, false, false] rfl rfl (any_of HT_.out (by kernel_rfl)) (fun _ _ _ h => h) (Or.inl ⟨by rfl, ?_⟩) ?_ ?_
    rotate_left
    ·intro w'
     go_simp
     with_reducible rfl
    rotate_left
    ·simp only [Act.put, sp_, i64_w, i32_w]
     rfl
    refine pure_ (i := 4) (N := some 42) (v := ?_) (a' := ?_) #[true, true, false, true, true, false, false, false] rfl rfl (any_of HT_.out (by kernel_rfl)) (fun _ _ _ h => h) (Or.inl ⟨by rfl, ?_⟩) ?_ ?_
    rotate_left
    ·intro w'
     go_simp
     with_reducible rfl
    rotate_left
    ·simp only [Act.put, sp_, i64_w, i32_w]
     rfl
    refine take_ (i := 2) (N := some 40) (v := ?_) (a' := ?_) #[true, true, true, true, true, false, false, false] rfl rfl (take_ofW HT_.out HW_.out (by kernel_rfl)) (fun _ _ _ h => h) (Or.inl ⟨by rfl, ?_⟩) hHeld ?_ ?_
    rotate_left
    ·rintro w' ⟨s0, s1⟩
     go_simp
     with_reducible rfl
    rotate_left
    ·simp only [Act.put, sp_, i64_w, i32_w]
     rfl
    refine take_ (i := 5) (N := some 43) (v := ?_) (a' := ?_) #[true, true, true, true, true, true, false, false] rfl rfl (take_ofW HT_.out HW_.out (by kernel_rfl)) (fun _ _ _ h => h) (Or.inl ⟨by rfl, ?_⟩) hHeld ?_ ?_
    rotate_left
    ·rintro w' ⟨s0, s1⟩
     go_simp
     with_reducible rfl
    rotate_left
    ·simp only [Act.put, sp_, i64_w, i32_w]
     rfl
    refine pure_ (i := 6) (N := some 44) (v := ?_) (a' := ?_) #[true, true, true, true, true, true, true, false] rfl rfl (any_of HT_.out (by kernel_rfl)) (fun _ _ _ h => h) (Or.inl ⟨by rfl, ?_⟩) ?_ ?_
    rotate_left
    ·intro w'
     go_simp
     with_reducible rfl
    rotate_left
    ·simp only [Act.put, sp_, i64_w, i32_w]
     rfl
    refine one_ (i := 7) (N := none) #[true, true, true, true, true, true, true, true] rfl rfl (one_of HT_.out (by kernel_rfl)) (by decide) (fun K hK => ?_)
    have hs29 : w27.cell? ⟨gb778, 0, none⟩ = some (.int .u64 0) := (blk_cell BK778.out 0).trans rfl
    have hfs29 := blk_frozen BK778.out 0
    have hns29_0 := NB777_778.out
    have hms29_0 := NB778_777.out
    have hs30 : w27.cell? ⟨gb778, 1, none⟩ = some (.int .u64 0) := (blk_cell BK778.out 1).trans rfl
    have hfs30 := blk_frozen BK778.out 1
    have hns30_0 := NB777_778.out
    have hms30_0 := NB778_777.out
    refine skip_ (w1 := ?_) (by rfl) rfl ?_ ?_
    rotate_left
    ·go_simp
     rfl
    refine hK.out _ _ ⟨((cell_far (p := ⟨gb778, _, none⟩) (by first | exact Kd.own_blk (Kd.R_ne HO_7.out BK778.out (by decide)) | (rw [add_block]; exact Kd.own_blk (Kd.R_ne HO_7.out BK778.out (by decide))) | (show (Addr.add _ _).block ≠ _; rw [add_block]; exact Kd.own_blk (Kd.R_ne HO_7.out BK778.out (by decide))) | (dsimp only; exact Kd.own_blk (Kd.R_ne HO_7.out BK778.out (by decide)))) _).trans (((cell_far (p := ⟨gb778, _, none⟩) (by first | exact Kd.own_blk (Kd.R_ne HO_7.out BK778.out (by decide)) | (rw [add_block]; exact Kd.own_blk (Kd.R_ne HO_7.out BK778.out (by decide))) | (show (Addr.add _ _).block ≠ _; rw [add_block]; exact Kd.own_blk (Kd.R_ne HO_7.out BK778.out (by decide))) | (dsimp only; exact Kd.own_blk (Kd.R_ne HO_7.out BK778.out (by decide)))) _).trans (hHeld.1)))), ((cell_far (p := ⟨gb778, _, none⟩) (by first | exact Kd.own_blk (Kd.R_ne HO_7.out BK778.out (by decide)) | (rw [add_block]; exact Kd.own_blk (Kd.R_ne HO_7.out BK778.out (by decide))) | (show (Addr.add _ _).block ≠ _; rw [add_block]; exact Kd.own_blk (Kd.R_ne HO_7.out BK778.out (by decide))) | (dsimp only; exact Kd.own_blk (Kd.R_ne HO_7.out BK778.out (by decide)))) _).trans (((cell_far (p := ⟨gb778, _, none⟩) (by first | exact Kd.own_blk (Kd.R_ne HO_7.out BK778.out (by decide)) | (rw [add_block]; exact Kd.own_blk (Kd.R_ne HO_7.out BK778.out (by decide))) | (show (Addr.add _ _).block ≠ _; rw [add_block]; exact Kd.own_blk (Kd.R_ne HO_7.out BK778.out (by decide))) | (dsimp only; exact Kd.own_blk (Kd.R_ne HO_7.out BK778.out (by decide)))) _).trans (hHeld.2))))⟩ (fun hHeld => ?_)
    clear hK K
    refine done_ (done_of HT_.out (by kernel_rfl)) ?_
    try go_wp2
    refine bodyPost_ret (results_cell_row rfl _ _ gb778 26 #[.int .u64 (rd x7_1 0), .int .u64 (rd x7_1 1)] (0, 0) _ rfl (by (with_reducible repeat first | apply bN_ | apply bD_ | apply bA_); refine blk_put (cs := #[.int .u64 (rd x7_1 0), .int .u64 0]) ?_ 1 _ rfl; refine blk_put (cs := #[.int .u64 0, .int .u64 0]) ?_ 0 _ rfl; exact bm_ BK778.out) Tryz.underlying26 rfl (by kernel_rfl)) rfl ?_
    exact ⟨by first | rfl | (simp [errW_none, errW_some] <;> rfl) | (simp [*, errW_none, errW_some] <;> rfl), qz_⟩
end Go.Proofs.YtlgapmhjaaajfaaGreat.PA
end
