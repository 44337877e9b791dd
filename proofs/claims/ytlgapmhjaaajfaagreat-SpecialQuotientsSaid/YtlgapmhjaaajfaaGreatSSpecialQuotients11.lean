/- Steps of Go functions that the law SpecialQuotients uses, told as plain Lean functions, each with the proof that its call comes to what it tells; words on memory; plain facts. No condition beyond those that each text names. -/
import Derived.Test.YtlgapmhjaaajfaaGreatProg
import Derived.WalkMore
import Derived.Test.YtlgapmhjaaajfaaGreatSSpecialQuotients0
import Derived.Test.YtlgapmhjaaajfaaGreatSSpecialQuotients1
import Derived.Test.YtlgapmhjaaajfaaGreatSSpecialQuotients2
import Derived.Test.YtlgapmhjaaajfaaGreatSSpecialQuotients3
import Derived.Test.YtlgapmhjaaajfaaGreatSSpecialQuotients5
import Derived.Test.YtlgapmhjaaajfaaGreatSSpecialQuotients6
import Derived.Test.YtlgapmhjaaajfaaGreatSSpecialQuotients7
import Derived.Test.YtlgapmhjaaajfaaGreatSSpecialQuotients8
import Derived.Test.YtlgapmhjaaajfaaGreatSSpecialQuotients9
import Derived.Test.YtlgapmhjaaajfaaGreatSSpecialQuotients10
set_option maxHeartbeats 16000000
set_option maxRecDepth 100000
section
namespace Go.Proofs.YtlgapmhjaaajfaaGreat.PA
open Go.RowKit Go.Proofs.YtlgapmhjaaajfaaGreatW.PrintWords Go.Proofs.YtlgapmhjaaajfaaGreatW.PrintLast Go.Proofs.YtlgapmhjaaajfaaGreatW.PrintMore
attribute [local go_sem] max2_int min2_int max_two min_two max_three min_three max_four min_four   -- for this text's walks alone
set_option linter.unusedVariables false
set_option linter.unusedSimpArgs false
def cutplaneref02_Add.j0 : Nat → Int → Bool → List Int → Int → Bool → List Int → Int → Option (Bool × List Int × Int)
 | 0, _, _, _, _, _, _, _ => none
 | k + 1, x5, x495000, x495001, x495002, x496000, x496001, x496002 => (cutplaneref01_Up.f k x495001 (wrap64 (x495002 - x5))).bind fun t497 => ((cutplaneref01_Up.f k x496001 (wrap64 (x496002 - x5))).bind fun t500 => (if (x495000 == x496000) = true then ((cutplaneref01_Add.f k t497 t500).bind fun t503 => ((cutplaneref02_Form.f k x495000 t503 x5).bind fun bt506 => (some (bt506.1, bt506.2.1, bt506.2.2)))) else ((cutplaneref01_Cmp.f k t497 t500).bind fun t511 => (if t511 ≥ 0 then ((cutplaneref01_Sub.f k t497 t500).bind fun t512 => ((cutplaneref02_Form.f k x495000 t512 x5).bind fun bt515 => (some (bt515.1, bt515.2.1, bt515.2.2)))) else (none)))))
def cutplaneref02_Add.f (k : Nat) (a0_0 : Bool) (l0_1 : List Int) (a0_2 : Int) (a1_0 : Bool) (l1_1 : List Int) (a1_2 : Int) : Option (Bool × List Int × Int) := if (l0_1.length : Int) = 0 then (some (a1_0, l1_1, a1_2)) else (if (l1_1.length : Int) = 0 then (some (a0_0, l0_1, a0_2)) else (if a1_2 < a0_2 then (cutplaneref02_Add.j0 k a1_2 a0_0 l0_1 a0_2 a1_0 l1_1 a1_2) else (cutplaneref02_Add.j0 k a0_2 a0_0 l0_1 a0_2 a1_0 l1_1 a1_2)))
theorem cutplaneref02_Add.mono_l : ∀ k, (∀ y0 y1 y2 y3 y4 y5 y6, LeO (cutplaneref02_Add.j0 k y0 y1 y2 y3 y4 y5 y6) (cutplaneref02_Add.j0 (k + 1) y0 y1 y2 y3 y4 y5 y6))
 | 0 => fun _ _ _ _ _ _ _ r h => by simp [cutplaneref02_Add.j0] at h
 | k + 1 => by
  have ih0 := cutplaneref02_Add.mono_l k
  ·intro y0 y1 y2 y3 y4 y5 y6
   unfold cutplaneref02_Add.j0
   repeat' first
   | (with_reducible exact ih0 _ _ _ _ _ _ _)
   | (with_reducible exact cutplaneref01_Add.mono _ _ _)
   | (with_reducible exact cutplaneref01_Cmp.mono _ _ _)
   | (with_reducible exact cutplaneref01_Sub.mono _ _ _)
   | (with_reducible exact cutplaneref01_Up.mono _ _ _)
   | (with_reducible exact cutplaneref02_Form.mono _ _ _ _)
   | (with_reducible exact LeO.refl _)
   | (with_reducible exact LeO.none _)
   | (with_reducible refine LeO.ite ?_ ?_)
   | (with_reducible refine LeO.bind ?_ (fun _ => ?_))
   | exact ih0 _ _ _ _ _ _ _
   | exact cutplaneref01_Add.mono _ _ _
   | exact cutplaneref01_Cmp.mono _ _ _
   | exact cutplaneref01_Sub.mono _ _ _
   | exact cutplaneref01_Up.mono _ _ _
   | exact cutplaneref02_Form.mono _ _ _ _
   | exact LeO.none _
   | refine LeO.ite ?_ ?_
   | refine LeO.bind ?_ (fun _ => ?_)
theorem cutplaneref02_Add.mono : ∀ a0 a1 a2 a3 a4 a5 k, LeO (cutplaneref02_Add.f k a0 a1 a2 a3 a4 a5) (cutplaneref02_Add.f (k + 1) a0 a1 a2 a3 a4 a5) := by
 intro a0 a1 a2 a3 a4 a5 k
 have ih0 := cutplaneref02_Add.mono_l k
 unfold cutplaneref02_Add.f
 repeat' first
   | (with_reducible exact ih0 _ _ _ _ _ _ _)
   | (with_reducible exact cutplaneref01_Add.mono _ _ _)
   | (with_reducible exact cutplaneref01_Cmp.mono _ _ _)
   | (with_reducible exact cutplaneref01_Sub.mono _ _ _)
   | (with_reducible exact cutplaneref01_Up.mono _ _ _)
   | (with_reducible exact cutplaneref02_Form.mono _ _ _ _)
   | (with_reducible exact LeO.refl _)
   | (with_reducible exact LeO.none _)
   | (with_reducible refine LeO.ite ?_ ?_)
   | (with_reducible refine LeO.bind ?_ (fun _ => ?_))
   | exact ih0 _ _ _ _ _ _ _
   | exact cutplaneref01_Add.mono _ _ _
   | exact cutplaneref01_Cmp.mono _ _ _
   | exact cutplaneref01_Sub.mono _ _ _
   | exact cutplaneref01_Up.mono _ _ _
   | exact cutplaneref02_Form.mono _ _ _ _
   | exact LeO.none _
   | refine LeO.ite ?_ ?_
   | refine LeO.bind ?_ (fun _ => ?_)
def cutplaneref02_Add.T11 : Bool × List (List Nat × List Nat) := (true, [([], []), ([0], [0]), ([], []), ([], []), ([2, 3], [2, 3]), ([], []), ([1, 4, 5, 4], [1, 4, 5]), ([6, 6, 0, 1, 2, 3, 4, 5, 6], [6])])
def cutplaneref02_Add.B11 : List Nat := [0, 1, 0, 0, 12, 0, 63, 127]
theorem cutplaneref02_Add.tab11 : rtab .any (opsOf Tryz.f69 11) = cutplaneref02_Add.T11 := by kernel_rfl
theorem cutplaneref02_Add.bits11 : waitsOk cutplaneref02_Add.T11.2 cutplaneref02_Add.B11 = true := by kernel_rfl
def cutplaneref02_Add.T13 : Bool × List (List Nat × List Nat) := (true, [([], []), ([0], [0]), ([], []), ([], []), ([2, 3], [2, 3]), ([], []), ([1, 4, 5, 4], [1, 4, 5]), ([6, 6, 0, 1, 2, 3, 4, 5, 6], [6])])
def cutplaneref02_Add.B13 : List Nat := [0, 1, 0, 0, 12, 0, 63, 127]
theorem cutplaneref02_Add.tab13 : rtab .any (opsOf Tryz.f69 13) = cutplaneref02_Add.T13 := by kernel_rfl
theorem cutplaneref02_Add.bits13 : waitsOk cutplaneref02_Add.T13.2 cutplaneref02_Add.B13 = true := by kernel_rfl
theorem cutplaneref02_Add.calls (k : Nat) (a0_0 : Bool) (P0_1_ : Nat → Prop) (A0_1 : Option Addr) (c0_1 : Nat) (l0_1 : List Int) (a0_2 : Int) (a1_0 : Bool) (P1_1_ : Nat → Prop) (A1_1 : Option Addr) (c1_1 : Nat) (l1_1 : List Int) (a1_2 : Int) (r1 : Bool) (r2 : List Int) (r3 : Int) (w : World) (hs0_1 : Kd.V (Kd.int .u32) 132 w w.heap.size (fun k_ => P0_1_ k_) (.slice A0_1 l0_1.length c0_1) l0_1) (hs1_1 : Kd.V (Kd.int .u32) 132 w w.heap.size (fun k_ => P1_1_ k_) (.slice A1_1 l1_1.length c1_1) l1_1) (h : cutplaneref02_Add.f k a0_0 l0_1 a0_2 a1_0 l1_1 a1_2 = some (r1, r2, r3)) :
  Calls Tryz.prog 69 #[.agg #[.bool a0_0, .slice A0_1 l0_1.length c0_1, .int .i64 a0_2], .agg #[.bool a1_0, .slice A1_1 l1_1.length c1_1, .int .i64 a1_2]] w fun e w' => ∃ v1_ : Value, e = .returned (.agg #[.bool r1, v1_, .int .i64 r3]) ∧ Kd.V (Kd.int .u32) 132 w' w.heap.size (fun k_ => ((P0_1_ k_ ∨ P1_1_ k_) ∨ w.heap.size ≤ k_)) v1_ r2 ∧ Below w.heap.size w w' := by
 have hu107 := Tryz.underlying107
 have HO0_1 := A0_ (show Kd.V (Kd.int .u32) 132 w w.heap.size (fun k_ => ((P0_1_ k_ ∨ P1_1_ k_) ∨ w.heap.size ≤ k_)) (.slice A0_1 l0_1.length c0_1) l0_1 from Kd.V_mono hs0_1 (fun k_ hk => .inl (.inl hk)))
 have HO1_1 := A0_ (show Kd.V (Kd.int .u32) 132 w w.heap.size (fun k_ => ((P0_1_ k_ ∨ P1_1_ k_) ∨ w.heap.size ≤ k_)) (.slice A1_1 l1_1.length c1_1) l1_1 from Kd.V_mono hs1_1 (fun k_ hk => .inl (.inr hk)))
 have HB := A0_ (Below.refl w.heap.size w)
 have H := h
 clear h
 unfold cutplaneref02_Add.f at H
 by_cases c3 : (l0_1.length : Int) = 0
 ·rw [if_pos c3] at H
  have c3b0 : ((l0_1.length : Int) == 0) = true := beq_iff_eq.mpr c3
  have c3b1 : ((l0_1.length : Int) != 0) = false := bne_eq_false_iff_eq.mpr c3
  clear c3
  simp only [Option.some.injEq, Prod.mk.injEq] at H
  obtain ⟨rfl, rfl, rfl⟩ := H
  go_enter Tryz.func69, Tryz.ntmps69
  go_wp2_with (first | ((with_reducible refine gate_dst (N := 2) rfl ?_); refine box_event ?hg (N := 2) ?hd (cs := #[.bool a0_0, .slice A0_1 l0_1.length c0_1, .int .i64 a0_2]) (t := 107) ?hr ?_; (case hd => rfl); (case hg => rfl); (case hr => first | (go_simp; done) | (go_simp; rfl)); intro gb494 hg w4 hbox hb; replace HO0_1 := A0_ (Kd.V_below (Kd.V_elderB (by exact vm_ HO0_1.out) gb494 (Nat.le_of_eq hg.symm)) hb); replace HO1_1 := A0_ (Kd.V_below (Kd.V_elderB (by exact vm_ HO1_1.out) gb494 (Nat.le_of_eq hg.symm)) hb); have BK494 := A0_ (hbox); have GW494 := A0_ ((by rw [hg]; exact (below_size (qm_ HB.out)) : w.heap.size ≤ gb494)); have GE494 := GW494; replace HB := hs_ hb; clear hb hbox hg) | ((with_reducible refine gate_dst (N := 3) rfl ?_); refine box_event ?hg (N := 3) ?hd (cs := #[.bool a1_0, .slice A1_1 l1_1.length c1_1, .int .i64 a1_2]) (t := 107) ?hr ?_; (case hd => rfl); (case hg => rfl); (case hr => first | (go_simp; done) | (go_simp; rfl)); intro gb495 hg w5 hbox hb; replace HO0_1 := A0_ (Kd.V_below (Kd.V_elderB (by exact vm_ HO0_1.out) gb495 (Nat.le_of_eq hg.symm)) hb); replace HO1_1 := A0_ (Kd.V_below (Kd.V_elderB (by exact vm_ HO1_1.out) gb495 (Nat.le_of_eq hg.symm)) hb); have BK495 := A0_ (hbox); have GW495 := A0_ ((by rw [hg]; exact (below_size qz_) : w.heap.size ≤ gb495)); have GE495 := GW495; replace HB := hs_ hb; have NB494_495 := nl_ hg BK494; have NB495_494 := ng_ hg BK494; replace BK494 := bb_ BK494 hb; clear hb hbox hg) | ((with_reducible refine gate_dst (N := 4) rfl ?_); refine box_event ?hg (N := 4) ?hd (cs := #[.bool false, .slice none 0 0, .int .i64 0]) (t := 107) ?hr ?_; (case hd => rfl); (case hg => rfl); (case hr => first | (go_simp; done) | (go_simp; rfl)); intro gb496 hg w6 hbox hb; replace HO0_1 := A0_ (Kd.V_below (Kd.V_elderB (by exact vm_ HO0_1.out) gb496 (Nat.le_of_eq hg.symm)) hb); replace HO1_1 := A0_ (Kd.V_below (Kd.V_elderB (by exact vm_ HO1_1.out) gb496 (Nat.le_of_eq hg.symm)) hb); have BK496 := A0_ (hbox); have GW496 := A0_ ((by rw [hg]; exact (below_size qz_) : w.heap.size ≤ gb496)); have GE496 := GW496; replace HB := hs_ hb; have NB494_496 := nl_ hg BK494; have NB496_494 := ng_ hg BK494; replace BK494 := bb_ BK494 hb; have NB495_496 := nl_ hg BK495; have NB496_495 := ng_ hg BK495; replace BK495 := bb_ BK495 hb; clear hb hbox hg; have hnb7 := NB494_495.out; have hnc7 := NB495_494.out; have hnb8 := NB494_496.out; have hnc8 := NB496_494.out; have hcz9 := bc3_ BK494.out; have hfz9 := bf3_ BK494.out; have hnb10 := NB495_496.out; have hnc10 := NB496_495.out; have hcz11 := bc3_ BK495.out; have hfz11 := bf3_ BK495.out; have hcz12 := bc3_ BK496.out; have hfz12 := bf3_ BK496.out))
  refine bodyPost_ret (results_cell_row rfl _ _ gb496 107 #[.bool a1_0, .slice A1_1 l1_1.length c1_1, .int .i64 a1_2] (0, 0) _ rfl (by (with_reducible repeat first | apply bN_ | apply bD_ | apply bA_); refine blk_put (cs := #[.bool a1_0, .slice A1_1 l1_1.length c1_1, .int .i64 0]) ?_ 2 _ rfl; refine blk_put (cs := #[.bool a1_0, .slice none 0 0, .int .i64 0]) ?_ 1 _ rfl; refine blk_put (cs := #[.bool false, .slice none 0 0, .int .i64 0]) ?_ 0 _ rfl; exact bm_ BK496.out) Tryz.underlying107 rfl (by kernel_rfl)) rfl ?_
  exact ⟨_, by first | rfl | (simp [errW_none, errW_some] <;> rfl) | (simp [*, errW_none, errW_some] <;> rfl), by (with_reducible repeat (first | apply Kd.V_alloc | apply Kd.V_drewN | apply Kd.V_drew)); exact Kd.V_mono (Kd.V_far (p := ⟨gb496, 2, none⟩) (Kd.V_far (p := ⟨gb496, 1, none⟩) (Kd.V_far (p := ⟨gb496, 0, none⟩) (Kd.V_mono HO1_1.out (fun k_ hk => (⟨hk, hk.2⟩ : _ ∧ k_ ≠ gb496))) (fun _ hk => hk.2) (.bool a1_0)) (fun _ hk => hk.2) (.slice A1_1 l1_1.length c1_1)) (fun _ hk => hk.2) (.int .i64 a1_2)) (fun _ hk => hk.1.1.1.1), qz_⟩
 ·rw [if_neg c3] at H
  have c3b0 : ((l0_1.length : Int) == 0) = false := beq_eq_false_iff_ne.mpr c3
  have c3b1 : ((l0_1.length : Int) != 0) = true := bne_iff_ne.mpr c3
  have c3b2 : ¬ (l0_1 = []) := fun h_ => c3 (by rw [h_]; rfl)
  by_cases c13 : (l1_1.length : Int) = 0
  ·rw [if_pos c13] at H
   have c13b0 : ((l1_1.length : Int) == 0) = true := beq_iff_eq.mpr c13
   have c13b1 : ((l1_1.length : Int) != 0) = false := bne_eq_false_iff_eq.mpr c13
   clear c13
   simp only [Option.some.injEq, Prod.mk.injEq] at H
   obtain ⟨rfl, rfl, rfl⟩ := H
   go_enter Tryz.func69, Tryz.ntmps69
   go_wp2_with (first | ((with_reducible refine gate_dst (N := 2) rfl ?_); refine box_event ?hg (N := 2) ?hd (cs := #[.bool a0_0, .slice A0_1 l0_1.length c0_1, .int .i64 a0_2]) (t := 107) ?hr ?_; (case hd => rfl); (case hg => rfl); (case hr => first | (go_simp; done) | (go_simp; rfl)); intro gb494 hg w14 hbox hb; replace HO0_1 := A0_ (Kd.V_below (Kd.V_elderB (by exact vm_ HO0_1.out) gb494 (Nat.le_of_eq hg.symm)) hb); replace HO1_1 := A0_ (Kd.V_below (Kd.V_elderB (by exact vm_ HO1_1.out) gb494 (Nat.le_of_eq hg.symm)) hb); have BK494 := A0_ (hbox); have GW494 := A0_ ((by rw [hg]; exact (below_size (qm_ HB.out)) : w.heap.size ≤ gb494)); have GE494 := GW494; replace HB := hs_ hb; clear hb hbox hg) | ((with_reducible refine gate_dst (N := 3) rfl ?_); refine box_event ?hg (N := 3) ?hd (cs := #[.bool a1_0, .slice A1_1 l1_1.length c1_1, .int .i64 a1_2]) (t := 107) ?hr ?_; (case hd => rfl); (case hg => rfl); (case hr => first | (go_simp; done) | (go_simp; rfl)); intro gb495 hg w15 hbox hb; replace HO0_1 := A0_ (Kd.V_below (Kd.V_elderB (by exact vm_ HO0_1.out) gb495 (Nat.le_of_eq hg.symm)) hb); replace HO1_1 := A0_ (Kd.V_below (Kd.V_elderB (by exact vm_ HO1_1.out) gb495 (Nat.le_of_eq hg.symm)) hb); have BK495 := A0_ (hbox); have GW495 := A0_ ((by rw [hg]; exact (below_size qz_) : w.heap.size ≤ gb495)); have GE495 := GW495; replace HB := hs_ hb; have NB494_495 := nl_ hg BK494; have NB495_494 := ng_ hg BK494; replace BK494 := bb_ BK494 hb; clear hb hbox hg) | ((with_reducible refine gate_dst (N := 4) rfl ?_); refine box_event ?hg (N := 4) ?hd (cs := #[.bool false, .slice none 0 0, .int .i64 0]) (t := 107) ?hr ?_; (case hd => rfl); (case hg => rfl); (case hr => first | (go_simp; done) | (go_simp; rfl)); intro gb496 hg w16 hbox hb; replace HO0_1 := A0_ (Kd.V_below (Kd.V_elderB (by exact vm_ HO0_1.out) gb496 (Nat.le_of_eq hg.symm)) hb); replace HO1_1 := A0_ (Kd.V_below (Kd.V_elderB (by exact vm_ HO1_1.out) gb496 (Nat.le_of_eq hg.symm)) hb); have BK496 := A0_ (hbox); have GW496 := A0_ ((by rw [hg]; exact (below_size qz_) : w.heap.size ≤ gb496)); have GE496 := GW496; replace HB := hs_ hb; have NB494_496 := nl_ hg BK494; have NB496_494 := ng_ hg BK494; replace BK494 := bb_ BK494 hb; have NB495_496 := nl_ hg BK495; have NB496_495 := ng_ hg BK495; replace BK495 := bb_ BK495 hb; clear hb hbox hg; have hnb17 := NB494_495.out; have hnc17 := NB495_494.out; have hnb18 := NB494_496.out; have hnc18 := NB496_494.out; have hcz19 := bc3_ BK494.out; have hfz19 := bf3_ BK494.out; have hnb20 := NB495_496.out; have hnc20 := NB496_495.out; have hcz21 := bc3_ BK495.out; have hfz21 := bf3_ BK495.out; have hcz22 := bc3_ BK496.out; have hfz22 := bf3_ BK496.out))
   refine bodyPost_ret (results_cell_row rfl _ _ gb496 107 #[.bool a0_0, .slice A0_1 l0_1.length c0_1, .int .i64 a0_2] (0, 0) _ rfl (by (with_reducible repeat first | apply bN_ | apply bD_ | apply bA_); refine blk_put (cs := #[.bool a0_0, .slice A0_1 l0_1.length c0_1, .int .i64 0]) ?_ 2 _ rfl; refine blk_put (cs := #[.bool a0_0, .slice none 0 0, .int .i64 0]) ?_ 1 _ rfl; refine blk_put (cs := #[.bool false, .slice none 0 0, .int .i64 0]) ?_ 0 _ rfl; exact bm_ BK496.out) Tryz.underlying107 rfl (by kernel_rfl)) rfl ?_
   exact ⟨_, by first | rfl | (simp [errW_none, errW_some] <;> rfl) | (simp [*, errW_none, errW_some] <;> rfl), by (with_reducible repeat (first | apply Kd.V_alloc | apply Kd.V_drewN | apply Kd.V_drew)); exact Kd.V_mono (Kd.V_far (p := ⟨gb496, 2, none⟩) (Kd.V_far (p := ⟨gb496, 1, none⟩) (Kd.V_far (p := ⟨gb496, 0, none⟩) (Kd.V_mono HO0_1.out (fun k_ hk => (⟨hk, hk.2⟩ : _ ∧ k_ ≠ gb496))) (fun _ hk => hk.2) (.bool a0_0)) (fun _ hk => hk.2) (.slice A0_1 l0_1.length c0_1)) (fun _ hk => hk.2) (.int .i64 a0_2)) (fun _ hk => hk.1.1.1.1), qz_⟩
  ·rw [if_neg c13] at H
   have c13b0 : ((l1_1.length : Int) == 0) = false := beq_eq_false_iff_ne.mpr c13
   have c13b1 : ((l1_1.length : Int) != 0) = true := bne_iff_ne.mpr c13
   have c13b2 : ¬ (l1_1 = []) := fun h_ => c13 (by rw [h_]; rfl)
   have HC23 := A0_ H
   clear H
   go_enter Tryz.func69, Tryz.ntmps69
   go_upto_if 23 with (first | ((with_reducible refine gate_dst (N := 2) rfl ?_); refine box_event ?hg (N := 2) ?hd (cs := #[.bool a0_0, .slice A0_1 l0_1.length c0_1, .int .i64 a0_2]) (t := 107) ?hr ?_; (case hd => rfl); (case hg => rfl); (case hr => first | (go_simp; done) | (go_simp; rfl)); intro gb494 hg w24 hbox hb; replace HO0_1 := A0_ (Kd.V_below (Kd.V_elderB (by exact vm_ HO0_1.out) gb494 (Nat.le_of_eq hg.symm)) hb); replace HO1_1 := A0_ (Kd.V_below (Kd.V_elderB (by exact vm_ HO1_1.out) gb494 (Nat.le_of_eq hg.symm)) hb); have BK494 := A0_ (hbox); have GW494 := A0_ ((by rw [hg]; exact (below_size (qm_ HB.out)) : w.heap.size ≤ gb494)); have GE494 := GW494; replace HB := hs_ hb; clear hb hbox hg) | ((with_reducible refine gate_dst (N := 3) rfl ?_); refine box_event ?hg (N := 3) ?hd (cs := #[.bool a1_0, .slice A1_1 l1_1.length c1_1, .int .i64 a1_2]) (t := 107) ?hr ?_; (case hd => rfl); (case hg => rfl); (case hr => first | (go_simp; done) | (go_simp; rfl)); intro gb495 hg w25 hbox hb; replace HO0_1 := A0_ (Kd.V_below (Kd.V_elderB (by exact vm_ HO0_1.out) gb495 (Nat.le_of_eq hg.symm)) hb); replace HO1_1 := A0_ (Kd.V_below (Kd.V_elderB (by exact vm_ HO1_1.out) gb495 (Nat.le_of_eq hg.symm)) hb); have BK495 := A0_ (hbox); have GW495 := A0_ ((by rw [hg]; exact (below_size qz_) : w.heap.size ≤ gb495)); have GE495 := GW495; replace HB := hs_ hb; have NB494_495 := nl_ hg BK494; have NB495_494 := ng_ hg BK494; replace BK494 := bb_ BK494 hb; clear hb hbox hg) | ((with_reducible refine gate_dst (N := 4) rfl ?_); refine box_event ?hg (N := 4) ?hd (cs := #[.bool false, .slice none 0 0, .int .i64 0]) (t := 107) ?hr ?_; (case hd => rfl); (case hg => rfl); (case hr => first | (go_simp; done) | (go_simp; rfl)); intro gb496 hg w26 hbox hb; replace HO0_1 := A0_ (Kd.V_below (Kd.V_elderB (by exact vm_ HO0_1.out) gb496 (Nat.le_of_eq hg.symm)) hb); replace HO1_1 := A0_ (Kd.V_below (Kd.V_elderB (by exact vm_ HO1_1.out) gb496 (Nat.le_of_eq hg.symm)) hb); have BK496 := A0_ (hbox); have GW496 := A0_ ((by rw [hg]; exact (below_size qz_) : w.heap.size ≤ gb496)); have GE496 := GW496; replace HB := hs_ hb; have NB494_496 := nl_ hg BK494; have NB496_494 := ng_ hg BK494; replace BK494 := bb_ BK494 hb; have NB495_496 := nl_ hg BK495; have NB496_495 := ng_ hg BK495; replace BK495 := bb_ BK495 hb; clear hb hbox hg; have hnb27 := NB494_495.out; have hnc27 := NB495_494.out; have hnb28 := NB494_496.out; have hnc28 := NB496_494.out; have hcz29 := bc3_ BK494.out; have hfz29 := bf3_ BK494.out; have hnb30 := NB495_496.out; have hnc30 := NB496_495.out; have hcz31 := bc3_ BK495.out; have hfz31 := bf3_ BK495.out))
   (try simp only [Act.put, sp_])
   go_cut [5] (fun v5 wc => ∃ (kq : Nat) (x5_22 : Int), v5 = .int .i64 x5_22 ∧ Aside0 (cutplaneref02_Add.j0 kq x5_22 a0_0 l0_1 a0_2 a1_0 l1_1 a1_2 = some (r1, r2, r3)) ∧ Aside0 (kq ≤ k) ∧ Aside0 (Kd.V (Kd.int .u32) 132 wc w.heap.size (fun k_ => ((P0_1_ k_ ∨ P1_1_ k_) ∨ w.heap.size ≤ k_) ∧ k_ ≠ gb494 ∧ k_ ≠ gb495 ∧ k_ ≠ gb496) (.slice A0_1 l0_1.length c0_1) l0_1) ∧ Aside0 (Kd.V (Kd.int .u32) 132 wc w.heap.size (fun k_ => ((P0_1_ k_ ∨ P1_1_ k_) ∨ w.heap.size ≤ k_) ∧ k_ ≠ gb494 ∧ k_ ≠ gb495 ∧ k_ ≠ gb496) (.slice A1_1 l1_1.length c1_1) l1_1) ∧ Aside0 (wc.heap[gb494]? = some (.cells #[.bool a0_0, (.slice A0_1 l0_1.length c0_1), .int .i64 a0_2] 107 (0, 0))) ∧ Aside0 (wc.heap[gb495]? = some (.cells #[.bool a1_0, (.slice A1_1 l1_1.length c1_1), .int .i64 a1_2] 107 (0, 0))) ∧ Aside0 (wc.heap[gb496]? = some (.cells #[.bool false, (.slice none 0 0), .int .i64 0] 107 (0, 0))) ∧ Aside0 (Below w.heap.size w wc))
   case first =>
    have H := HC23.out
    clear HC23
    by_cases c32 : a1_2 < a0_2
    ·rw [if_pos c32] at H
     have c32b0 : decide (a1_2 < a0_2) = true := decide_eq_true c32
     clear c32
     (first | rw [c32b0] | (simp only [i64_w, i32_w]; rw [c32b0]) | skip)
     have H' := A0_ H
     clear H
     have hnb33 := NB495_494.out
     have hnc33 := NB494_495.out
     have hnb34 := NB495_496.out
     have hnc34 := NB496_495.out
     have hcz35 := bc3_ BK495.out
     have hfz35 := bf3_ BK495.out
     go_wp2
     go_meet
     case rel => exact ⟨_, (a1_2), (by first | rfl | (simp; done) | (simp [*]; done)), H', ⟨by first | omega | exact Nat.le_refl _⟩, ⟨by (with_reducible repeat (first | apply Kd.V_alloc | apply Kd.V_drewN | apply Kd.V_drew)); exact Kd.V_mono HO0_1.out (fun _ hk => by first | exact ⟨hk.1.1.1, ⟨hk.1.1.2, ⟨hk.1.2, hk.2⟩⟩⟩ | (refine ⟨?_, ⟨?_, ⟨?_, ?_⟩⟩⟩ <;> first | exact hk.1 | exact hk.2 | exact hk.1.1 | exact hk.1.2 | exact hk.2.1 | exact hk.2.2 | exact hk.1.1.1 | exact hk.1.1.2 | exact hk.1.2.1 | exact hk.1.2.2 | exact hk.2.1.1 | exact hk.2.1.2 | exact hk.2.2.1 | exact hk.2.2.2 | exact hk.1.1.1.1 | exact hk.1.1.1.2 | exact hk.1.1.2.1 | exact hk.1.1.2.2 | exact hk.1.2.1.1 | exact hk.1.2.1.2 | exact hk.1.2.2.1 | exact hk.1.2.2.2 | exact hk.2.1.1.1 | exact hk.2.1.1.2 | exact hk.2.1.2.1 | exact hk.2.1.2.2 | exact hk.2.2.1.1 | exact hk.2.2.1.2 | exact hk.2.2.2.1 | exact hk.2.2.2.2 | exact hk.1.1.1.1.1 | exact hk.1.1.1.1.2 | exact hk.1.1.1.1.1.1 | exact hk.1.1.1.1.1.2 | exact hk.1.1.1.1.1.1.1 | exact hk.1.1.1.1.1.1.2 | exact hk.1.1.1.1.1.1.1.1 | exact hk.1.1.1.1.1.1.1.2 | exact hk.1.1.1.1.1.1.1.1.1 | exact hk.1.1.1.1.1.1.1.1.2 | exact hk.1.1.1.1.1.1.1.1.1.1 | exact hk.1.1.1.1.1.1.1.1.1.2 | exact hk.1.1.1.1.1.1.1.1.1.1.1 | exact hk.1.1.1.1.1.1.1.1.1.1.2 | exact hk.1.1.1.1.1.1.1.1.1.1.1.1 | exact hk.1.1.1.1.1.1.1.1.1.1.1.2))⟩, ⟨by (with_reducible repeat (first | apply Kd.V_alloc | apply Kd.V_drewN | apply Kd.V_drew)); exact Kd.V_mono HO1_1.out (fun _ hk => by first | exact ⟨hk.1.1.1, ⟨hk.1.1.2, ⟨hk.1.2, hk.2⟩⟩⟩ | (refine ⟨?_, ⟨?_, ⟨?_, ?_⟩⟩⟩ <;> first | exact hk.1 | exact hk.2 | exact hk.1.1 | exact hk.1.2 | exact hk.2.1 | exact hk.2.2 | exact hk.1.1.1 | exact hk.1.1.2 | exact hk.1.2.1 | exact hk.1.2.2 | exact hk.2.1.1 | exact hk.2.1.2 | exact hk.2.2.1 | exact hk.2.2.2 | exact hk.1.1.1.1 | exact hk.1.1.1.2 | exact hk.1.1.2.1 | exact hk.1.1.2.2 | exact hk.1.2.1.1 | exact hk.1.2.1.2 | exact hk.1.2.2.1 | exact hk.1.2.2.2 | exact hk.2.1.1.1 | exact hk.2.1.1.2 | exact hk.2.1.2.1 | exact hk.2.1.2.2 | exact hk.2.2.1.1 | exact hk.2.2.1.2 | exact hk.2.2.2.1 | exact hk.2.2.2.2 | exact hk.1.1.1.1.1 | exact hk.1.1.1.1.2 | exact hk.1.1.1.1.1.1 | exact hk.1.1.1.1.1.2 | exact hk.1.1.1.1.1.1.1 | exact hk.1.1.1.1.1.1.2 | exact hk.1.1.1.1.1.1.1.1 | exact hk.1.1.1.1.1.1.1.2 | exact hk.1.1.1.1.1.1.1.1.1 | exact hk.1.1.1.1.1.1.1.1.2 | exact hk.1.1.1.1.1.1.1.1.1.1 | exact hk.1.1.1.1.1.1.1.1.1.2 | exact hk.1.1.1.1.1.1.1.1.1.1.1 | exact hk.1.1.1.1.1.1.1.1.1.1.2 | exact hk.1.1.1.1.1.1.1.1.1.1.1.1 | exact hk.1.1.1.1.1.1.1.1.1.1.1.2))⟩, ⟨bm_ BK494.out⟩, ⟨bm_ BK495.out⟩, ⟨bm_ BK496.out⟩, ⟨qz_⟩⟩
    ·rw [if_neg c32] at H
     have c32b0 : decide (a1_2 < a0_2) = false := decide_eq_false c32
     clear c32
     (first | rw [c32b0] | (simp only [i64_w, i32_w]; rw [c32b0]) | skip)
     have H' := A0_ H
     clear H
     go_wp2
     go_meet
     case rel => exact ⟨_, (a0_2), (by first | rfl | (simp; done) | (simp [*]; done)), H', ⟨by first | omega | exact Nat.le_refl _⟩, ⟨by (with_reducible repeat (first | apply Kd.V_alloc | apply Kd.V_drewN | apply Kd.V_drew)); exact Kd.V_mono HO0_1.out (fun _ hk => by first | exact ⟨hk.1.1.1, ⟨hk.1.1.2, ⟨hk.1.2, hk.2⟩⟩⟩ | (refine ⟨?_, ⟨?_, ⟨?_, ?_⟩⟩⟩ <;> first | exact hk.1 | exact hk.2 | exact hk.1.1 | exact hk.1.2 | exact hk.2.1 | exact hk.2.2 | exact hk.1.1.1 | exact hk.1.1.2 | exact hk.1.2.1 | exact hk.1.2.2 | exact hk.2.1.1 | exact hk.2.1.2 | exact hk.2.2.1 | exact hk.2.2.2 | exact hk.1.1.1.1 | exact hk.1.1.1.2 | exact hk.1.1.2.1 | exact hk.1.1.2.2 | exact hk.1.2.1.1 | exact hk.1.2.1.2 | exact hk.1.2.2.1 | exact hk.1.2.2.2 | exact hk.2.1.1.1 | exact hk.2.1.1.2 | exact hk.2.1.2.1 | exact hk.2.1.2.2 | exact hk.2.2.1.1 | exact hk.2.2.1.2 | exact hk.2.2.2.1 | exact hk.2.2.2.2 | exact hk.1.1.1.1.1 | exact hk.1.1.1.1.2 | exact hk.1.1.1.1.1.1 | exact hk.1.1.1.1.1.2 | exact hk.1.1.1.1.1.1.1 | exact hk.1.1.1.1.1.1.2 | exact hk.1.1.1.1.1.1.1.1 | exact hk.1.1.1.1.1.1.1.2 | exact hk.1.1.1.1.1.1.1.1.1 | exact hk.1.1.1.1.1.1.1.1.2 | exact hk.1.1.1.1.1.1.1.1.1.1 | exact hk.1.1.1.1.1.1.1.1.1.2 | exact hk.1.1.1.1.1.1.1.1.1.1.1 | exact hk.1.1.1.1.1.1.1.1.1.1.2 | exact hk.1.1.1.1.1.1.1.1.1.1.1.1 | exact hk.1.1.1.1.1.1.1.1.1.1.1.2))⟩, ⟨by (with_reducible repeat (first | apply Kd.V_alloc | apply Kd.V_drewN | apply Kd.V_drew)); exact Kd.V_mono HO1_1.out (fun _ hk => by first | exact ⟨hk.1.1.1, ⟨hk.1.1.2, ⟨hk.1.2, hk.2⟩⟩⟩ | (refine ⟨?_, ⟨?_, ⟨?_, ?_⟩⟩⟩ <;> first | exact hk.1 | exact hk.2 | exact hk.1.1 | exact hk.1.2 | exact hk.2.1 | exact hk.2.2 | exact hk.1.1.1 | exact hk.1.1.2 | exact hk.1.2.1 | exact hk.1.2.2 | exact hk.2.1.1 | exact hk.2.1.2 | exact hk.2.2.1 | exact hk.2.2.2 | exact hk.1.1.1.1 | exact hk.1.1.1.2 | exact hk.1.1.2.1 | exact hk.1.1.2.2 | exact hk.1.2.1.1 | exact hk.1.2.1.2 | exact hk.1.2.2.1 | exact hk.1.2.2.2 | exact hk.2.1.1.1 | exact hk.2.1.1.2 | exact hk.2.1.2.1 | exact hk.2.1.2.2 | exact hk.2.2.1.1 | exact hk.2.2.1.2 | exact hk.2.2.2.1 | exact hk.2.2.2.2 | exact hk.1.1.1.1.1 | exact hk.1.1.1.1.2 | exact hk.1.1.1.1.1.1 | exact hk.1.1.1.1.1.2 | exact hk.1.1.1.1.1.1.1 | exact hk.1.1.1.1.1.1.2 | exact hk.1.1.1.1.1.1.1.1 | exact hk.1.1.1.1.1.1.1.2 | exact hk.1.1.1.1.1.1.1.1.1 | exact hk.1.1.1.1.1.1.1.1.2 | exact hk.1.1.1.1.1.1.1.1.1.1 | exact hk.1.1.1.1.1.1.1.1.1.2 | exact hk.1.1.1.1.1.1.1.1.1.1.1 | exact hk.1.1.1.1.1.1.1.1.1.1.2 | exact hk.1.1.1.1.1.1.1.1.1.1.1.1 | exact hk.1.1.1.1.1.1.1.1.1.1.1.2))⟩, ⟨bm_ BK494.out⟩, ⟨bm_ BK495.out⟩, ⟨bm_ BK496.out⟩, ⟨qz_⟩⟩
   case rest =>
    clear HC23
    try clear c1
    try clear c2
    try clear p2
    try clear c3
    try clear c3b0
    try clear c3b1
    try clear c3b2
    try clear c6
    try clear c7
    try clear c8
    try clear c10
    try clear c13
    try clear c13b0
    try clear c13b1
    try clear c13b2
    try clear c17
    try clear c18
    try clear c20
    try clear c27
    try clear c28
    try clear c30
    try clear c32
    try clear c32b0
    try clear c33
    try clear c34
    try clear hcz11
    try clear hcz12
    try clear hcz19
    try clear hcz21
    try clear hcz22
    try clear hcz29
    try clear hcz31
    try clear hcz35
    try clear hcz9
    try clear hfz11
    try clear hfz12
    try clear hfz19
    try clear hfz21
    try clear hfz22
    try clear hfz29
    try clear hfz31
    try clear hfz35
    try clear hfz9
    obtain ⟨kq, x5_22, rfl, HA, HJ22, HO_495001, HO_496001, BK494, BK495, BK496, HB⟩ := hcut
    cases kq with
    | zero => exact absurd HA.out (by simp [cutplaneref02_Add.j0])
    | succ kj22 =>
     have H := HA.out
     clear HA
     simp only [cutplaneref02_Add.j0] at H
     obtain ⟨t497, A36, H⟩ := bs_ H
     try dsimp -simprocs only at H
     obtain ⟨t500, A37, H⟩ := bs_ H
     try dsimp -simprocs only at H
     by_cases c38 : (a0_0 == a1_0) = true
     ·rw [if_pos c38] at H
      have c38b0 : (a0_0 == a1_0) = true := c38
      (try (have c38b1 : decide (a0_0 = a1_0) = true := by simpa using c38))
      (try (have c38b2 : (a0_0 == a1_0) = true := by simpa using c38))
      clear c38
      obtain ⟨t503, A39, H⟩ := bs_ H
      try dsimp -simprocs only at H
      obtain ⟨⟨t506, t507, t510⟩, A40, H⟩ := bs_ H
      try dsimp -simprocs only at H
      simp only [Option.some.injEq, Prod.mk.injEq] at H
      obtain ⟨rfl, rfl, rfl⟩ := H
      have hnb41 := NB494_495.out
      have hnc41 := NB495_494.out
      have hnb42 := NB494_496.out
      have hnc42 := NB496_494.out
      have hcz43 := bc3_ BK494.out
      have hfz43 := bf3_ BK494.out
      try go_wp2_with (first | ((with_reducible refine gate_callee (f := 89) rfl ?_); refine goesL_ (some 32) rfl rfl Tryz.func89 (by kernel_rfl) rfl #[.slice A0_1 l0_1.length c0_1, .int .i64 (wrap64 (a0_2 - x5_22))] rfl (am_ rfl) ?_; (with_reducible refine (cutplaneref01_Up.calls kj22 _ _ l0_1 (wrap64 (a0_2 - x5_22)) t497 _ ?side1 ?side2 A36.out).mono ?_); (case side1 => repeat (first | exact (Kd.V_reads' HO_495001.out).2.2 | (with_reducible refine Kd.C_alloc ?_ _) | (with_reducible refine Kd.C_drewN ?_ _) | (with_reducible refine Kd.C_drew ?_))); (case side2 => exact (Kd.V_reads' HO_495001.out).2.1); rintro e w44 ⟨v498, rfl, ho0, hb⟩; refine ⟨_, rfl, ?_⟩; replace HO_495001 := A0_ (Kd.V_below (by exact vm_ HO_495001.out) hb); replace HO_496001 := A0_ (Kd.V_below (by exact vm_ HO_496001.out) hb); have HO499 := A0_ (Kd.V_lower (Kd.V_mono (ok' := fun k_ => ((P0_1_ k_ ∨ P1_1_ k_) ∨ w.heap.size ≤ k_) ∧ k_ ≠ gb494 ∧ k_ ≠ gb495 ∧ k_ ≠ gb496) ho0 (fun k_ hk_ => ⟨(.inr (Nat.le_trans (below_size qz_) hk_)), (Kd.freshB (bm_ BK494.out) k_ hk_), (Kd.freshB (bm_ BK495.out) k_ hk_), (Kd.freshB (bm_ BK496.out) k_ hk_)⟩)) (below_size qz_)); replace BK494 := bb_ BK494 hb; replace BK495 := bb_ BK495 hb; replace BK496 := bb_ BK496 hb; replace HB := hs_ hb; (try clear hb); (try clear ho0); have hnb45 := NB495_496.out; have hnc45 := NB496_495.out; have hcz46 := bc3_ BK495.out; have hfz46 := bf3_ BK495.out) | ((with_reducible refine gate_callee (f := 89) rfl ?_); refine goesL_ (some 39) rfl rfl Tryz.func89 (by kernel_rfl) rfl #[.slice A1_1 l1_1.length c1_1, .int .i64 (wrap64 (a1_2 - x5_22))] rfl (am_ rfl) ?_; (with_reducible refine (cutplaneref01_Up.calls kj22 _ _ l1_1 (wrap64 (a1_2 - x5_22)) t500 _ ?side1 ?side2 A37.out).mono ?_); (case side1 => repeat (first | exact (Kd.V_reads' HO_496001.out).2.2 | (with_reducible refine Kd.C_alloc ?_ _) | (with_reducible refine Kd.C_drewN ?_ _) | (with_reducible refine Kd.C_drew ?_))); (case side2 => exact (Kd.V_reads' HO_496001.out).2.1); rintro e w47 ⟨v501, rfl, ho0, hb⟩; refine ⟨_, rfl, ?_⟩; replace HO_495001 := A0_ (Kd.V_below (by exact vm_ HO_495001.out) hb); replace HO_496001 := A0_ (Kd.V_below (by exact vm_ HO_496001.out) hb); replace HO499 := A0_ (Kd.V_below (by exact vm_ HO499.out) hb); have HO502 := A0_ (Kd.V_lower (Kd.V_mono (ok' := fun k_ => ((P0_1_ k_ ∨ P1_1_ k_) ∨ w.heap.size ≤ k_) ∧ k_ ≠ gb494 ∧ k_ ≠ gb495 ∧ k_ ≠ gb496) ho0 (fun k_ hk_ => ⟨(.inr (Nat.le_trans (below_size qz_) hk_)), (Kd.freshB (bm_ BK494.out) k_ hk_), (Kd.freshB (bm_ BK495.out) k_ hk_), (Kd.freshB (bm_ BK496.out) k_ hk_)⟩)) (below_size qz_)); replace BK494 := bb_ BK494 hb; replace BK495 := bb_ BK495 hb; replace BK496 := bb_ BK496 hb; replace HB := hs_ hb; (try clear hb); (try clear ho0); have hcz48 := bc3_ BK494.out; have hfz48 := bf3_ BK494.out; have hcz49 := bc3_ BK495.out; have hfz49 := bf3_ BK495.out))
      replace HO_495001 := A0_ (Kd.V_drew HO_495001.out)
      replace HO_496001 := A0_ (Kd.V_drew HO_496001.out)
      replace HO499 := A0_ (Kd.V_drew HO499.out)
      replace HO502 := A0_ (Kd.V_drew HO502.out)
      replace BK494 := A0_ (blk_drew BK494.out)
      replace BK495 := A0_ (blk_drew BK495.out)
      replace BK496 := A0_ (blk_drew BK496.out)
      replace HB := A0_ (below_drew1 HB.out)
      obtain ⟨Ao51, co51, eo51⟩ := Kd.V_slice HO499.out
      (first | subst eo51 | (injection eo51 with f1_ f2_ f3_; have f4_ := f1_.symm; have f5_ := f3_.symm; clear f1_ f2_ f3_; subst f4_; subst f5_))
      obtain ⟨Ao52, co52, eo52⟩ := Kd.V_slice HO502.out
      (first | subst eo52 | (injection eo52 with f1_ f2_ f3_; have f4_ := f1_.symm; have f5_ := f3_.symm; clear f1_ f2_ f3_; subst f4_; subst f5_))
      refine start_ (n := 8) (S := fun w' => w'.cell? ⟨gb494, 0, none⟩ = some (.bool a0_0) ∧ w'.cell? ⟨gb494, 1, none⟩ = some (.slice A0_1 l0_1.length c0_1) ∧ w'.cell? ⟨gb494, 2, none⟩ = some (.int .i64 a0_2)) (ds := []) #[false, false, false, false, false, false, false, false] (by kernel_rfl) rfl rfl ⟨bC_ BK494.out 0, bC_ BK494.out 1, bC_ BK494.out 2⟩ (fun hHeld => ?_); refine with_tabW cutplaneref02_Add.tab11 cutplaneref02_Add.bits11 (fun HT_ HW_ => ?_)
      generalize w47.drew = w50 at HO_495001 HO_496001 HO499 HO502 BK494 BK495 BK496 HB hHeld ⊢
      refine pure_ (i := 0) (N := some 45) (v := ?_) (a' := ?_) #[true, false, false, false, false, false, false, false] rfl rfl (any_of HT_.out (by kernel_rfl)) (fun _ _ _ h => h) (Or.inl ⟨by rfl, ?_⟩) ?_ ?_
      rotate_left
      ·intro w'
       go_simp
       with_reducible rfl
      rotate_left
      ·simp only [Act.put, sp_, i64_w, i32_w]
       rfl
      refine pure_ (i := 2) (N := some 47) (v := ?_) (a' := ?_) #[true, false, true, false, false, false, false, false] rfl rfl (any_of HT_.out (by kernel_rfl)) (fun _ _ _ h => h) (Or.inl ⟨by rfl, ?_⟩) ?_ ?_
      rotate_left
      ·intro w'
       go_simp
       with_reducible rfl
      rotate_left
      ·simp only [Act.put, sp_, i64_w, i32_w]
       rfl
      refine pure_ (i := 3) (N := some 48) (v := ?_) (a' := ?_) #[true, false, true, true, false, false, false, false] rfl rfl (any_of HT_.out (by kernel_rfl)) (fun _ _ _ h => h) (Or.inl ⟨by rfl, ?_⟩) ?_ ?_
      rotate_left
      ·intro w'
       go_simp
       with_reducible rfl
      rotate_left
      ·simp only [Act.put, sp_, i64_w, i32_w]
       rfl
      refine pure_ (i := 5) (N := some 50) (v := ?_) (a' := ?_) #[true, false, true, true, false, true, false, false] rfl rfl (any_of HT_.out (by kernel_rfl)) (fun _ _ _ h => h) (Or.inl ⟨by rfl, ?_⟩) ?_ ?_
      rotate_left
      ·intro w'
       go_simp
       with_reducible rfl
      rotate_left
      ·simp only [Act.put, sp_, i64_w, i32_w]
       rfl
      refine take_ (i := 1) (N := some 46) (v := ?_) (a' := ?_) #[true, true, true, true, false, true, false, false] rfl rfl (take_ofW HT_.out HW_.out (by kernel_rfl)) (fun _ _ _ h => h) (Or.inl ⟨by rfl, ?_⟩) hHeld ?_ ?_
      rotate_left
      ·rintro w' ⟨s0, s1, s2⟩
       go_simp
       with_reducible rfl
      rotate_left
      ·simp only [Act.put, sp_, i64_w, i32_w]
       rfl
      refine one_ (i := 4) (N := some 49) #[true, true, true, true, true, true, false, false] rfl rfl (one_of HT_.out (by kernel_rfl)) (by decide) (fun K hK => ?_)
      refine goes_ Tryz.func90 (by kernel_rfl) rfl #[.slice Ao51 t497.length co51, .slice Ao52 t500.length co52] (by rfl) rfl rfl (am_ rfl) ?_
      with_reducible refine (cutplaneref01_Add.calls kj22 _ _ t497 _ _ t500 t503 _ ?side1 ?side2 ?side3 ?side4 A39.out).mono ?_
      (case side1 => repeat (first | exact (Kd.V_reads' HO499.out).2.2 | (with_reducible refine Kd.C_alloc ?_ _) | (with_reducible refine Kd.C_drewN ?_ _) | (with_reducible refine Kd.C_drew ?_)))
      (case side2 => exact (Kd.V_reads' HO499.out).2.1)
      (case side3 => repeat (first | exact (Kd.V_reads' HO502.out).2.2 | (with_reducible refine Kd.C_alloc ?_ _) | (with_reducible refine Kd.C_drewN ?_ _) | (with_reducible refine Kd.C_drew ?_)))
      (case side4 => exact (Kd.V_reads' HO502.out).2.1)
      rintro e w53 ⟨v504, rfl, ho0, hb⟩
      refine ⟨_, rfl, ?_⟩
      replace HO_495001 := A0_ (Kd.V_below (by exact vm_ HO_495001.out) hb)
      replace HO_496001 := A0_ (Kd.V_below (by exact vm_ HO_496001.out) hb)
      replace HO499 := A0_ (Kd.V_below (by exact vm_ HO499.out) hb)
      replace HO502 := A0_ (Kd.V_below (by exact vm_ HO502.out) hb)
      have HO505 := A0_ (Kd.V_lower (Kd.V_mono (ok' := fun k_ => ((P0_1_ k_ ∨ P1_1_ k_) ∨ w.heap.size ≤ k_) ∧ k_ ≠ gb494 ∧ k_ ≠ gb495 ∧ k_ ≠ gb496) ho0 (fun k_ hk_ => ⟨(.inr (Nat.le_trans (below_size qz_) hk_)), (Kd.freshB (bm_ BK494.out) k_ hk_), (Kd.freshB (bm_ BK495.out) k_ hk_), (Kd.freshB (bm_ BK496.out) k_ hk_)⟩)) (below_size qz_))
      replace BK494 := bb_ BK494 hb
      replace BK495 := bb_ BK495 hb
      replace BK496 := bb_ BK496 hb
      replace HB := hs_ hb
      (try clear hb)
      (try clear ho0)
      obtain ⟨Ao54, co54, eo54⟩ := Kd.V_slice HO505.out
      (first | subst eo54 | (injection eo54 with f1_ f2_ f3_; have f4_ := f1_.symm; have f5_ := f3_.symm; clear f1_ f2_ f3_; subst f4_; subst f5_))
      refine hK.out _ _ ⟨bC_ BK494.out 0, bC_ BK494.out 1, bC_ BK494.out 2⟩ (fun hHeld => ?_)
      clear hK K
      refine norm_ (a' := ?_) ?_ ?_
      rotate_left
      ·show Act.put _ (some 49) _ = _
       simp only [Act.put, sp_, i64_w, i32_w]
       rfl
      refine one_ (i := 6) (N := some 51) #[true, true, true, true, true, true, true, false] rfl rfl (one_of HT_.out (by kernel_rfl)) (by decide) (fun K hK => ?_)
      refine goes_ Tryz.func86 (by kernel_rfl) rfl #[.bool a0_0, .slice Ao54 t503.length co54, .int .i64 x5_22] (by rfl) rfl rfl (am_ rfl) ?_
      with_reducible refine (cutplaneref02_Form.calls kj22 a0_0 _ _ t503 x5_22 t506 t507 t510 _ ?side1 ?side2 A40.out).mono ?_
      (case side1 => repeat (first | exact (Kd.V_reads' HO505.out).2.2 | (with_reducible refine Kd.C_alloc ?_ _) | (with_reducible refine Kd.C_drewN ?_ _) | (with_reducible refine Kd.C_drew ?_)))
      (case side2 => exact (Kd.V_reads' HO505.out).2.1)
      rintro e w55 ⟨v508, rfl, ho0, hb⟩
      refine ⟨_, rfl, ?_⟩
      replace HO_495001 := A0_ (Kd.V_below (by exact vm_ HO_495001.out) hb)
      replace HO_496001 := A0_ (Kd.V_below (by exact vm_ HO_496001.out) hb)
      replace HO499 := A0_ (Kd.V_below (by exact vm_ HO499.out) hb)
      replace HO502 := A0_ (Kd.V_below (by exact vm_ HO502.out) hb)
      replace HO505 := A0_ (Kd.V_below (by exact vm_ HO505.out) hb)
      have HO509 := A0_ (Kd.V_lower (Kd.V_mono (ok' := fun k_ => ((P0_1_ k_ ∨ P1_1_ k_) ∨ w.heap.size ≤ k_) ∧ k_ ≠ gb494 ∧ k_ ≠ gb495 ∧ k_ ≠ gb496) ho0 (fun k_ hk_ => ⟨(.inr (Nat.le_trans (below_size qz_) hk_)), (Kd.freshB (bm_ BK494.out) k_ hk_), (Kd.freshB (bm_ BK495.out) k_ hk_), (Kd.freshB (bm_ BK496.out) k_ hk_)⟩)) (below_size qz_))
      replace BK494 := bb_ BK494 hb
      replace BK495 := bb_ BK495 hb
      replace BK496 := bb_ BK496 hb
      replace HB := hs_ hb
      (try clear hb)
      (try clear ho0)
      obtain ⟨Ao57, co57, eo57⟩ := Kd.V_slice HO509.out
      (first | subst eo57 | (injection eo57 with f1_ f2_ f3_; have f4_ := f1_.symm; have f5_ := f3_.symm; clear f1_ f2_ f3_; subst f4_; subst f5_))
      refine hK.out _ _ ⟨bC_ BK494.out 0, bC_ BK494.out 1, bC_ BK494.out 2⟩ (fun hHeld => ?_)
      clear hK K
      refine norm_ (a' := ?_) ?_ ?_
      rotate_left
      ·show Act.put _ (some 51) _ = _
       simp only [Act.put, sp_, i64_w, i32_w]
       rfl
      refine one_ (i := 7) (N := none) #[true, true, true, true, true, true, true, true] rfl rfl (one_of HT_.out (by kernel_rfl)) (by decide) (fun K hK => ?_)
      have hs56 : w55.cell? ⟨gb496, 0, none⟩ = some (.bool false) := (blk_cell BK496.out 0).trans rfl
      have hfs56 := blk_frozen BK496.out 0
      have hns56_0 := NB494_496.out
      have hns56_1 := NB495_496.out
      have hms56_0 := NB496_494.out
      have hms56_1 := NB496_495.out
      have hs58 : w55.cell? ⟨gb496, 1, none⟩ = some (.slice none 0 0) := (blk_cell BK496.out 1).trans rfl
      have hfs58 := blk_frozen BK496.out 1
      have hns58_0 := NB494_496.out
      have hns58_1 := NB495_496.out
      have hms58_0 := NB496_494.out
      have hms58_1 := NB496_495.out
      have hs59 : w55.cell? ⟨gb496, 2, none⟩ = some (.int .i64 0) := (blk_cell BK496.out 2).trans rfl
      have hfs59 := blk_frozen BK496.out 2
      have hns59_0 := NB494_496.out
      have hns59_1 := NB495_496.out
      have hms59_0 := NB496_494.out
      have hms59_1 := NB496_495.out
      refine skip_ (w1 := ?_) (by rfl) rfl ?_ ?_
      rotate_left
      ·go_simp
       rfl
      refine hK.out _ _ ⟨((cell_far (p := ⟨gb496, _, none⟩) NB494_496.out _).trans (((cell_far (p := ⟨gb496, _, none⟩) NB494_496.out _).trans (((cell_far (p := ⟨gb496, _, none⟩) NB494_496.out _).trans (hHeld.1)))))), ((cell_far (p := ⟨gb496, _, none⟩) NB494_496.out _).trans (((cell_far (p := ⟨gb496, _, none⟩) NB494_496.out _).trans (((cell_far (p := ⟨gb496, _, none⟩) NB494_496.out _).trans (hHeld.2.1)))))), ((cell_far (p := ⟨gb496, _, none⟩) NB494_496.out _).trans (((cell_far (p := ⟨gb496, _, none⟩) NB494_496.out _).trans (((cell_far (p := ⟨gb496, _, none⟩) NB494_496.out _).trans (hHeld.2.2))))))⟩ (fun hHeld => ?_)
      clear hK K
      refine done_ (done_of HT_.out (by kernel_rfl)) ?_
      try go_wp2
      refine bodyPost_ret (results_cell_row rfl _ _ gb496 107 #[.bool t506, .slice Ao57 t507.length co57, .int .i64 t510] (0, 0) _ rfl (by (with_reducible repeat first | apply bN_ | apply bD_ | apply bA_); refine blk_put (cs := #[.bool t506, .slice Ao57 t507.length co57, .int .i64 0]) ?_ 2 _ rfl; refine blk_put (cs := #[.bool t506, .slice none 0 0, .int .i64 0]) ?_ 1 _ rfl; refine blk_put (cs := #[.bool false, .slice none 0 0, .int .i64 0]) ?_ 0 _ rfl; exact bm_ BK496.out) Tryz.underlying107 rfl (by kernel_rfl)) rfl ?_
      exact ⟨_, by first | rfl | (simp [errW_none, errW_some] <;> rfl) | (simp [*, errW_none, errW_some] <;> rfl), by (with_reducible repeat (first | apply Kd.V_alloc | apply Kd.V_drewN | apply Kd.V_drew)); exact Kd.V_mono (Kd.V_far (p := ⟨gb496, 2, none⟩) (Kd.V_far (p := ⟨gb496, 1, none⟩) (Kd.V_far (p := ⟨gb496, 0, none⟩) (Kd.V_mono HO509.out (fun k_ hk => (⟨hk, hk.2.2.2⟩ : _ ∧ k_ ≠ gb496))) (fun _ hk => hk.2) (.bool t506)) (fun _ hk => hk.2) (.slice Ao57 t507.length co57)) (fun _ hk => hk.2) (.int .i64 t510)) (fun _ hk => hk.1.1), qz_⟩
     ·rw [if_neg c38] at H
      have c38b0 : (a0_0 == a1_0) = false := by simpa using c38
      (try (have c38b1 : decide (a0_0 = a1_0) = false := by simpa using c38))
      (try (have c38b2 : (a0_0 == a1_0) = false := by simpa using c38))
      (try (have c38b3 : ¬ (a0_0 = a1_0) := by simpa using c38))
      clear c38
      obtain ⟨t511, A60, H⟩ := bs_ H
      try dsimp -simprocs only at H
      obtain ⟨c61, H⟩ := ic_ H
      have c61b0 : decide (0 ≤ t511) = true := decide_eq_true c61
      clear c61
      obtain ⟨t512, A62, H⟩ := bs_ H
      try dsimp -simprocs only at H
      obtain ⟨⟨t515, t516, t519⟩, A63, H⟩ := bs_ H
      try dsimp -simprocs only at H
      simp only [Option.some.injEq, Prod.mk.injEq] at H
      obtain ⟨rfl, rfl, rfl⟩ := H
      have hnb64 := NB494_495.out
      have hnc64 := NB495_494.out
      have hnb65 := NB494_496.out
      have hnc65 := NB496_494.out
      have hcz66 := bc3_ BK494.out
      have hfz66 := bf3_ BK494.out
      try go_wp2_with (first | ((with_reducible refine gate_callee (f := 89) rfl ?_); refine goesL_ (some 32) rfl rfl Tryz.func89 (by kernel_rfl) rfl #[.slice A0_1 l0_1.length c0_1, .int .i64 (wrap64 (a0_2 - x5_22))] rfl (am_ rfl) ?_; (with_reducible refine (cutplaneref01_Up.calls kj22 _ _ l0_1 (wrap64 (a0_2 - x5_22)) t497 _ ?side1 ?side2 A36.out).mono ?_); (case side1 => repeat (first | exact (Kd.V_reads' HO_495001.out).2.2 | (with_reducible refine Kd.C_alloc ?_ _) | (with_reducible refine Kd.C_drewN ?_ _) | (with_reducible refine Kd.C_drew ?_))); (case side2 => exact (Kd.V_reads' HO_495001.out).2.1); rintro e w67 ⟨v498, rfl, ho0, hb⟩; refine ⟨_, rfl, ?_⟩; replace HO_495001 := A0_ (Kd.V_below (by exact vm_ HO_495001.out) hb); replace HO_496001 := A0_ (Kd.V_below (by exact vm_ HO_496001.out) hb); have HO499 := A0_ (Kd.V_lower (Kd.V_mono (ok' := fun k_ => ((P0_1_ k_ ∨ P1_1_ k_) ∨ w.heap.size ≤ k_) ∧ k_ ≠ gb494 ∧ k_ ≠ gb495 ∧ k_ ≠ gb496) ho0 (fun k_ hk_ => ⟨(.inr (Nat.le_trans (below_size qz_) hk_)), (Kd.freshB (bm_ BK494.out) k_ hk_), (Kd.freshB (bm_ BK495.out) k_ hk_), (Kd.freshB (bm_ BK496.out) k_ hk_)⟩)) (below_size qz_)); replace BK494 := bb_ BK494 hb; replace BK495 := bb_ BK495 hb; replace BK496 := bb_ BK496 hb; replace HB := hs_ hb; (try clear hb); (try clear ho0); have hnb68 := NB495_496.out; have hnc68 := NB496_495.out; have hcz69 := bc3_ BK495.out; have hfz69 := bf3_ BK495.out) | ((with_reducible refine gate_callee (f := 89) rfl ?_); refine goesL_ (some 39) rfl rfl Tryz.func89 (by kernel_rfl) rfl #[.slice A1_1 l1_1.length c1_1, .int .i64 (wrap64 (a1_2 - x5_22))] rfl (am_ rfl) ?_; (with_reducible refine (cutplaneref01_Up.calls kj22 _ _ l1_1 (wrap64 (a1_2 - x5_22)) t500 _ ?side1 ?side2 A37.out).mono ?_); (case side1 => repeat (first | exact (Kd.V_reads' HO_496001.out).2.2 | (with_reducible refine Kd.C_alloc ?_ _) | (with_reducible refine Kd.C_drewN ?_ _) | (with_reducible refine Kd.C_drew ?_))); (case side2 => exact (Kd.V_reads' HO_496001.out).2.1); rintro e w70 ⟨v501, rfl, ho0, hb⟩; refine ⟨_, rfl, ?_⟩; replace HO_495001 := A0_ (Kd.V_below (by exact vm_ HO_495001.out) hb); replace HO_496001 := A0_ (Kd.V_below (by exact vm_ HO_496001.out) hb); replace HO499 := A0_ (Kd.V_below (by exact vm_ HO499.out) hb); have HO502 := A0_ (Kd.V_lower (Kd.V_mono (ok' := fun k_ => ((P0_1_ k_ ∨ P1_1_ k_) ∨ w.heap.size ≤ k_) ∧ k_ ≠ gb494 ∧ k_ ≠ gb495 ∧ k_ ≠ gb496) ho0 (fun k_ hk_ => ⟨(.inr (Nat.le_trans (below_size qz_) hk_)), (Kd.freshB (bm_ BK494.out) k_ hk_), (Kd.freshB (bm_ BK495.out) k_ hk_), (Kd.freshB (bm_ BK496.out) k_ hk_)⟩)) (below_size qz_)); replace BK494 := bb_ BK494 hb; replace BK495 := bb_ BK495 hb; replace BK496 := bb_ BK496 hb; replace HB := hs_ hb; (try clear hb); (try clear ho0); have hcz71 := bc3_ BK494.out; have hfz71 := bf3_ BK494.out; have hcz72 := bc3_ BK495.out; have hfz72 := bf3_ BK495.out; obtain ⟨Ao73, co73, eo73⟩ := Kd.V_slice HO499.out; subst eo73; obtain ⟨Ao74, co74, eo74⟩ := Kd.V_slice HO502.out; subst eo74) | ((with_reducible refine gate_callee (f := 91) rfl ?_); refine goesL_ (some 54) rfl rfl Tryz.func91 (by kernel_rfl) rfl #[.slice Ao73 t497.length co73, .slice Ao74 t500.length co74] rfl (am_ rfl) ?_; (with_reducible refine (cutplaneref01_Cmp.calls kj22 _ _ t497 _ _ t500 t511 _ ?side1 ?side2 ?side3 ?side4 A60.out).mono ?_); (case side1 => repeat (first | exact (Kd.V_reads' HO499.out).2.2 | (with_reducible refine Kd.C_alloc ?_ _) | (with_reducible refine Kd.C_drewN ?_ _) | (with_reducible refine Kd.C_drew ?_))); (case side2 => exact (Kd.V_reads' HO499.out).2.1); (case side3 => repeat (first | exact (Kd.V_reads' HO502.out).2.2 | (with_reducible refine Kd.C_alloc ?_ _) | (with_reducible refine Kd.C_drewN ?_ _) | (with_reducible refine Kd.C_drew ?_))); (case side4 => exact (Kd.V_reads' HO502.out).2.1); rintro e w' ⟨rfl, ⟨nd, rfl⟩⟩; refine ⟨_, rfl, ?_⟩; (try (rw [drewN_self w70]; generalize hq_ : World.drewN w70 _ = w70; have n0_ : Aside0 (Kd.V (Kd.int .u32) 132 w70 w.heap.size (fun k_ => ((P0_1_ k_ ∨ P1_1_ k_) ∨ w.heap.size ≤ k_) ∧ k_ ≠ gb494 ∧ k_ ≠ gb495 ∧ k_ ≠ gb496) (.slice Ao73 t497.length co73) t497) := ⟨by rw [← hq_]; exact (by exact vm_ HO499.out)⟩; have n1_ : Aside0 (Kd.V (Kd.int .u32) 132 w70 w.heap.size (fun k_ => ((P0_1_ k_ ∨ P1_1_ k_) ∨ w.heap.size ≤ k_) ∧ k_ ≠ gb494 ∧ k_ ≠ gb495 ∧ k_ ≠ gb496) (.slice Ao74 t500.length co74) t500) := ⟨by rw [← hq_]; exact (by exact vm_ HO502.out)⟩; have n2_ : Aside0 (Kd.V (Kd.int .u32) 132 w70 w.heap.size (fun k_ => ((P0_1_ k_ ∨ P1_1_ k_) ∨ w.heap.size ≤ k_) ∧ k_ ≠ gb494 ∧ k_ ≠ gb495 ∧ k_ ≠ gb496) (.slice A0_1 l0_1.length c0_1) l0_1) := ⟨by rw [← hq_]; exact (by exact vm_ HO_495001.out)⟩; have n3_ : Aside0 (Kd.V (Kd.int .u32) 132 w70 w.heap.size (fun k_ => ((P0_1_ k_ ∨ P1_1_ k_) ∨ w.heap.size ≤ k_) ∧ k_ ≠ gb494 ∧ k_ ≠ gb495 ∧ k_ ≠ gb496) (.slice A1_1 l1_1.length c1_1) l1_1) := ⟨by rw [← hq_]; exact (by exact vm_ HO_496001.out)⟩; have n4_ : Aside0 (w70.heap[gb494]? = some (.cells #[.bool a0_0, .slice A0_1 l0_1.length c0_1, .int .i64 a0_2] 107 (0, 0))) := ⟨by rw [← hq_]; exact (bm_ BK494.out)⟩; have n5_ : Aside0 (w70.heap[gb495]? = some (.cells #[.bool a1_0, .slice A1_1 l1_1.length c1_1, .int .i64 a1_2] 107 (0, 0))) := ⟨by rw [← hq_]; exact (bm_ BK495.out)⟩; have n6_ : Aside0 (w70.heap[gb496]? = some (.cells #[.bool false, .slice none 0 0, .int .i64 0] 107 (0, 0))) := ⟨by rw [← hq_]; exact (bm_ BK496.out)⟩; have n7_ : Aside0 (Below w.heap.size w w70) := ⟨by rw [← hq_]; exact qz_⟩; clear HO499 HO502 HO_495001 HO_496001 BK494 BK495 BK496 HB hq_; have HO499 := n0_; have HO502 := n1_; have HO_495001 := n2_; have HO_496001 := n3_; have BK494 := n4_; have BK495 := n5_; have BK496 := n6_; have HB := n7_; clear n0_ n1_ n2_ n3_ n4_ n5_ n6_ n7_))))
      replace HO_495001 := A0_ (Kd.V_drew HO_495001.out)
      replace HO_496001 := A0_ (Kd.V_drew HO_496001.out)
      replace HO499 := A0_ (Kd.V_drew HO499.out)
      replace HO502 := A0_ (Kd.V_drew HO502.out)
      replace BK494 := A0_ (blk_drew BK494.out)
      replace BK495 := A0_ (blk_drew BK495.out)
      replace BK496 := A0_ (blk_drew BK496.out)
      replace HB := A0_ (below_drew1 HB.out)
      refine start_ (n := 8) (S := fun w' => w'.cell? ⟨gb494, 0, none⟩ = some (.bool a0_0) ∧ w'.cell? ⟨gb494, 1, none⟩ = some (.slice A0_1 l0_1.length c0_1) ∧ w'.cell? ⟨gb494, 2, none⟩ = some (.int .i64 a0_2)) (ds := []) #[false, false, false, false, false, false, false, false] (by kernel_rfl) rfl rfl ⟨bC_ BK494.out 0, bC_ BK494.out 1, bC_ BK494.out 2⟩ (fun hHeld => ?_); refine with_tabW cutplaneref02_Add.tab13 cutplaneref02_Add.bits13 (fun HT_ HW_ => ?_)
      generalize w70.drew = w75 at HO_495001 HO_496001 HO499 HO502 BK494 BK495 BK496 HB hHeld ⊢
      refine pure_ (i := 0) (N := some 56) (v := ?_) (a' := ?_) #[true, false, false, false, false, false, false, false] rfl rfl (any_of HT_.out (by kernel_rfl)) (fun _ _ _ h => h) (Or.inl ⟨by rfl, ?_⟩) ?_ ?_
      rotate_left
      ·intro w'
       go_simp
       with_reducible rfl
      rotate_left
      ·simp only [Act.put, sp_, i64_w, i32_w]
       rfl
      refine pure_ (i := 2) (N := some 58) (v := ?_) (a' := ?_) #[true, false, true, false, false, false, false, false] rfl rfl (any_of HT_.out (by kernel_rfl)) (fun _ _ _ h => h) (Or.inl ⟨by rfl, ?_⟩) ?_ ?_
      rotate_left
      ·intro w'
       go_simp
       with_reducible rfl
      rotate_left
      ·simp only [Act.put, sp_, i64_w, i32_w]
       rfl
      refine pure_ (i := 3) (N := some 59) (v := ?_) (a' := ?_) #[true, false, true, true, false, false, false, false] rfl rfl (any_of HT_.out (by kernel_rfl)) (fun _ _ _ h => h) (Or.inl ⟨by rfl, ?_⟩) ?_ ?_
      rotate_left
      ·intro w'
       go_simp
       with_reducible rfl
      rotate_left
      ·simp only [Act.put, sp_, i64_w, i32_w]
       rfl
      refine pure_ (i := 5) (N := some 61) (v := ?_) (a' := ?_) #[true, false, true, true, false, true, false, false] rfl rfl (any_of HT_.out (by kernel_rfl)) (fun _ _ _ h => h) (Or.inl ⟨by rfl, ?_⟩) ?_ ?_
      rotate_left
      ·intro w'
       go_simp
       with_reducible rfl
      rotate_left
      ·simp only [Act.put, sp_, i64_w, i32_w]
       rfl
      refine take_ (i := 1) (N := some 57) (v := ?_) (a' := ?_) #[true, true, true, true, false, true, false, false] rfl rfl (take_ofW HT_.out HW_.out (by kernel_rfl)) (fun _ _ _ h => h) (Or.inl ⟨by rfl, ?_⟩) hHeld ?_ ?_
      rotate_left
      ·rintro w' ⟨s0, s1, s2⟩
       go_simp
       with_reducible rfl
      rotate_left
      ·simp only [Act.put, sp_, i64_w, i32_w]
       rfl
      refine one_ (i := 4) (N := some 60) #[true, true, true, true, true, true, false, false] rfl rfl (one_of HT_.out (by kernel_rfl)) (by decide) (fun K hK => ?_)
      refine goes_ Tryz.func92 (by kernel_rfl) rfl #[.slice Ao73 t497.length co73, .slice Ao74 t500.length co74] (by rfl) rfl rfl (am_ rfl) ?_
      with_reducible refine (cutplaneref01_Sub.calls kj22 _ _ t497 _ _ t500 t512 _ ?side1 ?side2 ?side3 ?side4 A62.out).mono ?_
      (case side1 => repeat (first | exact (Kd.V_reads' HO499.out).2.2 | (with_reducible refine Kd.C_alloc ?_ _) | (with_reducible refine Kd.C_drewN ?_ _) | (with_reducible refine Kd.C_drew ?_)))
      (case side2 => exact (Kd.V_reads' HO499.out).2.1)
      (case side3 => repeat (first | exact (Kd.V_reads' HO502.out).2.2 | (with_reducible refine Kd.C_alloc ?_ _) | (with_reducible refine Kd.C_drewN ?_ _) | (with_reducible refine Kd.C_drew ?_)))
      (case side4 => exact (Kd.V_reads' HO502.out).2.1)
      rintro e w76 ⟨v513, rfl, ho0, hb⟩
      refine ⟨_, rfl, ?_⟩
      replace HO_495001 := A0_ (Kd.V_below (by exact vm_ HO_495001.out) hb)
      replace HO_496001 := A0_ (Kd.V_below (by exact vm_ HO_496001.out) hb)
      replace HO499 := A0_ (Kd.V_below (by exact vm_ HO499.out) hb)
      replace HO502 := A0_ (Kd.V_below (by exact vm_ HO502.out) hb)
      have HO514 := A0_ (Kd.V_lower (Kd.V_mono (ok' := fun k_ => ((P0_1_ k_ ∨ P1_1_ k_) ∨ w.heap.size ≤ k_) ∧ k_ ≠ gb494 ∧ k_ ≠ gb495 ∧ k_ ≠ gb496) ho0 (fun k_ hk_ => ⟨(.inr (Nat.le_trans (below_size qz_) hk_)), (Kd.freshB (bm_ BK494.out) k_ hk_), (Kd.freshB (bm_ BK495.out) k_ hk_), (Kd.freshB (bm_ BK496.out) k_ hk_)⟩)) (below_size qz_))
      replace BK494 := bb_ BK494 hb
      replace BK495 := bb_ BK495 hb
      replace BK496 := bb_ BK496 hb
      replace HB := hs_ hb
      (try clear hb)
      (try clear ho0)
      obtain ⟨Ao77, co77, eo77⟩ := Kd.V_slice HO514.out
      (first | subst eo77 | (injection eo77 with f1_ f2_ f3_; have f4_ := f1_.symm; have f5_ := f3_.symm; clear f1_ f2_ f3_; subst f4_; subst f5_))
      refine hK.out _ _ ⟨bC_ BK494.out 0, bC_ BK494.out 1, bC_ BK494.out 2⟩ (fun hHeld => ?_)
      clear hK K
      refine norm_ (a' := ?_) ?_ ?_
      rotate_left
      ·show Act.put _ (some 60) _ = _
       simp only [Act.put, sp_, i64_w, i32_w]
       rfl
      refine one_ (i := 6) (N := some 62) #[true, true, true, true, true, true, true, false] rfl rfl (one_of HT_.out (by kernel_rfl)) (by decide) (fun K hK => ?_)
      refine goes_ Tryz.func86 (by kernel_rfl) rfl #[.bool a0_0, .slice Ao77 t512.length co77, .int .i64 x5_22] (by rfl) rfl rfl (am_ rfl) ?_
      with_reducible refine (cutplaneref02_Form.calls kj22 a0_0 _ _ t512 x5_22 t515 t516 t519 _ ?side1 ?side2 A63.out).mono ?_
      (case side1 => repeat (first | exact (Kd.V_reads' HO514.out).2.2 | (with_reducible refine Kd.C_alloc ?_ _) | (with_reducible refine Kd.C_drewN ?_ _) | (with_reducible refine Kd.C_drew ?_)))
      (case side2 => exact (Kd.V_reads' HO514.out).2.1)
      rintro e w78 ⟨v517, rfl, ho0, hb⟩
      refine ⟨_, rfl, ?_⟩
      replace HO_495001 := A0_ (Kd.V_below (by exact vm_ HO_495001.out) hb)
      replace HO_496001 := A0_ (Kd.V_below (by exact vm_ HO_496001.out) hb)
      replace HO499 := A0_ (Kd.V_below (by exact vm_ HO499.out) hb)
      replace HO502 := A0_ (Kd.V_below (by exact vm_ HO502.out) hb)
      replace HO514 := A0_ (Kd.V_below (by exact vm_ HO514.out) hb)
      have HO518 := A0_ (Kd.V_lower (Kd.V_mono (ok' := fun k_ => ((P0_1_ k_ ∨ P1_1_ k_) ∨ w.heap.size ≤ k_) ∧ k_ ≠ gb494 ∧ k_ ≠ gb495 ∧ k_ ≠ gb496) ho0 (fun k_ hk_ => ⟨(.inr (Nat.le_trans (below_size qz_) hk_)), (Kd.freshB (bm_ BK494.out) k_ hk_), (Kd.freshB (bm_ BK495.out) k_ hk_), (Kd.freshB (bm_ BK496.out) k_ hk_)⟩)) (below_size qz_))
      replace BK494 := bb_ BK494 hb
      replace BK495 := bb_ BK495 hb
      replace BK496 := bb_ BK496 hb
      replace HB := hs_ hb
      (try clear hb)
      (try clear ho0)
      obtain ⟨Ao80, co80, eo80⟩ := Kd.V_slice HO518.out
      (first | subst eo80 | (injection eo80 with f1_ f2_ f3_; have f4_ := f1_.symm; have f5_ := f3_.symm; clear f1_ f2_ f3_; subst f4_; subst f5_))
      refine hK.out _ _ ⟨bC_ BK494.out 0, bC_ BK494.out 1, bC_ BK494.out 2⟩ (fun hHeld => ?_)
      clear hK K
      refine norm_ (a' := ?_) ?_ ?_
      rotate_left
      ·show Act.put _ (some 62) _ = _
       simp only [Act.put, sp_, i64_w, i32_w]
       rfl
      refine one_ (i := 7) (N := none) #[true, true, true, true, true, true, true, true] rfl rfl (one_of HT_.out (by kernel_rfl)) (by decide) (fun K hK => ?_)
      have hs79 : w78.cell? ⟨gb496, 0, none⟩ = some (.bool false) := (blk_cell BK496.out 0).trans rfl
      have hfs79 := blk_frozen BK496.out 0
      have hns79_0 := NB494_496.out
      have hns79_1 := NB495_496.out
      have hms79_0 := NB496_494.out
      have hms79_1 := NB496_495.out
      have hs81 : w78.cell? ⟨gb496, 1, none⟩ = some (.slice none 0 0) := (blk_cell BK496.out 1).trans rfl
      have hfs81 := blk_frozen BK496.out 1
      have hns81_0 := NB494_496.out
      have hns81_1 := NB495_496.out
      have hms81_0 := NB496_494.out
      have hms81_1 := NB496_495.out
      have hs82 : w78.cell? ⟨gb496, 2, none⟩ = some (.int .i64 0) := (blk_cell BK496.out 2).trans rfl
      have hfs82 := blk_frozen BK496.out 2
      have hns82_0 := NB494_496.out
      have hns82_1 := NB495_496.out
      have hms82_0 := NB496_494.out
      have hms82_1 := NB496_495.out
      refine skip_ (w1 := ?_) (by rfl) rfl ?_ ?_
      rotate_left
      ·go_simp
       rfl
      refine hK.out _ _ ⟨((cell_far (p := ⟨gb496, _, none⟩) NB494_496.out _).trans (((cell_far (p := ⟨gb496, _, none⟩) NB494_496.out _).trans (((cell_far (p := ⟨gb496, _, none⟩) NB494_496.out _).trans (hHeld.1)))))), ((cell_far (p := ⟨gb496, _, none⟩) NB494_496.out _).trans (((cell_far (p := ⟨gb496, _, none⟩) NB494_496.out _).trans (((cell_far (p := ⟨gb496, _, none⟩) NB494_496.out _).trans (hHeld.2.1)))))), ((cell_far (p := ⟨gb496, _, none⟩) NB494_496.out _).trans (((cell_far (p := ⟨gb496, _, none⟩) NB494_496.out _).trans (((cell_far (p := ⟨gb496, _, none⟩) NB494_496.out _).trans (hHeld.2.2))))))⟩ (fun hHeld => ?_)
      clear hK K
      refine done_ (done_of HT_.out (by kernel_rfl)) ?_
      try go_wp2
      refine bodyPost_ret (results_cell_row rfl _ _ gb496 107 #[.bool t515, .slice Ao80 t516.length co80, .int .i64 t519] (0, 0) _ rfl (by (with_reducible repeat first | apply bN_ | apply bD_ | apply bA_); refine blk_put (cs := #[.bool t515, .slice Ao80 t516.length co80, .int .i64 0]) ?_ 2 _ rfl; refine blk_put (cs := #[.bool t515, .slice none 0 0, .int .i64 0]) ?_ 1 _ rfl; refine blk_put (cs := #[.bool false, .slice none 0 0, .int .i64 0]) ?_ 0 _ rfl; exact bm_ BK496.out) Tryz.underlying107 rfl (by kernel_rfl)) rfl ?_
      exact ⟨_, by first | rfl | (simp [errW_none, errW_some] <;> rfl) | (simp [*, errW_none, errW_some] <;> rfl), by (with_reducible repeat (first | apply Kd.V_alloc | apply Kd.V_drewN | apply Kd.V_drew)); exact Kd.V_mono (Kd.V_far (p := ⟨gb496, 2, none⟩) (Kd.V_far (p := ⟨gb496, 1, none⟩) (Kd.V_far (p := ⟨gb496, 0, none⟩) (Kd.V_mono HO518.out (fun k_ hk => (⟨hk, hk.2.2.2⟩ : _ ∧ k_ ≠ gb496))) (fun _ hk => hk.2) (.bool t515)) (fun _ hk => hk.2) (.slice Ao80 t516.length co80)) (fun _ hk => hk.2) (.int .i64 t519)) (fun _ hk => hk.1.1), qz_⟩
end Go.Proofs.YtlgapmhjaaajfaaGreat.PA
end

section
namespace Go.Proofs.YtlgapmhjaaajfaaGreat.PA
open Go.RowKit Go.Proofs.YtlgapmhjaaajfaaGreatW.PrintWords Go.Proofs.YtlgapmhjaaajfaaGreatW.PrintLast Go.Proofs.YtlgapmhjaaajfaaGreatW.PrintMore
attribute [local go_sem] max2_int min2_int max_two min_two max_three min_three max_four min_four   -- for this text's walks alone
set_option linter.unusedVariables false
set_option linter.unusedSimpArgs false
def cutplaneref05_Nothing.f (a0 : Int) (a1 : Int) : Option (Int) := (cutplaneref03_Signed.f a0 0 (a1 == 5)).bind fun t715 => (some t715)
theorem cutplaneref05_Nothing.calls (a0 : Int) (a1 : Int) (r : Int) (w : World) (h : cutplaneref05_Nothing.f a0 a1 = some r) :
  Calls Tryz.prog 71 #[.int .u8 a0, .int .u8 a1] w fun e w' => e = .returned (.int .u64 r) ∧ Drawn0 w w' := by
 have H := h
 clear h
 unfold cutplaneref05_Nothing.f at H
 obtain ⟨t715, A3, H⟩ := bs_ H
 try dsimp -simprocs only at H
 obtain rfl := Option.some.inj H
 go_enter Tryz.func71, Tryz.ntmps71
 go_wp2_with (first | ((with_reducible refine gate_callee (f := 53) rfl ?_); refine goesL_ (some 8) rfl rfl Tryz.func53 (by kernel_rfl) rfl #[.int .u8 a0, .int .u64 0, .bool (a1 == 5)] rfl (am_ rfl) ?_; (with_reducible refine (cutplaneref03_Signed.calls a0 0 (a1 == 5) t715 _ A3.out).mono ?_); rintro e w' ⟨rfl, ⟨nd, rfl⟩⟩; refine ⟨_, rfl, ?_⟩))
 go_ret
 exact ⟨by first | rfl | (simp; done) | (simp [*]; done), by repeat (first | exact Drawn0.refl _ | apply Drawn0.step)⟩
end Go.Proofs.YtlgapmhjaaajfaaGreat.PA
end

section
namespace Go.Proofs.YtlgapmhjaaajfaaGreat.PA
open Go.RowKit Go.Proofs.YtlgapmhjaaajfaaGreatW.PrintWords Go.Proofs.YtlgapmhjaaajfaaGreatW.PrintLast Go.Proofs.YtlgapmhjaaajfaaGreatW.PrintMore
attribute [local go_sem] max2_int min2_int max_two min_two max_three min_three max_four min_four   -- for this text's walks alone
set_option linter.unusedVariables false
set_option linter.unusedSimpArgs false
mutual
def cutplaneref05_Add.j0 : Nat → Int → Int → Int → Int → Bool → Option (Int × Int)
 | 0, _, _, _, _, _ => none
 | k + 1, x0, x1, x2, x3, x28 => if x28 = true then (none) else ((cutplaneref05_inf.f k x0 x2).bind fun t720 => (if t720 = true then (none) else ((cutplaneref05_inf.f k x0 x3).bind fun t721 => (if t721 = true then (none) else ((cutplaneref05_zero.f k x0 x2).bind fun t722 => (if t722 = true then (cutplaneref05_Add.j1 k x0 x1 x2 x3 (x2 == x3)) else (cutplaneref05_Add.j1 k x0 x1 x2 x3 false)))))))
def cutplaneref05_Add.j1 : Nat → Int → Int → Int → Int → Bool → Option (Int × Int)
 | 0, _, _, _, _, _ => none
 | k + 1, x0, x1, x2, x3, x50 => if x50 = true then (some (x2, 0)) else ((cutplaneref03_Value.f k x0 x2).bind fun bt723 => ((cutplaneref03_Value.f k x0 x3).bind fun bt728 => ((cutplaneref02_Add.f k bt723.1 bt723.2.1 bt723.2.2 bt728.1 bt728.2.1 bt728.2.2).bind fun bt733 => ((cutplaneref02_Sign.f bt733.1 bt733.2.1 bt733.2.2).bind fun t739 => (if t739 = 0 then ((cutplaneref05_Nothing.f x0 x1).bind fun t740 => (some (t740, 0))) else ((cutplaneref04_Round.f k x0 x1 bt733.1 bt733.2.1 bt733.2.2).bind fun bt741 => (some (bt741.1, bt741.2))))))))
end
def cutplaneref05_Add.f (k : Nat) (a0 : Int) (a1 : Int) (a2 : Int) (a3 : Int) : Option (Int × Int) := (cutplaneref05_nan.f k a0 a2).bind fun t716 => (if t716 = true then (none) else ((cutplaneref05_nan.f k a0 a3).bind fun t717 => (if t717 = true then (none) else ((cutplaneref05_inf.f k a0 a2).bind fun t718 => (if t718 = true then ((cutplaneref05_inf.f k a0 a3).bind fun t719 => (cutplaneref05_Add.j0 k a0 a1 a2 a3 t719)) else (cutplaneref05_Add.j0 k a0 a1 a2 a3 false))))))
theorem cutplaneref05_Add.mono_l : ∀ k, (∀ y0 y1 y2 y3 y4, LeO (cutplaneref05_Add.j0 k y0 y1 y2 y3 y4) (cutplaneref05_Add.j0 (k + 1) y0 y1 y2 y3 y4)) ∧ (∀ y0 y1 y2 y3 y4, LeO (cutplaneref05_Add.j1 k y0 y1 y2 y3 y4) (cutplaneref05_Add.j1 (k + 1) y0 y1 y2 y3 y4))
 | 0 => ⟨fun _ _ _ _ _ r h => by simp [cutplaneref05_Add.j0] at h, fun _ _ _ _ _ r h => by simp [cutplaneref05_Add.j1] at h⟩
 | k + 1 => by
  obtain ⟨ih0, ih1⟩ := cutplaneref05_Add.mono_l k
  refine ⟨?_, ?_⟩
  ·intro y0 y1 y2 y3 y4
   unfold cutplaneref05_Add.j0
   repeat' first
   | (with_reducible exact ih0 _ _ _ _ _)
   | (with_reducible exact ih1 _ _ _ _ _)
   | (with_reducible exact cutplaneref02_Add.mono _ _ _ _ _ _ _)
   | (with_reducible exact cutplaneref03_Value.mono _ _ _)
   | (with_reducible exact cutplaneref04_Round.mono _ _ _ _ _ _)
   | (with_reducible exact cutplaneref05_inf.mono _ _ _)
   | (with_reducible exact cutplaneref05_nan.mono _ _ _)
   | (with_reducible exact cutplaneref05_zero.mono _ _ _)
   | (with_reducible exact LeO.refl _)
   | (with_reducible exact LeO.none _)
   | (with_reducible refine LeO.ite ?_ ?_)
   | (with_reducible refine LeO.bind ?_ (fun _ => ?_))
   | exact ih0 _ _ _ _ _
   | exact ih1 _ _ _ _ _
   | exact cutplaneref02_Add.mono _ _ _ _ _ _ _
   | exact cutplaneref03_Value.mono _ _ _
   | exact cutplaneref04_Round.mono _ _ _ _ _ _
   | exact cutplaneref05_inf.mono _ _ _
   | exact cutplaneref05_nan.mono _ _ _
   | exact cutplaneref05_zero.mono _ _ _
   | exact LeO.none _
   | refine LeO.ite ?_ ?_
   | refine LeO.bind ?_ (fun _ => ?_)
  ·intro y0 y1 y2 y3 y4
   unfold cutplaneref05_Add.j1
   repeat' first
   | (with_reducible exact ih0 _ _ _ _ _)
   | (with_reducible exact ih1 _ _ _ _ _)
   | (with_reducible exact cutplaneref02_Add.mono _ _ _ _ _ _ _)
   | (with_reducible exact cutplaneref03_Value.mono _ _ _)
   | (with_reducible exact cutplaneref04_Round.mono _ _ _ _ _ _)
   | (with_reducible exact cutplaneref05_inf.mono _ _ _)
   | (with_reducible exact cutplaneref05_nan.mono _ _ _)
   | (with_reducible exact cutplaneref05_zero.mono _ _ _)
   | (with_reducible exact LeO.refl _)
   | (with_reducible exact LeO.none _)
   | (with_reducible refine LeO.ite ?_ ?_)
   | (with_reducible refine LeO.bind ?_ (fun _ => ?_))
   | exact ih0 _ _ _ _ _
   | exact ih1 _ _ _ _ _
   | exact cutplaneref02_Add.mono _ _ _ _ _ _ _
   | exact cutplaneref03_Value.mono _ _ _
   | exact cutplaneref04_Round.mono _ _ _ _ _ _
   | exact cutplaneref05_inf.mono _ _ _
   | exact cutplaneref05_nan.mono _ _ _
   | exact cutplaneref05_zero.mono _ _ _
   | exact LeO.none _
   | refine LeO.ite ?_ ?_
   | refine LeO.bind ?_ (fun _ => ?_)
theorem cutplaneref05_Add.mono : ∀ a0 a1 a2 a3 k, LeO (cutplaneref05_Add.f k a0 a1 a2 a3) (cutplaneref05_Add.f (k + 1) a0 a1 a2 a3) := by
 intro a0 a1 a2 a3 k
 obtain ⟨ih0, ih1⟩ := cutplaneref05_Add.mono_l k
 unfold cutplaneref05_Add.f
 repeat' first
   | (with_reducible exact ih0 _ _ _ _ _)
   | (with_reducible exact ih1 _ _ _ _ _)
   | (with_reducible exact cutplaneref02_Add.mono _ _ _ _ _ _ _)
   | (with_reducible exact cutplaneref03_Value.mono _ _ _)
   | (with_reducible exact cutplaneref04_Round.mono _ _ _ _ _ _)
   | (with_reducible exact cutplaneref05_inf.mono _ _ _)
   | (with_reducible exact cutplaneref05_nan.mono _ _ _)
   | (with_reducible exact cutplaneref05_zero.mono _ _ _)
   | (with_reducible exact LeO.refl _)
   | (with_reducible exact LeO.none _)
   | (with_reducible refine LeO.ite ?_ ?_)
   | (with_reducible refine LeO.bind ?_ (fun _ => ?_))
   | exact ih0 _ _ _ _ _
   | exact ih1 _ _ _ _ _
   | exact cutplaneref02_Add.mono _ _ _ _ _ _ _
   | exact cutplaneref03_Value.mono _ _ _
   | exact cutplaneref04_Round.mono _ _ _ _ _ _
   | exact cutplaneref05_inf.mono _ _ _
   | exact cutplaneref05_nan.mono _ _ _
   | exact cutplaneref05_zero.mono _ _ _
   | exact LeO.none _
   | refine LeO.ite ?_ ?_
   | refine LeO.bind ?_ (fun _ => ?_)
theorem cutplaneref05_Add.calls (k : Nat) (a0 : Int) (a1 : Int) (a2 : Int) (a3 : Int) (r1 : Int) (r2 : Int) (w : World) (h : cutplaneref05_Add.f k a0 a1 a2 a3 = some (r1, r2)) :
  Calls Tryz.prog 50 #[.int .u8 a0, .int .u8 a1, .int .u64 a2, .int .u64 a3] w fun e w' => e = .returned (.tuple #[.int .u64 r1, .int .u8 r2]) ∧ Below w.heap.size w w' := by
 have hu107 := Tryz.underlying107
 have HB := A0_ (Below.refl w.heap.size w)
 have H := h
 clear h
 unfold cutplaneref05_Add.f at H
 obtain ⟨t716, A5, H⟩ := bs_ H
 try dsimp -simprocs only at H
 by_cases c6 : t716 = true
 ·subst c6
  rw [if_pos rfl] at H
  exact absurd H (by simp)
 ·replace c6 := Bool.eq_false_iff.mpr c6
  subst c6
  rw [if_neg (show ¬ (false = true) by decide)] at H
  obtain ⟨t717, A7, H⟩ := bs_ H
  try dsimp -simprocs only at H
  by_cases c8 : t717 = true
  ·subst c8
   rw [if_pos rfl] at H
   exact absurd H (by simp)
  ·replace c8 := Bool.eq_false_iff.mpr c8
   subst c8
   rw [if_neg (show ¬ (false = true) by decide)] at H
   have HC9 := A0_ H
   clear H
   go_enter Tryz.func50, Tryz.ntmps50
   go_upto_region 3 with (first | ((with_reducible refine gate_callee (f := 62) rfl ?_); refine goesL_ (some 13) rfl rfl Tryz.func62 (by kernel_rfl) rfl #[.int .u8 a0, .int .u64 a2] rfl (am_ rfl) ?_; (with_reducible refine (cutplaneref05_nan.calls k a0 a2 false _ A5.out).mono ?_); rintro e w10 ⟨rfl, hb⟩; refine ⟨_, rfl, ?_⟩; replace HB := hs_ hb; (try clear hb)) | (go_at_call 62; (with_reducible refine (cutplaneref05_nan.calls k a0 a3 false _ A7.out).mono ?_); rintro e w11 ⟨rfl, hb⟩; replace HB := hs_ hb; (try clear hb)))
   (try simp only [Act.put, sp_])
   go_cut [28] (fun v28 wc => ∃ (kq : Nat) (x28_8 : Bool), v28 = .bool x28_8 ∧ Aside0 (cutplaneref05_Add.j0 kq a0 a1 a2 a3 x28_8 = some (r1, r2)) ∧ Aside0 (kq ≤ k) ∧ Aside0 (Below w.heap.size w wc))
   case first =>
    have H := HC9.out
    clear HC9
    obtain ⟨t718, A12, H⟩ := bs_ H
    try dsimp -simprocs only at H
    by_cases c13 : t718 = true
    ·subst c13
     rw [if_pos rfl] at H
     obtain ⟨t719, A14, H⟩ := bs_ H
     try dsimp -simprocs only at H
     have H' := A0_ H
     clear H
     go_wp2_with (first | ((with_reducible refine gate_callee (f := 63) rfl ?_); refine goesL_ (some 23) rfl rfl Tryz.func63 (by kernel_rfl) rfl #[.int .u8 a0, .int .u64 a2] rfl (am_ rfl) ?_; (with_reducible refine (cutplaneref05_inf.calls k a0 a2 true _ A12.out).mono ?_); rintro e w15 ⟨rfl, hb⟩; refine ⟨_, rfl, ?_⟩; replace HB := hs_ hb; (try clear hb)) | (go_at_call 63; (with_reducible refine (cutplaneref05_inf.calls k a0 a3 t719 _ A14.out).mono ?_); rintro e w16 ⟨rfl, hb⟩; replace HB := hs_ hb; (try clear hb)))
     go_meet
     case rel => exact ⟨_, (t719), (by first | rfl | (simp; done) | (simp [*]; done)), H', ⟨by first | omega | exact Nat.le_refl _⟩, ⟨qm_ HB.out⟩⟩
    ·replace c13 := Bool.eq_false_iff.mpr c13
     subst c13
     rw [if_neg (show ¬ (false = true) by decide)] at H
     have H' := A0_ H
     clear H
     go_wp2_with (first | ((with_reducible refine gate_callee (f := 63) rfl ?_); refine goesL_ (some 23) rfl rfl Tryz.func63 (by kernel_rfl) rfl #[.int .u8 a0, .int .u64 a2] rfl (am_ rfl) ?_; (with_reducible refine (cutplaneref05_inf.calls k a0 a2 false _ A12.out).mono ?_); rintro e w17 ⟨rfl, hb⟩; refine ⟨_, rfl, ?_⟩; replace HB := hs_ hb; (try clear hb)))
     go_meet
     case rel => exact ⟨_, (false), (by first | rfl | (simp; done) | (simp [*]; done)), H', ⟨by first | omega | exact Nat.le_refl _⟩, ⟨qm_ HB.out⟩⟩
   case rest =>
    clear HC9
    try clear c1
    try clear p2
    try clear c5
    try clear c6
    try clear c8
    try clear c13
    obtain ⟨kq, x28_8, rfl, HA, HJ8, HB⟩ := hcut
    cases kq with
    | zero => exact absurd HA.out (by simp [cutplaneref05_Add.j0])
    | succ kj8 =>
     have H := HA.out
     clear HA
     simp only [cutplaneref05_Add.j0] at H
     by_cases c18 : x28_8 = true
     ·subst c18
      rw [if_pos rfl] at H
      exact absurd H (by simp)
     ·replace c18 := Bool.eq_false_iff.mpr c18
      subst c18
      rw [if_neg (show ¬ (false = true) by decide)] at H
      obtain ⟨t720, A19, H⟩ := bs_ H
      try dsimp -simprocs only at H
      by_cases c20 : t720 = true
      ·subst c20
       rw [if_pos rfl] at H
       exact absurd H (by simp)
      ·replace c20 := Bool.eq_false_iff.mpr c20
       subst c20
       rw [if_neg (show ¬ (false = true) by decide)] at H
       obtain ⟨t721, A21, H⟩ := bs_ H
       try dsimp -simprocs only at H
       by_cases c22 : t721 = true
       ·subst c22
        rw [if_pos rfl] at H
        exact absurd H (by simp)
       ·replace c22 := Bool.eq_false_iff.mpr c22
        subst c22
        rw [if_neg (show ¬ (false = true) by decide)] at H
        have HC23 := A0_ H
        clear H
        go_upto_region 11 with (first | ((with_reducible refine gate_callee (f := 63) rfl ?_); refine goesL_ (some 37) rfl rfl Tryz.func63 (by kernel_rfl) rfl #[.int .u8 a0, .int .u64 a2] rfl (am_ rfl) ?_; (with_reducible refine (cutplaneref05_inf.calls kj8 a0 a2 false _ A19.out).mono ?_); rintro e w24 ⟨rfl, hb⟩; refine ⟨_, rfl, ?_⟩; replace HB := hs_ hb; (try clear hb)) | ((with_reducible refine gate_callee (f := 63) rfl ?_); refine goesL_ (some 41) rfl rfl Tryz.func63 (by kernel_rfl) rfl #[.int .u8 a0, .int .u64 a3] rfl (am_ rfl) ?_; (with_reducible refine (cutplaneref05_inf.calls kj8 a0 a3 false _ A21.out).mono ?_); rintro e w25 ⟨rfl, hb⟩; refine ⟨_, rfl, ?_⟩; replace HB := hs_ hb; (try clear hb)))
        (try simp only [Act.put, sp_])
        go_cut [50] (fun v50 wc => ∃ (kq : Nat) (x50_22 : Bool), v50 = .bool x50_22 ∧ Aside0 (cutplaneref05_Add.j1 kq a0 a1 a2 a3 x50_22 = some (r1, r2)) ∧ Aside0 (kq ≤ kj8) ∧ Aside0 (Below w.heap.size w wc))
        case first =>
         have H := HC23.out
         clear HC23
         obtain ⟨t722, A26, H⟩ := bs_ H
         try dsimp -simprocs only at H
         by_cases c27 : t722 = true
         ·subst c27
          rw [if_pos rfl] at H
          have H' := A0_ H
          clear H
          go_wp2_with (first | ((with_reducible refine gate_callee (f := 64) rfl ?_); refine goesL_ (some 45) rfl rfl Tryz.func64 (by kernel_rfl) rfl #[.int .u8 a0, .int .u64 a2] rfl (am_ rfl) ?_; (with_reducible refine (cutplaneref05_zero.calls kj8 a0 a2 true _ A26.out).mono ?_); rintro e w28 ⟨rfl, hb⟩; refine ⟨_, rfl, ?_⟩; replace HB := hs_ hb; (try clear hb)))
          go_meet
          case rel => exact ⟨_, ((a2 == a3)), (by first | rfl | (simp; done) | (simp [*]; done)), H', ⟨by have := HJ8.out; first | omega | exact Nat.le_refl _⟩, ⟨qm_ HB.out⟩⟩
         ·replace c27 := Bool.eq_false_iff.mpr c27
          subst c27
          rw [if_neg (show ¬ (false = true) by decide)] at H
          have H' := A0_ H
          clear H
          go_wp2_with (first | ((with_reducible refine gate_callee (f := 64) rfl ?_); refine goesL_ (some 45) rfl rfl Tryz.func64 (by kernel_rfl) rfl #[.int .u8 a0, .int .u64 a2] rfl (am_ rfl) ?_; (with_reducible refine (cutplaneref05_zero.calls kj8 a0 a2 false _ A26.out).mono ?_); rintro e w29 ⟨rfl, hb⟩; refine ⟨_, rfl, ?_⟩; replace HB := hs_ hb; (try clear hb)))
          go_meet
          case rel => exact ⟨_, (false), (by first | rfl | (simp; done) | (simp [*]; done)), H', ⟨by have := HJ8.out; first | omega | exact Nat.le_refl _⟩, ⟨qm_ HB.out⟩⟩
        case rest =>
         clear HC23
         try clear c1
         try clear c2
         try clear p2
         try clear c5
         try clear c6
         try clear c8
         try clear c13
         try clear c18
         try clear c20
         try clear c22
         try clear c27
         try clear p2
         obtain ⟨kq, x50_22, rfl, HA, HJ22, HB⟩ := hcut
         cases kq with
         | zero => exact absurd HA.out (by simp [cutplaneref05_Add.j1])
         | succ kj22 =>
          have H := HA.out
          clear HA
          simp only [cutplaneref05_Add.j1] at H
          by_cases c30 : x50_22 = true
          ·subst c30
           rw [if_pos rfl] at H
           simp only [Option.some.injEq, Prod.mk.injEq] at H
           obtain ⟨rfl, rfl⟩ := H
           go_wp2
           go_ret2
           exact ⟨by first | rfl | (simp [errW_none, errW_some] <;> rfl) | (simp [*, errW_none, errW_some] <;> rfl), qm_ HB.out⟩
          ·replace c30 := Bool.eq_false_iff.mpr c30
           subst c30
           rw [if_neg (show ¬ (false = true) by decide)] at H
           obtain ⟨⟨t723, t724, t727⟩, A31, H⟩ := bs_ H
           try dsimp -simprocs only at H
           obtain ⟨⟨t728, t729, t732⟩, A32, H⟩ := bs_ H
           try dsimp -simprocs only at H
           obtain ⟨⟨t733, t734, t737⟩, A33, H⟩ := bs_ H
           try dsimp -simprocs only at H
           obtain ⟨t739, A34, H⟩ := bs_ H
           try dsimp -simprocs only at H
           by_cases c35 : t739 = 0
           ·rw [if_pos c35] at H
            have c35b0 : (t739 == 0) = true := beq_iff_eq.mpr c35
            have c35b1 : (t739 != 0) = false := bne_eq_false_iff_eq.mpr c35
            clear c35
            obtain ⟨t740, A36, H⟩ := bs_ H
            try dsimp -simprocs only at H
            simp only [Option.some.injEq, Prod.mk.injEq] at H
            obtain ⟨rfl, rfl⟩ := H
            go_wp2_with (first | ((with_reducible refine gate_callee (f := 68) rfl ?_); refine goesL_ (some 54) rfl rfl Tryz.func68 (by kernel_rfl) rfl #[.int .u8 a0, .int .u64 a2] rfl (am_ rfl) ?_; (with_reducible refine (cutplaneref03_Value.calls kj22 a0 a2 t723 t724 t727 _ A31.out).mono ?_); rintro e w37 ⟨v725, rfl, ho0, hb⟩; refine ⟨_, rfl, ?_⟩; have HO726 := A0_ (Kd.V_lower (Kd.V_mono (ok' := fun k_ => True) ho0 (fun k_ hk_ => trivial)) (below_size (qm_ HB.out))); replace HB := hs_ hb; (try clear hb); (try clear ho0)) | ((with_reducible refine gate_callee (f := 68) rfl ?_); refine goesL_ (some 57) rfl rfl Tryz.func68 (by kernel_rfl) rfl #[.int .u8 a0, .int .u64 a3] rfl (am_ rfl) ?_; (with_reducible refine (cutplaneref03_Value.calls kj22 a0 a3 t728 t729 t732 _ A32.out).mono ?_); rintro e w38 ⟨v730, rfl, ho0, hb⟩; refine ⟨_, rfl, ?_⟩; replace HO726 := A0_ (Kd.V_below (by exact vm_ HO726.out) hb); have HO731 := A0_ (Kd.V_lower (Kd.V_mono (ok' := fun k_ => True) ho0 (fun k_ hk_ => trivial)) (below_size (qm_ HB.out))); replace HB := hs_ hb; (try clear hb); (try clear ho0); obtain ⟨Ao39, co39, eo39⟩ := Kd.V_slice HO726.out; subst eo39; obtain ⟨Ao40, co40, eo40⟩ := Kd.V_slice HO731.out; subst eo40) | ((with_reducible refine gate_callee (f := 69) rfl ?_); refine goesL_ (some 58) rfl rfl Tryz.func69 (by kernel_rfl) rfl #[.agg #[.bool t723, .slice Ao39 t724.length co39, .int .i64 t727], .agg #[.bool t728, .slice Ao40 t729.length co40, .int .i64 t732]] rfl (am_ rfl) ?_; (with_reducible refine (cutplaneref02_Add.calls kj22 t723 (fun k_ => True) _ _ t724 t727 t728 (fun k_ => True) _ _ t729 t732 t733 t734 t737 _ ?side1 ?side2 A33.out).mono ?_); (case side1 => exact HO726.out); (case side2 => exact HO731.out); rintro e w41 ⟨v735, rfl, ho0, hb⟩; refine ⟨_, rfl, ?_⟩; replace HO726 := A0_ (Kd.V_below (by exact vm_ HO726.out) hb); replace HO731 := A0_ (Kd.V_below (by exact vm_ HO731.out) hb); have HO736 := A0_ (Kd.V_lower (Kd.V_mono (ok' := fun k_ => True) ho0 (fun k_ hk_ => trivial)) (below_size (qm_ HB.out))); replace HB := hs_ hb; (try clear hb); (try clear ho0)) | ((with_reducible refine gate_dst (N := 10) rfl ?_); refine box_event ?hg (N := 10) ?hd (cs := #[.bool false, .slice none 0 0, .int .i64 0]) (t := 107) ?hr ?_; (case hd => rfl); (case hg => rfl); (case hr => first | (go_simp; done) | (go_simp; rfl)); intro gb738 hg w42 hbox hb; replace HO726 := A0_ (Kd.V_below (Kd.V_elderB (by exact vm_ HO726.out) gb738 (Nat.le_of_eq hg.symm)) hb); replace HO731 := A0_ (Kd.V_below (Kd.V_elderB (by exact vm_ HO731.out) gb738 (Nat.le_of_eq hg.symm)) hb); replace HO736 := A0_ (Kd.V_below (Kd.V_elderB (by exact vm_ HO736.out) gb738 (Nat.le_of_eq hg.symm)) hb); have BK738 := A0_ (hbox); have GW738 := A0_ ((by rw [hg]; exact (below_size (qm_ HB.out)) : w.heap.size ≤ gb738)); have GE738 := GW738; replace HB := hs_ hb; clear hb hbox hg; have hcz43 := bc3_ BK738.out; have hfz43 := bf3_ BK738.out; obtain ⟨Ao44, co44, eo44⟩ := Kd.V_slice HO736.out; subst eo44) | ((with_reducible refine gate_callee (f := 70) rfl ?_); refine goesL_ (some 60) rfl rfl Tryz.func70 (by kernel_rfl) rfl #[.agg #[.bool t733, .slice Ao44 t734.length co44, .int .i64 t737]] rfl (am_ rfl) ?_; (with_reducible refine (cutplaneref02_Sign.calls t733 _ _ t734 t737 t739 _ ?side1 ?side2 A34.out).mono ?_); (case side1 => refine (Kd.V_reads' (e := 132) (base := w.heap.size) (ok := fun k_ => (True ∧ k_ ≠ gb738)) (n := t734.length) (c := co44) ?_).2.2; exact (by (with_reducible repeat (first | apply Kd.V_alloc | apply Kd.V_drewN | apply Kd.V_drew)); exact (Kd.V_mono (Kd.V_far (p := ⟨gb738, 2, none⟩) (Kd.V_far (p := ⟨gb738, 1, none⟩) (Kd.V_far (p := ⟨gb738, 0, none⟩) (Kd.V_mono HO736.out (fun k_ hk => (⟨hk, hk.2⟩ : _ ∧ k_ ≠ gb738))) (fun _ hk => hk.2) (.bool t733)) (fun _ hk => hk.2) (.slice Ao44 t734.length co44)) (fun _ hk => hk.2) (.int .i64 t737)) (fun _ h_ => h_.1)))); (case side2 => exact (Kd.V_reads' HO736.out).2.1); rintro e w45 ⟨rfl, hb⟩; refine ⟨_, rfl, ?_⟩; replace HO726 := A0_ (Kd.V_below (by (with_reducible repeat (first | apply Kd.V_alloc | apply Kd.V_drewN | apply Kd.V_drew)); exact (Kd.V_mono (Kd.V_far (p := ⟨gb738, 2, none⟩) (Kd.V_far (p := ⟨gb738, 1, none⟩) (Kd.V_far (p := ⟨gb738, 0, none⟩) (Kd.V_mono HO726.out (fun k_ hk => (⟨hk, hk.2⟩ : _ ∧ k_ ≠ gb738))) (fun _ hk => hk.2) (.bool t733)) (fun _ hk => hk.2) (.slice Ao44 t734.length co44)) (fun _ hk => hk.2) (.int .i64 t737)) (fun _ h_ => h_.1))) hb); replace HO731 := A0_ (Kd.V_below (by (with_reducible repeat (first | apply Kd.V_alloc | apply Kd.V_drewN | apply Kd.V_drew)); exact (Kd.V_mono (Kd.V_far (p := ⟨gb738, 2, none⟩) (Kd.V_far (p := ⟨gb738, 1, none⟩) (Kd.V_far (p := ⟨gb738, 0, none⟩) (Kd.V_mono HO731.out (fun k_ hk => (⟨hk, hk.2⟩ : _ ∧ k_ ≠ gb738))) (fun _ hk => hk.2) (.bool t733)) (fun _ hk => hk.2) (.slice Ao44 t734.length co44)) (fun _ hk => hk.2) (.int .i64 t737)) (fun _ h_ => h_.1))) hb); replace HO736 := A0_ (Kd.V_below (by (with_reducible repeat (first | apply Kd.V_alloc | apply Kd.V_drewN | apply Kd.V_drew)); exact (Kd.V_mono (Kd.V_far (p := ⟨gb738, 2, none⟩) (Kd.V_far (p := ⟨gb738, 1, none⟩) (Kd.V_far (p := ⟨gb738, 0, none⟩) (Kd.V_mono HO736.out (fun k_ hk => (⟨hk, hk.2⟩ : _ ∧ k_ ≠ gb738))) (fun _ hk => hk.2) (.bool t733)) (fun _ hk => hk.2) (.slice Ao44 t734.length co44)) (fun _ hk => hk.2) (.int .i64 t737)) (fun _ h_ => h_.1))) hb); replace BK738 := A0_ (blk_below (g := gb738) (o := .cells #[.bool t733, .slice Ao44 t734.length co44, .int .i64 t737] 107 (0, 0)) (by (with_reducible repeat first | apply bN_ | apply bD_ | apply bA_); refine blk_put (cs := #[.bool t733, .slice Ao44 t734.length co44, .int .i64 0]) ?_ 2 _ rfl; refine blk_put (cs := #[.bool t733, .slice none 0 0, .int .i64 0]) ?_ 1 _ rfl; refine blk_put (cs := #[.bool false, .slice none 0 0, .int .i64 0]) ?_ 0 _ rfl; exact bm_ BK738.out) hb); replace HB := hs_ hb; (try clear hb)) | ((with_reducible refine gate_callee (f := 71) rfl ?_); refine goesL_ (some 64) rfl rfl Tryz.func71 (by kernel_rfl) rfl #[.int .u8 a0, .int .u8 a1] rfl (am_ rfl) ?_; (with_reducible refine (cutplaneref05_Nothing.calls a0 a1 t740 _ A36.out).mono ?_); rintro e w' ⟨rfl, ⟨nd, rfl⟩⟩; refine ⟨_, rfl, ?_⟩))
            go_ret2
            exact ⟨by first | rfl | (simp [errW_none, errW_some] <;> rfl) | (simp [*, errW_none, errW_some] <;> rfl), qz_⟩
           ·rw [if_neg c35] at H
            have c35b0 : (t739 == 0) = false := beq_eq_false_iff_ne.mpr c35
            have c35b1 : (t739 != 0) = true := bne_iff_ne.mpr c35
            obtain ⟨⟨t741, t742⟩, A46, H⟩ := bs_ H
            try dsimp -simprocs only at H
            simp only [Option.some.injEq, Prod.mk.injEq] at H
            obtain ⟨rfl, rfl⟩ := H
            go_wp2_with (first | ((with_reducible refine gate_callee (f := 68) rfl ?_); refine goesL_ (some 54) rfl rfl Tryz.func68 (by kernel_rfl) rfl #[.int .u8 a0, .int .u64 a2] rfl (am_ rfl) ?_; (with_reducible refine (cutplaneref03_Value.calls kj22 a0 a2 t723 t724 t727 _ A31.out).mono ?_); rintro e w47 ⟨v725, rfl, ho0, hb⟩; refine ⟨_, rfl, ?_⟩; have HO726 := A0_ (Kd.V_lower (Kd.V_mono (ok' := fun k_ => True) ho0 (fun k_ hk_ => trivial)) (below_size (qm_ HB.out))); replace HB := hs_ hb; (try clear hb); (try clear ho0)) | ((with_reducible refine gate_callee (f := 68) rfl ?_); refine goesL_ (some 57) rfl rfl Tryz.func68 (by kernel_rfl) rfl #[.int .u8 a0, .int .u64 a3] rfl (am_ rfl) ?_; (with_reducible refine (cutplaneref03_Value.calls kj22 a0 a3 t728 t729 t732 _ A32.out).mono ?_); rintro e w48 ⟨v730, rfl, ho0, hb⟩; refine ⟨_, rfl, ?_⟩; replace HO726 := A0_ (Kd.V_below (by exact vm_ HO726.out) hb); have HO731 := A0_ (Kd.V_lower (Kd.V_mono (ok' := fun k_ => True) ho0 (fun k_ hk_ => trivial)) (below_size (qm_ HB.out))); replace HB := hs_ hb; (try clear hb); (try clear ho0); obtain ⟨Ao49, co49, eo49⟩ := Kd.V_slice HO726.out; subst eo49; obtain ⟨Ao50, co50, eo50⟩ := Kd.V_slice HO731.out; subst eo50) | ((with_reducible refine gate_callee (f := 69) rfl ?_); refine goesL_ (some 58) rfl rfl Tryz.func69 (by kernel_rfl) rfl #[.agg #[.bool t723, .slice Ao49 t724.length co49, .int .i64 t727], .agg #[.bool t728, .slice Ao50 t729.length co50, .int .i64 t732]] rfl (am_ rfl) ?_; (with_reducible refine (cutplaneref02_Add.calls kj22 t723 (fun k_ => True) _ _ t724 t727 t728 (fun k_ => True) _ _ t729 t732 t733 t734 t737 _ ?side1 ?side2 A33.out).mono ?_); (case side1 => exact HO726.out); (case side2 => exact HO731.out); rintro e w51 ⟨v735, rfl, ho0, hb⟩; refine ⟨_, rfl, ?_⟩; replace HO726 := A0_ (Kd.V_below (by exact vm_ HO726.out) hb); replace HO731 := A0_ (Kd.V_below (by exact vm_ HO731.out) hb); have HO736 := A0_ (Kd.V_lower (Kd.V_mono (ok' := fun k_ => True) ho0 (fun k_ hk_ => trivial)) (below_size (qm_ HB.out))); replace HB := hs_ hb; (try clear hb); (try clear ho0)) | ((with_reducible refine gate_dst (N := 10) rfl ?_); refine box_event ?hg (N := 10) ?hd (cs := #[.bool false, .slice none 0 0, .int .i64 0]) (t := 107) ?hr ?_; (case hd => rfl); (case hg => rfl); (case hr => first | (go_simp; done) | (go_simp; rfl)); intro gb738 hg w52 hbox hb; replace HO726 := A0_ (Kd.V_below (Kd.V_elderB (by exact vm_ HO726.out) gb738 (Nat.le_of_eq hg.symm)) hb); replace HO731 := A0_ (Kd.V_below (Kd.V_elderB (by exact vm_ HO731.out) gb738 (Nat.le_of_eq hg.symm)) hb); replace HO736 := A0_ (Kd.V_below (Kd.V_elderB (by exact vm_ HO736.out) gb738 (Nat.le_of_eq hg.symm)) hb); have BK738 := A0_ (hbox); have GW738 := A0_ ((by rw [hg]; exact (below_size (qm_ HB.out)) : w.heap.size ≤ gb738)); have GE738 := GW738; replace HB := hs_ hb; clear hb hbox hg; have hcz53 := bc3_ BK738.out; have hfz53 := bf3_ BK738.out; obtain ⟨Ao54, co54, eo54⟩ := Kd.V_slice HO736.out; subst eo54) | ((with_reducible refine gate_callee (f := 70) rfl ?_); refine goesL_ (some 60) rfl rfl Tryz.func70 (by kernel_rfl) rfl #[.agg #[.bool t733, .slice Ao54 t734.length co54, .int .i64 t737]] rfl (am_ rfl) ?_; (with_reducible refine (cutplaneref02_Sign.calls t733 _ _ t734 t737 t739 _ ?side1 ?side2 A34.out).mono ?_); (case side1 => refine (Kd.V_reads' (e := 132) (base := w.heap.size) (ok := fun k_ => (True ∧ k_ ≠ gb738)) (n := t734.length) (c := co54) ?_).2.2; exact (by (with_reducible repeat (first | apply Kd.V_alloc | apply Kd.V_drewN | apply Kd.V_drew)); exact (Kd.V_mono (Kd.V_far (p := ⟨gb738, 2, none⟩) (Kd.V_far (p := ⟨gb738, 1, none⟩) (Kd.V_far (p := ⟨gb738, 0, none⟩) (Kd.V_mono HO736.out (fun k_ hk => (⟨hk, hk.2⟩ : _ ∧ k_ ≠ gb738))) (fun _ hk => hk.2) (.bool t733)) (fun _ hk => hk.2) (.slice Ao54 t734.length co54)) (fun _ hk => hk.2) (.int .i64 t737)) (fun _ h_ => h_.1)))); (case side2 => exact (Kd.V_reads' HO736.out).2.1); rintro e w55 ⟨rfl, hb⟩; refine ⟨_, rfl, ?_⟩; replace HO726 := A0_ (Kd.V_below (by (with_reducible repeat (first | apply Kd.V_alloc | apply Kd.V_drewN | apply Kd.V_drew)); exact (Kd.V_mono (Kd.V_far (p := ⟨gb738, 2, none⟩) (Kd.V_far (p := ⟨gb738, 1, none⟩) (Kd.V_far (p := ⟨gb738, 0, none⟩) (Kd.V_mono HO726.out (fun k_ hk => (⟨hk, hk.2⟩ : _ ∧ k_ ≠ gb738))) (fun _ hk => hk.2) (.bool t733)) (fun _ hk => hk.2) (.slice Ao54 t734.length co54)) (fun _ hk => hk.2) (.int .i64 t737)) (fun _ h_ => h_.1))) hb); replace HO731 := A0_ (Kd.V_below (by (with_reducible repeat (first | apply Kd.V_alloc | apply Kd.V_drewN | apply Kd.V_drew)); exact (Kd.V_mono (Kd.V_far (p := ⟨gb738, 2, none⟩) (Kd.V_far (p := ⟨gb738, 1, none⟩) (Kd.V_far (p := ⟨gb738, 0, none⟩) (Kd.V_mono HO731.out (fun k_ hk => (⟨hk, hk.2⟩ : _ ∧ k_ ≠ gb738))) (fun _ hk => hk.2) (.bool t733)) (fun _ hk => hk.2) (.slice Ao54 t734.length co54)) (fun _ hk => hk.2) (.int .i64 t737)) (fun _ h_ => h_.1))) hb); replace HO736 := A0_ (Kd.V_below (by (with_reducible repeat (first | apply Kd.V_alloc | apply Kd.V_drewN | apply Kd.V_drew)); exact (Kd.V_mono (Kd.V_far (p := ⟨gb738, 2, none⟩) (Kd.V_far (p := ⟨gb738, 1, none⟩) (Kd.V_far (p := ⟨gb738, 0, none⟩) (Kd.V_mono HO736.out (fun k_ hk => (⟨hk, hk.2⟩ : _ ∧ k_ ≠ gb738))) (fun _ hk => hk.2) (.bool t733)) (fun _ hk => hk.2) (.slice Ao54 t734.length co54)) (fun _ hk => hk.2) (.int .i64 t737)) (fun _ h_ => h_.1))) hb); replace BK738 := A0_ (blk_below (g := gb738) (o := .cells #[.bool t733, .slice Ao54 t734.length co54, .int .i64 t737] 107 (0, 0)) (by (with_reducible repeat first | apply bN_ | apply bD_ | apply bA_); refine blk_put (cs := #[.bool t733, .slice Ao54 t734.length co54, .int .i64 0]) ?_ 2 _ rfl; refine blk_put (cs := #[.bool t733, .slice none 0 0, .int .i64 0]) ?_ 1 _ rfl; refine blk_put (cs := #[.bool false, .slice none 0 0, .int .i64 0]) ?_ 0 _ rfl; exact bm_ BK738.out) hb); replace HB := hs_ hb; (try clear hb); have hcz56 := bc3_ BK738.out; have hfz56 := bf3_ BK738.out) | ((with_reducible refine gate_callee (f := 66) rfl ?_); refine goesL_ (some 68) rfl rfl Tryz.func66 (by kernel_rfl) rfl #[.int .u8 a0, .int .u8 a1, .agg #[.bool t733, .slice Ao54 t734.length co54, .int .i64 t737]] rfl (am_ rfl) ?_; (with_reducible refine (cutplaneref04_Round.calls kj22 a0 a1 t733 _ _ t734 t737 t741 t742 _ ?side1 ?side2 A46.out).mono ?_); (case side1 => repeat (first | exact (Kd.V_reads' HO736.out).2.2 | (with_reducible refine Kd.C_alloc ?_ _) | (with_reducible refine Kd.C_drewN ?_ _) | (with_reducible refine Kd.C_drew ?_))); (case side2 => exact (Kd.V_reads' HO736.out).2.1); rintro e w57 ⟨rfl, hb⟩; refine ⟨_, rfl, ?_⟩; replace HO726 := A0_ (Kd.V_below (by exact vm_ HO726.out) hb); replace HO731 := A0_ (Kd.V_below (by exact vm_ HO731.out) hb); replace HO736 := A0_ (Kd.V_below (by exact vm_ HO736.out) hb); replace BK738 := bb_ BK738 hb; replace HB := hs_ hb; (try clear hb)))
            go_ret2
            exact ⟨by first | rfl | (simp [errW_none, errW_some] <;> rfl) | (simp [*, errW_none, errW_some] <;> rfl), qz_⟩
end Go.Proofs.YtlgapmhjaaajfaaGreat.PA
end
