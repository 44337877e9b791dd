/- Steps of Go functions that the law SpecialProducts uses, told as plain Lean functions, each with the proof that its call comes to what it tells; words on memory; plain facts. No condition beyond those that each text names. -/
import Derived.Test.YtlgapmhjaaajfaaProg
import Derived.WalkMore
import Derived.Test.YtlgapmhjaaajfaaSSpecialProducts0
import Derived.Test.YtlgapmhjaaajfaaSSpecialProducts1
import Derived.Test.YtlgapmhjaaajfaaSSpecialProducts5
import Derived.Test.YtlgapmhjaaajfaaSSpecialProducts6
import Derived.Test.YtlgapmhjaaajfaaSSpecialProducts7
import Derived.Test.YtlgapmhjaaajfaaSSpecialProducts8
import Derived.Test.YtlgapmhjaaajfaaSSpecialProducts9
set_option maxHeartbeats 2000000
set_option maxRecDepth 100000
section
namespace Go.Proofs.Ytlgapmhjaaajfaa.PA
open Go.RowKit Go.Proofs.YtlgapmhjaaajfaaW.PrintWords Go.Proofs.YtlgapmhjaaajfaaW.PrintLast Go.Proofs.YtlgapmhjaaajfaaW.PrintMore
attribute [local go_sem] max2_int min2_int max_two min_two max_three min_three max_four min_four   -- for this text's walks alone
set_option linter.unusedVariables false
set_option linter.unusedSimpArgs false
def cutplaneref02_Add.j0 : Nat → Int → Bool → List Int → Int → Bool → List Int → Int → Option (Bool × List Int × Int)
 | 0, _, _, _, _, _, _, _ => none
 | k + 1, x5, x466000, x466001, x466002, x467000, x467001, x467002 => (cutplaneref01_Up.f k x466001 (wrap64 (x466002 - x5))).bind fun t468 => ((cutplaneref01_Up.f k x467001 (wrap64 (x467002 - x5))).bind fun t471 => (if (x466000 == x467000) = true then ((cutplaneref01_Add.f k t468 t471).bind fun t474 => ((cutplaneref02_Form.f k x466000 t474 x5).bind fun bt477 => (some (bt477.1, bt477.2.1, bt477.2.2)))) else ((cutplaneref01_Cmp.f k t468 t471).bind fun t482 => (if t482 ≥ 0 then ((cutplaneref01_Sub.f k t468 t471).bind fun t483 => ((cutplaneref02_Form.f k x466000 t483 x5).bind fun bt486 => (some (bt486.1, bt486.2.1, bt486.2.2)))) else (none)))))
def cutplaneref02_Add.f (k : Nat) (a0_0 : Bool) (l0_1 : List Int) (a0_2 : Int) (a1_0 : Bool) (l1_1 : List Int) (a1_2 : Int) : Option (Bool × List Int × Int) := if (l0_1.length : Int) = 0 then (some (a1_0, l1_1, a1_2)) else (if (l1_1.length : Int) = 0 then (some (a0_0, l0_1, a0_2)) else (if a1_2 < a0_2 then (cutplaneref02_Add.j0 k a1_2 a0_0 l0_1 a0_2 a1_0 l1_1 a1_2) else (cutplaneref02_Add.j0 k a0_2 a0_0 l0_1 a0_2 a1_0 l1_1 a1_2)))
theorem cutplaneref02_Add.mono_l : ∀ k, (∀ y0 y1 y2 y3 y4 y5 y6, LeO (cutplaneref02_Add.j0 k y0 y1 y2 y3 y4 y5 y6) (cutplaneref02_Add.j0 (k + 1) y0 y1 y2 y3 y4 y5 y6))
 | 0 => fun _ _ _ _ _ _ _ r h => by simp [cutplaneref02_Add.j0] at h
 | k + 1 => by
  have ih0 := cutplaneref02_Add.mono_l k
  ·intro y0 y1 y2 y3 y4 y5 y6
   unfold cutplaneref02_Add.j0
   repeat' first
   | (with_reducible exact ih0 _ _ _ _ _ _ _)
   | (with_reducible exact cutplaneref01_Add.mono _ _ _)
   | (with_reducible exact cutplaneref01_Cmp.mono _ _ _)
   | (with_reducible exact cutplaneref01_Sub.mono _ _ _)
   | (with_reducible exact cutplaneref01_Up.mono _ _ _)
   | (with_reducible exact cutplaneref02_Form.mono _ _ _ _)
   | (with_reducible exact LeO.refl _)
   | (with_reducible exact LeO.none _)
   | (with_reducible refine LeO.ite ?_ ?_)
   | (with_reducible refine LeO.bind ?_ (fun _ => ?_))
   | exact ih0 _ _ _ _ _ _ _
   | exact cutplaneref01_Add.mono _ _ _
   | exact cutplaneref01_Cmp.mono _ _ _
   | exact cutplaneref01_Sub.mono _ _ _
   | exact cutplaneref01_Up.mono _ _ _
   | exact cutplaneref02_Form.mono _ _ _ _
   | exact LeO.none _
   | refine LeO.ite ?_ ?_
   | refine LeO.bind ?_ (fun _ => ?_)
theorem cutplaneref02_Add.mono : ∀ a0 a1 a2 a3 a4 a5 k, LeO (cutplaneref02_Add.f k a0 a1 a2 a3 a4 a5) (cutplaneref02_Add.f (k + 1) a0 a1 a2 a3 a4 a5) := by
 intro a0 a1 a2 a3 a4 a5 k
 have ih0 := cutplaneref02_Add.mono_l k
 unfold cutplaneref02_Add.f
 repeat' first
   | (with_reducible exact ih0 _ _ _ _ _ _ _)
   | (with_reducible exact cutplaneref01_Add.mono _ _ _)
   | (with_reducible exact cutplaneref01_Cmp.mono _ _ _)
   | (with_reducible exact cutplaneref01_Sub.mono _ _ _)
   | (with_reducible exact cutplaneref01_Up.mono _ _ _)
   | (with_reducible exact cutplaneref02_Form.mono _ _ _ _)
   | (with_reducible exact LeO.refl _)
   | (with_reducible exact LeO.none _)
   | (with_reducible refine LeO.ite ?_ ?_)
   | (with_reducible refine LeO.bind ?_ (fun _ => ?_))
   | exact ih0 _ _ _ _ _ _ _
   | exact cutplaneref01_Add.mono _ _ _
   | exact cutplaneref01_Cmp.mono _ _ _
   | exact cutplaneref01_Sub.mono _ _ _
   | exact cutplaneref01_Up.mono _ _ _
   | exact cutplaneref02_Form.mono _ _ _ _
   | exact LeO.none _
   | refine LeO.ite ?_ ?_
   | refine LeO.bind ?_ (fun _ => ?_)
def cutplaneref02_Add.T11 : Bool × List (List Nat × List Nat) := (true, [([], []), ([0], [0]), ([], []), ([], []), ([2, 3], [2, 3]), ([], []), ([1, 4, 5, 4], [1, 4, 5]), ([6, 6, 0, 1, 2, 3, 4, 5, 6], [6])])
def cutplaneref02_Add.B11 : List Nat := [0, 1, 0, 0, 12, 0, 63, 127]
theorem cutplaneref02_Add.tab11 : rtab .any (opsOf Try.f75 11) = cutplaneref02_Add.T11 := by kernel_rfl
theorem cutplaneref02_Add.bits11 : waitsOk cutplaneref02_Add.T11.2 cutplaneref02_Add.B11 = true := by kernel_rfl
def cutplaneref02_Add.T13 : Bool × List (List Nat × List Nat) := (true, [([], []), ([0], [0]), ([], []), ([], []), ([2, 3], [2, 3]), ([], []), ([1, 4, 5, 4], [1, 4, 5]), ([6, 6, 0, 1, 2, 3, 4, 5, 6], [6])])
def cutplaneref02_Add.B13 : List Nat := [0, 1, 0, 0, 12, 0, 63, 127]
theorem cutplaneref02_Add.tab13 : rtab .any (opsOf Try.f75 13) = cutplaneref02_Add.T13 := by kernel_rfl
theorem cutplaneref02_Add.bits13 : waitsOk cutplaneref02_Add.T13.2 cutplaneref02_Add.B13 = true := by kernel_rfl
theorem cutplaneref02_Add.calls (k : Nat) (a0_0 : Bool) (P0_1_ : Nat → Prop) (A0_1 : Option Addr) (c0_1 : Nat) (l0_1 : List Int) (a0_2 : Int) (a1_0 : Bool) (P1_1_ : Nat → Prop) (A1_1 : Option Addr) (c1_1 : Nat) (l1_1 : List Int) (a1_2 : Int) (r1 : Bool) (r2 : List Int) (r3 : Int) (w : World) (hs0_1 : Kd.V (Kd.int .u32) 66 w w.heap.size (fun k_ => P0_1_ k_) (.slice A0_1 l0_1.length c0_1) l0_1) (hs1_1 : Kd.V (Kd.int .u32) 66 w w.heap.size (fun k_ => P1_1_ k_) (.slice A1_1 l1_1.length c1_1) l1_1) (h : cutplaneref02_Add.f k a0_0 l0_1 a0_2 a1_0 l1_1 a1_2 = some (r1, r2, r3)) :
  Calls Try.prog 75 #[.agg #[.bool a0_0, .slice A0_1 l0_1.length c0_1, .int .i64 a0_2], .agg #[.bool a1_0, .slice A1_1 l1_1.length c1_1, .int .i64 a1_2]] w fun e w' => ∃ v1_ : Value, e = .returned (.agg #[.bool r1, v1_, .int .i64 r3]) ∧ Kd.V (Kd.int .u32) 66 w' w.heap.size (fun k_ => ((P0_1_ k_ ∨ P1_1_ k_) ∨ w.heap.size ≤ k_)) v1_ r2 ∧ Below w.heap.size w w' := by
 have hu69 := Try.underlying69
 have HO0_1 := A0_ (show Kd.V (Kd.int .u32) 66 w w.heap.size (fun k_ => ((P0_1_ k_ ∨ P1_1_ k_) ∨ w.heap.size ≤ k_)) (.slice A0_1 l0_1.length c0_1) l0_1 from Kd.V_mono hs0_1 (fun k_ hk => .inl (.inl hk)))
 have HO1_1 := A0_ (show Kd.V (Kd.int .u32) 66 w w.heap.size (fun k_ => ((P0_1_ k_ ∨ P1_1_ k_) ∨ w.heap.size ≤ k_)) (.slice A1_1 l1_1.length c1_1) l1_1 from Kd.V_mono hs1_1 (fun k_ hk => .inl (.inr hk)))
 have HB := A0_ (Below.refl w.heap.size w)
 have H := h
 clear h
 unfold cutplaneref02_Add.f at H
 by_cases c3 : (l0_1.length : Int) = 0
 ·rw [if_pos c3] at H
  have c3b0 : ((l0_1.length : Int) == 0) = true := beq_iff_eq.mpr c3
  have c3b1 : ((l0_1.length : Int) != 0) = false := bne_eq_false_iff_eq.mpr c3
  clear c3
  simp only [Option.some.injEq, Prod.mk.injEq] at H
  obtain ⟨rfl, rfl, rfl⟩ := H
  go_enter Try.func75, Try.ntmps75
  go_wp2_with (first | ((with_reducible refine gate_dst (N := 2) rfl ?_); refine box_event ?hg (N := 2) ?hd (cs := #[.bool a0_0, .slice A0_1 l0_1.length c0_1, .int .i64 a0_2]) (t := 69) ?hr ?_; (case hd => rfl); (case hg => rfl); (case hr => first | (go_simp; done) | (go_simp; rfl)); intro gb465 hg w4 hbox hb; replace HO0_1 := A0_ (Kd.V_below (Kd.V_elderB (by exact vm_ HO0_1.out) gb465 (Nat.le_of_eq hg.symm)) hb); replace HO1_1 := A0_ (Kd.V_below (Kd.V_elderB (by exact vm_ HO1_1.out) gb465 (Nat.le_of_eq hg.symm)) hb); have BK465 := A0_ (hbox); have GW465 := A0_ ((by rw [hg]; exact (below_size (qm_ HB.out)) : w.heap.size ≤ gb465)); have GE465 := GW465; replace HB := hs_ hb; clear hb hbox hg) | ((with_reducible refine gate_dst (N := 3) rfl ?_); refine box_event ?hg (N := 3) ?hd (cs := #[.bool a1_0, .slice A1_1 l1_1.length c1_1, .int .i64 a1_2]) (t := 69) ?hr ?_; (case hd => rfl); (case hg => rfl); (case hr => first | (go_simp; done) | (go_simp; rfl)); intro gb466 hg w5 hbox hb; replace HO0_1 := A0_ (Kd.V_below (Kd.V_elderB (by exact vm_ HO0_1.out) gb466 (Nat.le_of_eq hg.symm)) hb); replace HO1_1 := A0_ (Kd.V_below (Kd.V_elderB (by exact vm_ HO1_1.out) gb466 (Nat.le_of_eq hg.symm)) hb); have BK466 := A0_ (hbox); have GW466 := A0_ ((by rw [hg]; exact (below_size qz_) : w.heap.size ≤ gb466)); have GE466 := GW466; replace HB := hs_ hb; have NB465_466 := nl_ hg BK465; have NB466_465 := ng_ hg BK465; replace BK465 := bb_ BK465 hb; clear hb hbox hg) | ((with_reducible refine gate_dst (N := 4) rfl ?_); refine box_event ?hg (N := 4) ?hd (cs := #[.bool false, .slice none 0 0, .int .i64 0]) (t := 69) ?hr ?_; (case hd => rfl); (case hg => rfl); (case hr => first | (go_simp; done) | (go_simp; rfl)); intro gb467 hg w6 hbox hb; replace HO0_1 := A0_ (Kd.V_below (Kd.V_elderB (by exact vm_ HO0_1.out) gb467 (Nat.le_of_eq hg.symm)) hb); replace HO1_1 := A0_ (Kd.V_below (Kd.V_elderB (by exact vm_ HO1_1.out) gb467 (Nat.le_of_eq hg.symm)) hb); have BK467 := A0_ (hbox); have GW467 := A0_ ((by rw [hg]; exact (below_size qz_) : w.heap.size ≤ gb467)); have GE467 := GW467; replace HB := hs_ hb; have NB465_467 := nl_ hg BK465; have NB467_465 := ng_ hg BK465; replace BK465 := bb_ BK465 hb; have NB466_467 := nl_ hg BK466; have NB467_466 := ng_ hg BK466; replace BK466 := bb_ BK466 hb; clear hb hbox hg; have hnb7 := NB465_466.out; have hnc7 := NB466_465.out; have hnb8 := NB465_467.out; have hnc8 := NB467_465.out; have hcz9 := bc3_ BK465.out; have hfz9 := bf3_ BK465.out; have hnb10 := NB466_467.out; have hnc10 := NB467_466.out; have hcz11 := bc3_ BK466.out; have hfz11 := bf3_ BK466.out; have hcz12 := bc3_ BK467.out; have hfz12 := bf3_ BK467.out))
  refine bodyPost_ret (results_cell_row rfl _ _ gb467 69 #[.bool a1_0, .slice A1_1 l1_1.length c1_1, .int .i64 a1_2] (0, 0) _ rfl (by (with_reducible repeat first | apply bN_ | apply bD_ | apply bA_); refine blk_put (cs := #[.bool a1_0, .slice A1_1 l1_1.length c1_1, .int .i64 0]) ?_ 2 _ rfl; refine blk_put (cs := #[.bool a1_0, .slice none 0 0, .int .i64 0]) ?_ 1 _ rfl; refine blk_put (cs := #[.bool false, .slice none 0 0, .int .i64 0]) ?_ 0 _ rfl; exact bm_ BK467.out) Try.underlying69 rfl (by kernel_rfl)) rfl ?_
  exact ⟨_, by first | rfl | (simp [errW_none, errW_some] <;> rfl) | (simp [*, errW_none, errW_some] <;> rfl), by (with_reducible repeat (first | apply Kd.V_alloc | apply Kd.V_drewN | apply Kd.V_drew)); exact Kd.V_mono (Kd.V_far (p := ⟨gb467, 2, none⟩) (Kd.V_far (p := ⟨gb467, 1, none⟩) (Kd.V_far (p := ⟨gb467, 0, none⟩) (Kd.V_mono HO1_1.out (fun k_ hk => (⟨hk, hk.2⟩ : _ ∧ k_ ≠ gb467))) (fun _ hk => hk.2) (.bool a1_0)) (fun _ hk => hk.2) (.slice A1_1 l1_1.length c1_1)) (fun _ hk => hk.2) (.int .i64 a1_2)) (fun _ hk => hk.1.1.1.1), qz_⟩
 ·rw [if_neg c3] at H
  have c3b0 : ((l0_1.length : Int) == 0) = false := beq_eq_false_iff_ne.mpr c3
  have c3b1 : ((l0_1.length : Int) != 0) = true := bne_iff_ne.mpr c3
  have c3b2 : ¬ (l0_1 = []) := fun h_ => c3 (by rw [h_]; rfl)
  by_cases c13 : (l1_1.length : Int) = 0
  ·rw [if_pos c13] at H
   have c13b0 : ((l1_1.length : Int) == 0) = true := beq_iff_eq.mpr c13
   have c13b1 : ((l1_1.length : Int) != 0) = false := bne_eq_false_iff_eq.mpr c13
   clear c13
   simp only [Option.some.injEq, Prod.mk.injEq] at H
   obtain ⟨rfl, rfl, rfl⟩ := H
   go_enter Try.func75, Try.ntmps75
   go_wp2_with (first | ((with_reducible refine gate_dst (N := 2) rfl ?_); refine box_event ?hg (N := 2) ?hd (cs := #[.bool a0_0, .slice A0_1 l0_1.length c0_1, .int .i64 a0_2]) (t := 69) ?hr ?_; (case hd => rfl); (case hg => rfl); (case hr => first | (go_simp; done) | (go_simp; rfl)); intro gb465 hg w14 hbox hb; replace HO0_1 := A0_ (Kd.V_below (Kd.V_elderB (by exact vm_ HO0_1.out) gb465 (Nat.le_of_eq hg.symm)) hb); replace HO1_1 := A0_ (Kd.V_below (Kd.V_elderB (by exact vm_ HO1_1.out) gb465 (Nat.le_of_eq hg.symm)) hb); have BK465 := A0_ (hbox); have GW465 := A0_ ((by rw [hg]; exact (below_size (qm_ HB.out)) : w.heap.size ≤ gb465)); have GE465 := GW465; replace HB := hs_ hb; clear hb hbox hg) | ((with_reducible refine gate_dst (N := 3) rfl ?_); refine box_event ?hg (N := 3) ?hd (cs := #[.bool a1_0, .slice A1_1 l1_1.length c1_1, .int .i64 a1_2]) (t := 69) ?hr ?_; (case hd => rfl); (case hg => rfl); (case hr => first | (go_simp; done) | (go_simp; rfl)); intro gb466 hg w15 hbox hb; replace HO0_1 := A0_ (Kd.V_below (Kd.V_elderB (by exact vm_ HO0_1.out) gb466 (Nat.le_of_eq hg.symm)) hb); replace HO1_1 := A0_ (Kd.V_below (Kd.V_elderB (by exact vm_ HO1_1.out) gb466 (Nat.le_of_eq hg.symm)) hb); have BK466 := A0_ (hbox); have GW466 := A0_ ((by rw [hg]; exact (below_size qz_) : w.heap.size ≤ gb466)); have GE466 := GW466; replace HB := hs_ hb; have NB465_466 := nl_ hg BK465; have NB466_465 := ng_ hg BK465; replace BK465 := bb_ BK465 hb; clear hb hbox hg) | ((with_reducible refine gate_dst (N := 4) rfl ?_); refine box_event ?hg (N := 4) ?hd (cs := #[.bool false, .slice none 0 0, .int .i64 0]) (t := 69) ?hr ?_; (case hd => rfl); (case hg => rfl); (case hr => first | (go_simp; done) | (go_simp; rfl)); intro gb467 hg w16 hbox hb; replace HO0_1 := A0_ (Kd.V_below (Kd.V_elderB (by exact vm_ HO0_1.out) gb467 (Nat.le_of_eq hg.symm)) hb); replace HO1_1 := A0_ (Kd.V_below (Kd.V_elderB (by exact vm_ HO1_1.out) gb467 (Nat.le_of_eq hg.symm)) hb); have BK467 := A0_ (hbox); have GW467 := A0_ ((by rw [hg]; exact (below_size qz_) : w.heap.size ≤ gb467)); have GE467 := GW467; replace HB := hs_ hb; have NB465_467 := nl_ hg BK465; have NB467_465 := ng_ hg BK465; replace BK465 := bb_ BK465 hb; have NB466_467 := nl_ hg BK466; have NB467_466 := ng_ hg BK466; replace BK466 := bb_ BK466 hb; clear hb hbox hg; have hnb17 := NB465_466.out; have hnc17 := NB466_465.out; have hnb18 := NB465_467.out; have hnc18 := NB467_465.out; have hcz19 := bc3_ BK465.out; have hfz19 := bf3_ BK465.out; have hnb20 := NB466_467.out; have hnc20 := NB467_466.out; have hcz21 := bc3_ BK466.out; have hfz21 := bf3_ BK466.out; have hcz22 := bc3_ BK467.out; have hfz22 := bf3_ BK467.out))
   refine bodyPost_ret (results_cell_row rfl _ _ gb467 69 #[.bool a0_0, .slice A0_1 l0_1.length c0_1, .int .i64 a0_2] (0, 0) _ rfl (by (with_reducible repeat first | apply bN_ | apply bD_ | apply bA_); refine blk_put (cs := #[.bool a0_0, .slice A0_1 l0_1.length c0_1, .int .i64 0]) ?_ 2 _ rfl; refine blk_put (cs := #[.bool a0_0, .slice none 0 0, .int .i64 0]) ?_ 1 _ rfl; refine blk_put (cs := #[.bool false, .slice none 0 0, .int .i64 0]) ?_ 0 _ rfl; exact bm_ BK467.out) Try.underlying69 rfl (by kernel_rfl)) rfl ?_
   exact ⟨_, by first | rfl | (simp [errW_none, errW_some] <;> rfl) | (simp [*, errW_none, errW_some] <;> rfl), by (with_reducible repeat (first | apply Kd.V_alloc | apply Kd.V_drewN | apply Kd.V_drew)); exact Kd.V_mono (Kd.V_far (p := ⟨gb467, 2, none⟩) (Kd.V_far (p := ⟨gb467, 1, none⟩) (Kd.V_far (p := ⟨gb467, 0, none⟩) (Kd.V_mono HO0_1.out (fun k_ hk => (⟨hk, hk.2⟩ : _ ∧ k_ ≠ gb467))) (fun _ hk => hk.2) (.bool a0_0)) (fun _ hk => hk.2) (.slice A0_1 l0_1.length c0_1)) (fun _ hk => hk.2) (.int .i64 a0_2)) (fun _ hk => hk.1.1.1.1), qz_⟩
  ·rw [if_neg c13] at H
   have c13b0 : ((l1_1.length : Int) == 0) = false := beq_eq_false_iff_ne.mpr c13
   have c13b1 : ((l1_1.length : Int) != 0) = true := bne_iff_ne.mpr c13
   have c13b2 : ¬ (l1_1 = []) := fun h_ => c13 (by rw [h_]; rfl)
   have HC23 := A0_ H
   clear H
   go_enter Try.func75, Try.ntmps75
   go_upto_if 23 with (first | ((with_reducible refine gate_dst (N := 2) rfl ?_); refine box_event ?hg (N := 2) ?hd (cs := #[.bool a0_0, .slice A0_1 l0_1.length c0_1, .int .i64 a0_2]) (t := 69) ?hr ?_; (case hd => rfl); (case hg => rfl); (case hr => first | (go_simp; done) | (go_simp; rfl)); intro gb465 hg w24 hbox hb; replace HO0_1 := A0_ (Kd.V_below (Kd.V_elderB (by exact vm_ HO0_1.out) gb465 (Nat.le_of_eq hg.symm)) hb); replace HO1_1 := A0_ (Kd.V_below (Kd.V_elderB (by exact vm_ HO1_1.out) gb465 (Nat.le_of_eq hg.symm)) hb); have BK465 := A0_ (hbox); have GW465 := A0_ ((by rw [hg]; exact (below_size (qm_ HB.out)) : w.heap.size ≤ gb465)); have GE465 := GW465; replace HB := hs_ hb; clear hb hbox hg) | ((with_reducible refine gate_dst (N := 3) rfl ?_); refine box_event ?hg (N := 3) ?hd (cs := #[.bool a1_0, .slice A1_1 l1_1.length c1_1, .int .i64 a1_2]) (t := 69) ?hr ?_; (case hd => rfl); (case hg => rfl); (case hr => first | (go_simp; done) | (go_simp; rfl)); intro gb466 hg w25 hbox hb; replace HO0_1 := A0_ (Kd.V_below (Kd.V_elderB (by exact vm_ HO0_1.out) gb466 (Nat.le_of_eq hg.symm)) hb); replace HO1_1 := A0_ (Kd.V_below (Kd.V_elderB (by exact vm_ HO1_1.out) gb466 (Nat.le_of_eq hg.symm)) hb); have BK466 := A0_ (hbox); have GW466 := A0_ ((by rw [hg]; exact (below_size qz_) : w.heap.size ≤ gb466)); have GE466 := GW466; replace HB := hs_ hb; have NB465_466 := nl_ hg BK465; have NB466_465 := ng_ hg BK465; replace BK465 := bb_ BK465 hb; clear hb hbox hg) | ((with_reducible refine gate_dst (N := 4) rfl ?_); refine box_event ?hg (N := 4) ?hd (cs := #[.bool false, .slice none 0 0, .int .i64 0]) (t := 69) ?hr ?_; (case hd => rfl); (case hg => rfl); (case hr => first | (go_simp; done) | (go_simp; rfl)); intro gb467 hg w26 hbox hb; replace HO0_1 := A0_ (Kd.V_below (Kd.V_elderB (by exact vm_ HO0_1.out) gb467 (Nat.le_of_eq hg.symm)) hb); replace HO1_1 := A0_ (Kd.V_below (Kd.V_elderB (by exact vm_ HO1_1.out) gb467 (Nat.le_of_eq hg.symm)) hb); have BK467 := A0_ (hbox); have GW467 := A0_ ((by rw [hg]; exact (below_size qz_) : w.heap.size ≤ gb467)); have GE467 := GW467; replace HB := hs_ hb; have NB465_467 := nl_ hg BK465; have NB467_465 := ng_ hg BK465; replace BK465 := bb_ BK465 hb; have NB466_467 := nl_ hg BK466; have NB467_466 := ng_ hg BK466; replace BK466 := bb_ BK466 hb; clear hb hbox hg; have hnb27 := NB465_466.out; have hnc27 := NB466_465.out; have hnb28 := NB465_467.out; have hnc28 := NB467_465.out; have hcz29 := bc3_ BK465.out; have hfz29 := bf3_ BK465.out; have hnb30 := NB466_467.out; have hnc30 := NB467_466.out; have hcz31 := bc3_ BK466.out; have hfz31 := bf3_ BK466.out))
   (try simp only [Act.put, sp_])
   go_cut [5] (fun v5 wc => ∃ (kq : Nat) (x5_22 : Int), v5 = .int .i64 x5_22 ∧ Aside0 (cutplaneref02_Add.j0 kq x5_22 a0_0 l0_1 a0_2 a1_0 l1_1 a1_2 = some (r1, r2, r3)) ∧ Aside0 (kq ≤ k) ∧ Aside0 (Kd.V (Kd.int .u32) 66 wc w.heap.size (fun k_ => ((P0_1_ k_ ∨ P1_1_ k_) ∨ w.heap.size ≤ k_) ∧ k_ ≠ gb465 ∧ k_ ≠ gb466 ∧ k_ ≠ gb467) (.slice A0_1 l0_1.length c0_1) l0_1) ∧ Aside0 (Kd.V (Kd.int .u32) 66 wc w.heap.size (fun k_ => ((P0_1_ k_ ∨ P1_1_ k_) ∨ w.heap.size ≤ k_) ∧ k_ ≠ gb465 ∧ k_ ≠ gb466 ∧ k_ ≠ gb467) (.slice A1_1 l1_1.length c1_1) l1_1) ∧ Aside0 (wc.heap[gb465]? = some (.cells #[.bool a0_0, (.slice A0_1 l0_1.length c0_1), .int .i64 a0_2] 69 (0, 0))) ∧ Aside0 (wc.heap[gb466]? = some (.cells #[.bool a1_0, (.slice A1_1 l1_1.length c1_1), .int .i64 a1_2] 69 (0, 0))) ∧ Aside0 (wc.heap[gb467]? = some (.cells #[.bool false, (.slice none 0 0), .int .i64 0] 69 (0, 0))) ∧ Aside0 (Below w.heap.size w wc))
   case first =>
    have H := HC23.out
    clear HC23
    by_cases c32 : a1_2 < a0_2
    ·rw [if_pos c32] at H
     have c32b0 : decide (a1_2 < a0_2) = true := decide_eq_true c32
     clear c32
     (first | rw [c32b0] | (simp only [i64_w, i32_w]; rw [c32b0]) | skip)
     have H' := A0_ H
     clear H
     have hnb33 := NB466_465.out
     have hnc33 := NB465_466.out
     have hnb34 := NB466_467.out
     have hnc34 := NB467_466.out
     have hcz35 := bc3_ BK466.out
     have hfz35 := bf3_ BK466.out
     go_wp2
     go_meet
     case rel => exact ⟨_, (a1_2), (by first | rfl | (simp; done) | (simp [*]; done)), H', ⟨by first | omega | exact Nat.le_refl _⟩, ⟨by (with_reducible repeat (first | apply Kd.V_alloc | apply Kd.V_drewN | apply Kd.V_drew)); exact Kd.V_mono HO0_1.out (fun _ hk => by first | exact ⟨hk.1.1.1, ⟨hk.1.1.2, ⟨hk.1.2, hk.2⟩⟩⟩ | (refine ⟨?_, ⟨?_, ⟨?_, ?_⟩⟩⟩ <;> first | exact hk.1 | exact hk.2 | exact hk.1.1 | exact hk.1.2 | exact hk.2.1 | exact hk.2.2 | exact hk.1.1.1 | exact hk.1.1.2 | exact hk.1.2.1 | exact hk.1.2.2 | exact hk.2.1.1 | exact hk.2.1.2 | exact hk.2.2.1 | exact hk.2.2.2 | exact hk.1.1.1.1 | exact hk.1.1.1.2 | exact hk.1.1.2.1 | exact hk.1.1.2.2 | exact hk.1.2.1.1 | exact hk.1.2.1.2 | exact hk.1.2.2.1 | exact hk.1.2.2.2 | exact hk.2.1.1.1 | exact hk.2.1.1.2 | exact hk.2.1.2.1 | exact hk.2.1.2.2 | exact hk.2.2.1.1 | exact hk.2.2.1.2 | exact hk.2.2.2.1 | exact hk.2.2.2.2 | exact hk.1.1.1.1.1 | exact hk.1.1.1.1.2 | exact hk.1.1.1.1.1.1 | exact hk.1.1.1.1.1.2 | exact hk.1.1.1.1.1.1.1 | exact hk.1.1.1.1.1.1.2 | exact hk.1.1.1.1.1.1.1.1 | exact hk.1.1.1.1.1.1.1.2 | exact hk.1.1.1.1.1.1.1.1.1 | exact hk.1.1.1.1.1.1.1.1.2 | exact hk.1.1.1.1.1.1.1.1.1.1 | exact hk.1.1.1.1.1.1.1.1.1.2 | exact hk.1.1.1.1.1.1.1.1.1.1.1 | exact hk.1.1.1.1.1.1.1.1.1.1.2 | exact hk.1.1.1.1.1.1.1.1.1.1.1.1 | exact hk.1.1.1.1.1.1.1.1.1.1.1.2))⟩, ⟨by (with_reducible repeat (first | apply Kd.V_alloc | apply Kd.V_drewN | apply Kd.V_drew)); exact Kd.V_mono HO1_1.out (fun _ hk => by first | exact ⟨hk.1.1.1, ⟨hk.1.1.2, ⟨hk.1.2, hk.2⟩⟩⟩ | (refine ⟨?_, ⟨?_, ⟨?_, ?_⟩⟩⟩ <;> first | exact hk.1 | exact hk.2 | exact hk.1.1 | exact hk.1.2 | exact hk.2.1 | exact hk.2.2 | exact hk.1.1.1 | exact hk.1.1.2 | exact hk.1.2.1 | exact hk.1.2.2 | exact hk.2.1.1 | exact hk.2.1.2 | exact hk.2.2.1 | exact hk.2.2.2 | exact hk.1.1.1.1 | exact hk.1.1.1.2 | exact hk.1.1.2.1 | exact hk.1.1.2.2 | exact hk.1.2.1.1 | exact hk.1.2.1.2 | exact hk.1.2.2.1 | exact hk.1.2.2.2 | exact hk.2.1.1.1 | exact hk.2.1.1.2 | exact hk.2.1.2.1 | exact hk.2.1.2.2 | exact hk.2.2.1.1 | exact hk.2.2.1.2 | exact hk.2.2.2.1 | exact hk.2.2.2.2 | exact hk.1.1.1.1.1 | exact hk.1.1.1.1.2 | exact hk.1.1.1.1.1.1 | exact hk.1.1.1.1.1.2 | exact hk.1.1.1.1.1.1.1 | exact hk.1.1.1.1.1.1.2 | exact hk.1.1.1.1.1.1.1.1 | exact hk.1.1.1.1.1.1.1.2 | exact hk.1.1.1.1.1.1.1.1.1 | exact hk.1.1.1.1.1.1.1.1.2 | exact hk.1.1.1.1.1.1.1.1.1.1 | exact hk.1.1.1.1.1.1.1.1.1.2 | exact hk.1.1.1.1.1.1.1.1.1.1.1 | exact hk.1.1.1.1.1.1.1.1.1.1.2 | exact hk.1.1.1.1.1.1.1.1.1.1.1.1 | exact hk.1.1.1.1.1.1.1.1.1.1.1.2))⟩, ⟨bm_ BK465.out⟩, ⟨bm_ BK466.out⟩, ⟨bm_ BK467.out⟩, ⟨qz_⟩⟩
    ·rw [if_neg c32] at H
     have c32b0 : decide (a1_2 < a0_2) = false := decide_eq_false c32
     clear c32
     (first | rw [c32b0] | (simp only [i64_w, i32_w]; rw [c32b0]) | skip)
     have H' := A0_ H
     clear H
     go_wp2
     go_meet
     case rel => exact ⟨_, (a0_2), (by first | rfl | (simp; done) | (simp [*]; done)), H', ⟨by first | omega | exact Nat.le_refl _⟩, ⟨by (with_reducible repeat (first | apply Kd.V_alloc | apply Kd.V_drewN | apply Kd.V_drew)); exact Kd.V_mono HO0_1.out (fun _ hk => by first | exact ⟨hk.1.1.1, ⟨hk.1.1.2, ⟨hk.1.2, hk.2⟩⟩⟩ | (refine ⟨?_, ⟨?_, ⟨?_, ?_⟩⟩⟩ <;> first | exact hk.1 | exact hk.2 | exact hk.1.1 | exact hk.1.2 | exact hk.2.1 | exact hk.2.2 | exact hk.1.1.1 | exact hk.1.1.2 | exact hk.1.2.1 | exact hk.1.2.2 | exact hk.2.1.1 | exact hk.2.1.2 | exact hk.2.2.1 | exact hk.2.2.2 | exact hk.1.1.1.1 | exact hk.1.1.1.2 | exact hk.1.1.2.1 | exact hk.1.1.2.2 | exact hk.1.2.1.1 | exact hk.1.2.1.2 | exact hk.1.2.2.1 | exact hk.1.2.2.2 | exact hk.2.1.1.1 | exact hk.2.1.1.2 | exact hk.2.1.2.1 | exact hk.2.1.2.2 | exact hk.2.2.1.1 | exact hk.2.2.1.2 | exact hk.2.2.2.1 | exact hk.2.2.2.2 | exact hk.1.1.1.1.1 | exact hk.1.1.1.1.2 | exact hk.1.1.1.1.1.1 | exact hk.1.1.1.1.1.2 | exact hk.1.1.1.1.1.1.1 | exact hk.1.1.1.1.1.1.2 | exact hk.1.1.1.1.1.1.1.1 | exact hk.1.1.1.1.1.1.1.2 | exact hk.1.1.1.1.1.1.1.1.1 | exact hk.1.1.1.1.1.1.1.1.2 | exact hk.1.1.1.1.1.1.1.1.1.1 | exact hk.1.1.1.1.1.1.1.1.1.2 | exact hk.1.1.1.1.1.1.1.1.1.1.1 | exact hk.1.1.1.1.1.1.1.1.1.1.2 | exact hk.1.1.1.1.1.1.1.1.1.1.1.1 | exact hk.1.1.1.1.1.1.1.1.1.1.1.2))⟩, ⟨by (with_reducible repeat (first | apply Kd.V_alloc | apply Kd.V_drewN | apply Kd.V_drew)); exact Kd.V_mono HO1_1.out (fun _ hk => by first | exact ⟨hk.1.1.1, ⟨hk.1.1.2, ⟨hk.1.2, hk.2⟩⟩⟩ | (refine ⟨?_, ⟨?_, ⟨?_, ?_⟩⟩⟩ <;> first | exact hk.1 | exact hk.2 | exact hk.1.1 | exact hk.1.2 | exact hk.2.1 | exact hk.2.2 | exact hk.1.1.1 | exact hk.1.1.2 | exact hk.1.2.1 | exact hk.1.2.2 | exact hk.2.1.1 | exact hk.2.1.2 | exact hk.2.2.1 | exact hk.2.2.2 | exact hk.1.1.1.1 | exact hk.1.1.1.2 | exact hk.1.1.2.1 | exact hk.1.1.2.2 | exact hk.1.2.1.1 | exact hk.1.2.1.2 | exact hk.1.2.2.1 | exact hk.1.2.2.2 | exact hk.2.1.1.1 | exact hk.2.1.1.2 | exact hk.2.1.2.1 | exact hk.2.1.2.2 | exact hk.2.2.1.1 | exact hk.2.2.1.2 | exact hk.2.2.2.1 | exact hk.2.2.2.2 | exact hk.1.1.1.1.1 | exact hk.1.1.1.1.2 | exact hk.1.1.1.1.1.1 | exact hk.1.1.1.1.1.2 | exact hk.1.1.1.1.1.1.1 | exact hk.1.1.1.1.1.1.2 | exact hk.1.1.1.1.1.1.1.1 | exact hk.1.1.1.1.1.1.1.2 | exact hk.1.1.1.1.1.1.1.1.1 | exact hk.1.1.1.1.1.1.1.1.2 | exact hk.1.1.1.1.1.1.1.1.1.1 | exact hk.1.1.1.1.1.1.1.1.1.2 | exact hk.1.1.1.1.1.1.1.1.1.1.1 | exact hk.1.1.1.1.1.1.1.1.1.1.2 | exact hk.1.1.1.1.1.1.1.1.1.1.1.1 | exact hk.1.1.1.1.1.1.1.1.1.1.1.2))⟩, ⟨bm_ BK465.out⟩, ⟨bm_ BK466.out⟩, ⟨bm_ BK467.out⟩, ⟨qz_⟩⟩
   case rest =>
    clear HC23
    try clear c1
    try clear c2
    try clear p2
    try clear c3
    try clear c3b0
    try clear c3b1
    try clear c3b2
    try clear c7
    try clear c8
    try clear c10
    try clear c13
    try clear c13b0
    try clear c13b1
    try clear c13b2
    try clear c17
    try clear c18
    try clear c20
    try clear c27
    try clear c28
    try clear c30
    try clear c32
    try clear c32b0
    try clear c33
    try clear c34
    try clear hcz11
    try clear hcz12
    try clear hcz19
    try clear hcz21
    try clear hcz22
    try clear hcz29
    try clear hcz31
    try clear hcz35
    try clear hcz9
    try clear hfz11
    try clear hfz12
    try clear hfz19
    try clear hfz21
    try clear hfz22
    try clear hfz29
    try clear hfz31
    try clear hfz35
    try clear hfz9
    obtain ⟨kq, x5_22, rfl, HA, HJ22, HO_466001, HO_467001, BK465, BK466, BK467, HB⟩ := hcut
    cases kq with
    | zero => exact absurd HA.out (by simp [cutplaneref02_Add.j0])
    | succ kj22 =>
     have H := HA.out
     clear HA
     simp only [cutplaneref02_Add.j0] at H
     obtain ⟨t468, A36, H⟩ := bs_ H
     try dsimp -simprocs only at H
     obtain ⟨t471, A37, H⟩ := bs_ H
     try dsimp -simprocs only at H
     by_cases c38 : (a0_0 == a1_0) = true
     ·rw [if_pos c38] at H
      have c38b0 : (a0_0 == a1_0) = true := c38
      (try (have c38b1 : decide (a0_0 = a1_0) = true := by simpa using c38))
      (try (have c38b2 : (a0_0 == a1_0) = true := by simpa using c38))
      clear c38
      obtain ⟨t474, A39, H⟩ := bs_ H
      try dsimp -simprocs only at H
      obtain ⟨⟨t477, t478, t481⟩, A40, H⟩ := bs_ H
      try dsimp -simprocs only at H
      simp only [Option.some.injEq, Prod.mk.injEq] at H
      obtain ⟨rfl, rfl, rfl⟩ := H
      have hnb41 := NB465_466.out
      have hnc41 := NB466_465.out
      have hnb42 := NB465_467.out
      have hnc42 := NB467_465.out
      have hcz43 := bc3_ BK465.out
      have hfz43 := bf3_ BK465.out
      try go_wp2_with (first | ((with_reducible refine gate_callee (f := 96) rfl ?_); refine goesL_ (some 32) rfl rfl Try.func96 (by kernel_rfl) rfl #[.slice A0_1 l0_1.length c0_1, .int .i64 (wrap64 (a0_2 - x5_22))] rfl (am_ rfl) ?_; (with_reducible refine (cutplaneref01_Up.calls kj22 _ _ l0_1 (wrap64 (a0_2 - x5_22)) t468 _ ?side1 ?side2 A36.out).mono ?_); (case side1 => repeat (first | exact (Kd.V_reads' HO_466001.out).2.2 | (with_reducible refine Kd.C_alloc ?_ _) | (with_reducible refine Kd.C_drewN ?_ _) | (with_reducible refine Kd.C_drew ?_))); (case side2 => exact (Kd.V_reads' HO_466001.out).2.1); rintro e w44 ⟨v469, rfl, ho0, hb⟩; refine ⟨_, rfl, ?_⟩; replace HO_466001 := A0_ (Kd.V_below (by exact vm_ HO_466001.out) hb); replace HO_467001 := A0_ (Kd.V_below (by exact vm_ HO_467001.out) hb); have HO470 := A0_ (Kd.V_lower (Kd.V_mono (ok' := fun k_ => ((P0_1_ k_ ∨ P1_1_ k_) ∨ w.heap.size ≤ k_) ∧ k_ ≠ gb465 ∧ k_ ≠ gb466 ∧ k_ ≠ gb467) ho0 (fun k_ hk_ => ⟨(.inr (Nat.le_trans (below_size qz_) hk_)), (Kd.freshB (bm_ BK465.out) k_ hk_), (Kd.freshB (bm_ BK466.out) k_ hk_), (Kd.freshB (bm_ BK467.out) k_ hk_)⟩)) (below_size qz_)); replace BK465 := bb_ BK465 hb; replace BK466 := bb_ BK466 hb; replace BK467 := bb_ BK467 hb; replace HB := hs_ hb; (try clear hb); (try clear ho0); have hnb45 := NB466_467.out; have hnc45 := NB467_466.out; have hcz46 := bc3_ BK466.out; have hfz46 := bf3_ BK466.out) | ((with_reducible refine gate_callee (f := 96) rfl ?_); refine goesL_ (some 39) rfl rfl Try.func96 (by kernel_rfl) rfl #[.slice A1_1 l1_1.length c1_1, .int .i64 (wrap64 (a1_2 - x5_22))] rfl (am_ rfl) ?_; (with_reducible refine (cutplaneref01_Up.calls kj22 _ _ l1_1 (wrap64 (a1_2 - x5_22)) t471 _ ?side1 ?side2 A37.out).mono ?_); (case side1 => repeat (first | exact (Kd.V_reads' HO_467001.out).2.2 | (with_reducible refine Kd.C_alloc ?_ _) | (with_reducible refine Kd.C_drewN ?_ _) | (with_reducible refine Kd.C_drew ?_))); (case side2 => exact (Kd.V_reads' HO_467001.out).2.1); rintro e w47 ⟨v472, rfl, ho0, hb⟩; refine ⟨_, rfl, ?_⟩; replace HO_466001 := A0_ (Kd.V_below (by exact vm_ HO_466001.out) hb); replace HO_467001 := A0_ (Kd.V_below (by exact vm_ HO_467001.out) hb); replace HO470 := A0_ (Kd.V_below (by exact vm_ HO470.out) hb); have HO473 := A0_ (Kd.V_lower (Kd.V_mono (ok' := fun k_ => ((P0_1_ k_ ∨ P1_1_ k_) ∨ w.heap.size ≤ k_) ∧ k_ ≠ gb465 ∧ k_ ≠ gb466 ∧ k_ ≠ gb467) ho0 (fun k_ hk_ => ⟨(.inr (Nat.le_trans (below_size qz_) hk_)), (Kd.freshB (bm_ BK465.out) k_ hk_), (Kd.freshB (bm_ BK466.out) k_ hk_), (Kd.freshB (bm_ BK467.out) k_ hk_)⟩)) (below_size qz_)); replace BK465 := bb_ BK465 hb; replace BK466 := bb_ BK466 hb; replace BK467 := bb_ BK467 hb; replace HB := hs_ hb; (try clear hb); (try clear ho0); have hcz48 := bc3_ BK465.out; have hfz48 := bf3_ BK465.out; have hcz49 := bc3_ BK466.out; have hfz49 := bf3_ BK466.out))
      replace HO_466001 := A0_ (Kd.V_drew HO_466001.out)
      replace HO_467001 := A0_ (Kd.V_drew HO_467001.out)
      replace HO470 := A0_ (Kd.V_drew HO470.out)
      replace HO473 := A0_ (Kd.V_drew HO473.out)
      replace BK465 := A0_ (blk_drew BK465.out)
      replace BK466 := A0_ (blk_drew BK466.out)
      replace BK467 := A0_ (blk_drew BK467.out)
      replace HB := A0_ (below_drew1 HB.out)
      obtain ⟨Ao51, co51, eo51⟩ := Kd.V_slice HO470.out
      (first | subst eo51 | (injection eo51 with f1_ f2_ f3_; have f4_ := f1_.symm; have f5_ := f3_.symm; clear f1_ f2_ f3_; subst f4_; subst f5_))
      obtain ⟨Ao52, co52, eo52⟩ := Kd.V_slice HO473.out
      (first | subst eo52 | (injection eo52 with f1_ f2_ f3_; have f4_ := f1_.symm; have f5_ := f3_.symm; clear f1_ f2_ f3_; subst f4_; subst f5_))
      refine start_ (n := 8) (S := fun w' => w'.cell? ⟨gb465, 0, none⟩ = some (.bool a0_0) ∧ w'.cell? ⟨gb465, 1, none⟩ = some (.slice A0_1 l0_1.length c0_1) ∧ w'.cell? ⟨gb465, 2, none⟩ = some (.int .i64 a0_2)) (ds := []) #[false, false, false, false, false, false, false, false] (by kernel_rfl) rfl rfl ⟨bC_ BK465.out 0, bC_ BK465.out 1, bC_ BK465.out 2⟩ (fun hHeld => ?_); refine with_tabW cutplaneref02_Add.tab11 cutplaneref02_Add.bits11 (fun HT_ HW_ => ?_)
      generalize w47.drew = w50 at HO_466001 HO_467001 HO470 HO473 BK465 BK466 BK467 HB hHeld ⊢
      refine pure_ (i := 0) (N := some 45) (v := ?_) (a' := ?_) #[true, false, false, false, false, false, false, false] rfl rfl (any_of HT_.out (by kernel_rfl)) (fun _ _ _ h => h) (Or.inl ⟨by rfl, ?_⟩) ?_ ?_
      rotate_left
      ·intro w'
       go_simp
       with_reducible rfl
      rotate_left
      ·simp only [Act.put, sp_, i64_w, i32_w]
       rfl
      refine pure_ (i := 2) (N := some 47) (v := ?_) (a' := ?_) #[true, false, true, false, false, false, false, false] rfl rfl (any_of HT_.out (by kernel_rfl)) (fun _ _ _ h => h) (Or.inl ⟨by rfl, ?_⟩) ?_ ?_
      rotate_left
      ·intro w'
       go_simp
       with_reducible rfl
      rotate_left
      ·simp only [Act.put, sp_, i64_w, i32_w]
       rfl
      refine pure_ (i := 3) (N := some 48) (v := ?_) (a' := ?_) #[true, false, true, true, false, false, false, false] rfl rfl (any_of HT_.out (by kernel_rfl)) (fun _ _ _ h => h) (Or.inl ⟨by rfl, ?_⟩) ?_ ?_
      rotate_left
      ·intro w'
       go_simp
       with_reducible rfl
      rotate_left
      ·simp only [Act.put, sp_, i64_w, i32_w]
       rfl
      refine pure_ (i := 5) (N := some 50) (v := ?_) (a' := ?_) #[true, false, true, true, false, true, false, false] rfl rfl (any_of HT_.out (by kernel_rfl)) (fun _ _ _ h => h) (Or.inl ⟨by rfl, ?_⟩) ?_ ?_
      rotate_left
      ·intro w'
       go_simp
       with_reducible rfl
      rotate_left
      ·simp only [Act.put, sp_, i64_w, i32_w]
       rfl
      refine take_ (i := 1) (N := some 46) (v := ?_) (a' := ?_) #[true, true, true, true, false, true, false, false] rfl rfl (take_ofW HT_.out HW_.out (by kernel_rfl)) (fun _ _ _ h => h) (Or.inl ⟨by rfl, ?_⟩) hHeld ?_ ?_
      rotate_left
      ·rintro w' ⟨s0, s1, s2⟩
       go_simp
       with_reducible rfl
      rotate_left
      ·simp only [Act.put, sp_, i64_w, i32_w]
       rfl
      refine one_ (i := 4) (N := some 49) #[true, true, true, true, true, true, false, false] rfl rfl (one_of HT_.out (by kernel_rfl)) (by decide) (fun K hK => ?_)
      refine goes_ Try.func97 (by kernel_rfl) rfl #[.slice Ao51 t468.length co51, .slice Ao52 t471.length co52] (by rfl) rfl rfl (am_ rfl) ?_
      with_reducible refine (cutplaneref01_Add.calls kj22 _ _ t468 _ _ t471 t474 _ ?side1 ?side2 ?side3 ?side4 A39.out).mono ?_
      (case side1 => repeat (first | exact (Kd.V_reads' HO470.out).2.2 | (with_reducible refine Kd.C_alloc ?_ _) | (with_reducible refine Kd.C_drewN ?_ _) | (with_reducible refine Kd.C_drew ?_)))
      (case side2 => exact (Kd.V_reads' HO470.out).2.1)
      (case side3 => repeat (first | exact (Kd.V_reads' HO473.out).2.2 | (with_reducible refine Kd.C_alloc ?_ _) | (with_reducible refine Kd.C_drewN ?_ _) | (with_reducible refine Kd.C_drew ?_)))
      (case side4 => exact (Kd.V_reads' HO473.out).2.1)
      rintro e w53 ⟨v475, rfl, ho0, hb⟩
      refine ⟨_, rfl, ?_⟩
      replace HO_466001 := A0_ (Kd.V_below (by exact vm_ HO_466001.out) hb)
      replace HO_467001 := A0_ (Kd.V_below (by exact vm_ HO_467001.out) hb)
      replace HO470 := A0_ (Kd.V_below (by exact vm_ HO470.out) hb)
      replace HO473 := A0_ (Kd.V_below (by exact vm_ HO473.out) hb)
      have HO476 := A0_ (Kd.V_lower (Kd.V_mono (ok' := fun k_ => ((P0_1_ k_ ∨ P1_1_ k_) ∨ w.heap.size ≤ k_) ∧ k_ ≠ gb465 ∧ k_ ≠ gb466 ∧ k_ ≠ gb467) ho0 (fun k_ hk_ => ⟨(.inr (Nat.le_trans (below_size qz_) hk_)), (Kd.freshB (bm_ BK465.out) k_ hk_), (Kd.freshB (bm_ BK466.out) k_ hk_), (Kd.freshB (bm_ BK467.out) k_ hk_)⟩)) (below_size qz_))
      replace BK465 := bb_ BK465 hb
      replace BK466 := bb_ BK466 hb
      replace BK467 := bb_ BK467 hb
      replace HB := hs_ hb
      (try clear hb)
      (try clear ho0)
      obtain ⟨Ao54, co54, eo54⟩ := Kd.V_slice HO476.out
      (first | subst eo54 | (injection eo54 with f1_ f2_ f3_; have f4_ := f1_.symm; have f5_ := f3_.symm; clear f1_ f2_ f3_; subst f4_; subst f5_))
      refine hK.out _ _ ⟨bC_ BK465.out 0, bC_ BK465.out 1, bC_ BK465.out 2⟩ (fun hHeld => ?_)
      clear hK K
      refine norm_ (a' := ?_) ?_ ?_
      rotate_left
      ·show Act.put _ (some 49) _ = _
       simp only [Act.put, sp_, i64_w, i32_w]
       rfl
      refine one_ (i := 6) (N := some 51) #[true, true, true, true, true, true, true, false] rfl rfl (one_of HT_.out (by kernel_rfl)) (by decide) (fun K hK => ?_)
      refine goes_ Try.func93 (by kernel_rfl) rfl #[.bool a0_0, .slice Ao54 t474.length co54, .int .i64 x5_22] (by rfl) rfl rfl (am_ rfl) ?_
      with_reducible refine (cutplaneref02_Form.calls kj22 a0_0 _ _ t474 x5_22 t477 t478 t481 _ ?side1 ?side2 A40.out).mono ?_
      (case side1 => repeat (first | exact (Kd.V_reads' HO476.out).2.2 | (with_reducible refine Kd.C_alloc ?_ _) | (with_reducible refine Kd.C_drewN ?_ _) | (with_reducible refine Kd.C_drew ?_)))
      (case side2 => exact (Kd.V_reads' HO476.out).2.1)
      rintro e w55 ⟨v479, rfl, ho0, hb⟩
      refine ⟨_, rfl, ?_⟩
      replace HO_466001 := A0_ (Kd.V_below (by exact vm_ HO_466001.out) hb)
      replace HO_467001 := A0_ (Kd.V_below (by exact vm_ HO_467001.out) hb)
      replace HO470 := A0_ (Kd.V_below (by exact vm_ HO470.out) hb)
      replace HO473 := A0_ (Kd.V_below (by exact vm_ HO473.out) hb)
      replace HO476 := A0_ (Kd.V_below (by exact vm_ HO476.out) hb)
      have HO480 := A0_ (Kd.V_lower (Kd.V_mono (ok' := fun k_ => ((P0_1_ k_ ∨ P1_1_ k_) ∨ w.heap.size ≤ k_) ∧ k_ ≠ gb465 ∧ k_ ≠ gb466 ∧ k_ ≠ gb467) ho0 (fun k_ hk_ => ⟨(.inr (Nat.le_trans (below_size qz_) hk_)), (Kd.freshB (bm_ BK465.out) k_ hk_), (Kd.freshB (bm_ BK466.out) k_ hk_), (Kd.freshB (bm_ BK467.out) k_ hk_)⟩)) (below_size qz_))
      replace BK465 := bb_ BK465 hb
      replace BK466 := bb_ BK466 hb
      replace BK467 := bb_ BK467 hb
      replace HB := hs_ hb
      (try clear hb)
      (try clear ho0)
      obtain ⟨Ao57, co57, eo57⟩ := Kd.V_slice HO480.out
      (first | subst eo57 | (injection eo57 with f1_ f2_ f3_; have f4_ := f1_.symm; have f5_ := f3_.symm; clear f1_ f2_ f3_; subst f4_; subst f5_))
      refine hK.out _ _ ⟨bC_ BK465.out 0, bC_ BK465.out 1, bC_ BK465.out 2⟩ (fun hHeld => ?_)
      clear hK K
      refine norm_ (a' := ?_) ?_ ?_
      rotate_left
      ·show Act.put _ (some 51) _ = _
       simp only [Act.put, sp_, i64_w, i32_w]
       rfl
      refine one_ (i := 7) (N := none) #[true, true, true, true, true, true, true, true] rfl rfl (one_of HT_.out (by kernel_rfl)) (by decide) (fun K hK => ?_)
      have hs56 : w55.cell? ⟨gb467, 0, none⟩ = some (.bool false) := (blk_cell BK467.out 0).trans rfl
      have hfs56 := blk_frozen BK467.out 0
      have hns56_0 := NB465_467.out
      have hns56_1 := NB466_467.out
      have hms56_0 := NB467_465.out
      have hms56_1 := NB467_466.out
      have hs58 : w55.cell? ⟨gb467, 1, none⟩ = some (.slice none 0 0) := (blk_cell BK467.out 1).trans rfl
      have hfs58 := blk_frozen BK467.out 1
      have hns58_0 := NB465_467.out
      have hns58_1 := NB466_467.out
      have hms58_0 := NB467_465.out
      have hms58_1 := NB467_466.out
      have hs59 : w55.cell? ⟨gb467, 2, none⟩ = some (.int .i64 0) := (blk_cell BK467.out 2).trans rfl
      have hfs59 := blk_frozen BK467.out 2
      have hns59_0 := NB465_467.out
      have hns59_1 := NB466_467.out
      have hms59_0 := NB467_465.out
      have hms59_1 := NB467_466.out
      refine skip_ (w1 := ?_) (by rfl) rfl ?_ ?_
      rotate_left
      ·go_simp
       rfl
      refine hK.out _ _ ⟨((cell_far (p := ⟨gb467, _, none⟩) NB465_467.out _).trans (((cell_far (p := ⟨gb467, _, none⟩) NB465_467.out _).trans (((cell_far (p := ⟨gb467, _, none⟩) NB465_467.out _).trans (hHeld.1)))))), ((cell_far (p := ⟨gb467, _, none⟩) NB465_467.out _).trans (((cell_far (p := ⟨gb467, _, none⟩) NB465_467.out _).trans (((cell_far (p := ⟨gb467, _, none⟩) NB465_467.out _).trans (hHeld.2.1)))))), ((cell_far (p := ⟨gb467, _, none⟩) NB465_467.out _).trans (((cell_far (p := ⟨gb467, _, none⟩) NB465_467.out _).trans (((cell_far (p := ⟨gb467, _, none⟩) NB465_467.out _).trans (hHeld.2.2))))))⟩ (fun hHeld => ?_)
      clear hK K
      refine done_ (done_of HT_.out (by kernel_rfl)) ?_
      try go_wp2
      refine bodyPost_ret (results_cell_row rfl _ _ gb467 69 #[.bool t477, .slice Ao57 t478.length co57, .int .i64 t481] (0, 0) _ rfl (by (with_reducible repeat first | apply bN_ | apply bD_ | apply bA_); refine blk_put (cs := #[.bool t477, .slice Ao57 t478.length co57, .int .i64 0]) ?_ 2 _ rfl; refine blk_put (cs := #[.bool t477, .slice none 0 0, .int .i64 0]) ?_ 1 _ rfl; refine blk_put (cs := #[.bool false, .slice none 0 0, .int .i64 0]) ?_ 0 _ rfl; exact bm_ BK467.out) Try.underlying69 rfl (by kernel_rfl)) rfl ?_
      exact ⟨_, by first | rfl | (simp [errW_none, errW_some] <;> rfl) | (simp [*, errW_none, errW_some] <;> rfl), by (with_reducible repeat (first | apply Kd.V_alloc | apply Kd.V_drewN | apply Kd.V_drew)); exact Kd.V_mono (Kd.V_far (p := ⟨gb467, 2, none⟩) (Kd.V_far (p := ⟨gb467, 1, none⟩) (Kd.V_far (p := ⟨gb467, 0, none⟩) (Kd.V_mono HO480.out (fun k_ hk => (⟨hk, hk.2.2.2⟩ : _ ∧ k_ ≠ gb467))) (fun _ hk => hk.2) (.bool t477)) (fun _ hk => hk.2) (.slice Ao57 t478.length co57)) (fun _ hk => hk.2) (.int .i64 t481)) (fun _ hk => hk.1.1), qz_⟩
     ·rw [if_neg c38] at H
      have c38b0 : (a0_0 == a1_0) = false := by simpa using c38
      (try (have c38b1 : decide (a0_0 = a1_0) = false := by simpa using c38))
      (try (have c38b2 : (a0_0 == a1_0) = false := by simpa using c38))
      (try (have c38b3 : ¬ (a0_0 = a1_0) := by simpa using c38))
      clear c38
      obtain ⟨t482, A60, H⟩ := bs_ H
      try dsimp -simprocs only at H
      obtain ⟨c61, H⟩ := ic_ H
      have c61b0 : decide (0 ≤ t482) = true := decide_eq_true c61
      clear c61
      obtain ⟨t483, A62, H⟩ := bs_ H
      try dsimp -simprocs only at H
      obtain ⟨⟨t486, t487, t490⟩, A63, H⟩ := bs_ H
      try dsimp -simprocs only at H
      simp only [Option.some.injEq, Prod.mk.injEq] at H
      obtain ⟨rfl, rfl, rfl⟩ := H
      have hnb64 := NB465_466.out
      have hnc64 := NB466_465.out
      have hnb65 := NB465_467.out
      have hnc65 := NB467_465.out
      have hcz66 := bc3_ BK465.out
      have hfz66 := bf3_ BK465.out
      try go_wp2_with (first | ((with_reducible refine gate_callee (f := 96) rfl ?_); refine goesL_ (some 32) rfl rfl Try.func96 (by kernel_rfl) rfl #[.slice A0_1 l0_1.length c0_1, .int .i64 (wrap64 (a0_2 - x5_22))] rfl (am_ rfl) ?_; (with_reducible refine (cutplaneref01_Up.calls kj22 _ _ l0_1 (wrap64 (a0_2 - x5_22)) t468 _ ?side1 ?side2 A36.out).mono ?_); (case side1 => repeat (first | exact (Kd.V_reads' HO_466001.out).2.2 | (with_reducible refine Kd.C_alloc ?_ _) | (with_reducible refine Kd.C_drewN ?_ _) | (with_reducible refine Kd.C_drew ?_))); (case side2 => exact (Kd.V_reads' HO_466001.out).2.1); rintro e w67 ⟨v469, rfl, ho0, hb⟩; refine ⟨_, rfl, ?_⟩; replace HO_466001 := A0_ (Kd.V_below (by exact vm_ HO_466001.out) hb); replace HO_467001 := A0_ (Kd.V_below (by exact vm_ HO_467001.out) hb); have HO470 := A0_ (Kd.V_lower (Kd.V_mono (ok' := fun k_ => ((P0_1_ k_ ∨ P1_1_ k_) ∨ w.heap.size ≤ k_) ∧ k_ ≠ gb465 ∧ k_ ≠ gb466 ∧ k_ ≠ gb467) ho0 (fun k_ hk_ => ⟨(.inr (Nat.le_trans (below_size qz_) hk_)), (Kd.freshB (bm_ BK465.out) k_ hk_), (Kd.freshB (bm_ BK466.out) k_ hk_), (Kd.freshB (bm_ BK467.out) k_ hk_)⟩)) (below_size qz_)); replace BK465 := bb_ BK465 hb; replace BK466 := bb_ BK466 hb; replace BK467 := bb_ BK467 hb; replace HB := hs_ hb; (try clear hb); (try clear ho0); have hnb68 := NB466_467.out; have hnc68 := NB467_466.out; have hcz69 := bc3_ BK466.out; have hfz69 := bf3_ BK466.out) | ((with_reducible refine gate_callee (f := 96) rfl ?_); refine goesL_ (some 39) rfl rfl Try.func96 (by kernel_rfl) rfl #[.slice A1_1 l1_1.length c1_1, .int .i64 (wrap64 (a1_2 - x5_22))] rfl (am_ rfl) ?_; (with_reducible refine (cutplaneref01_Up.calls kj22 _ _ l1_1 (wrap64 (a1_2 - x5_22)) t471 _ ?side1 ?side2 A37.out).mono ?_); (case side1 => repeat (first | exact (Kd.V_reads' HO_467001.out).2.2 | (with_reducible refine Kd.C_alloc ?_ _) | (with_reducible refine Kd.C_drewN ?_ _) | (with_reducible refine Kd.C_drew ?_))); (case side2 => exact (Kd.V_reads' HO_467001.out).2.1); rintro e w70 ⟨v472, rfl, ho0, hb⟩; refine ⟨_, rfl, ?_⟩; replace HO_466001 := A0_ (Kd.V_below (by exact vm_ HO_466001.out) hb); replace HO_467001 := A0_ (Kd.V_below (by exact vm_ HO_467001.out) hb); replace HO470 := A0_ (Kd.V_below (by exact vm_ HO470.out) hb); have HO473 := A0_ (Kd.V_lower (Kd.V_mono (ok' := fun k_ => ((P0_1_ k_ ∨ P1_1_ k_) ∨ w.heap.size ≤ k_) ∧ k_ ≠ gb465 ∧ k_ ≠ gb466 ∧ k_ ≠ gb467) ho0 (fun k_ hk_ => ⟨(.inr (Nat.le_trans (below_size qz_) hk_)), (Kd.freshB (bm_ BK465.out) k_ hk_), (Kd.freshB (bm_ BK466.out) k_ hk_), (Kd.freshB (bm_ BK467.out) k_ hk_)⟩)) (below_size qz_)); replace BK465 := bb_ BK465 hb; replace BK466 := bb_ BK466 hb; replace BK467 := bb_ BK467 hb; replace HB := hs_ hb; (try clear hb); (try clear ho0); have hcz71 := bc3_ BK465.out; have hfz71 := bf3_ BK465.out; have hcz72 := bc3_ BK466.out; have hfz72 := bf3_ BK466.out; obtain ⟨Ao73, co73, eo73⟩ := Kd.V_slice HO470.out; subst eo73; obtain ⟨Ao74, co74, eo74⟩ := Kd.V_slice HO473.out; subst eo74) | ((with_reducible refine gate_callee (f := 98) rfl ?_); refine goesL_ (some 54) rfl rfl Try.func98 (by kernel_rfl) rfl #[.slice Ao73 t468.length co73, .slice Ao74 t471.length co74] rfl (am_ rfl) ?_; (with_reducible refine (cutplaneref01_Cmp.calls kj22 _ _ t468 _ _ t471 t482 _ ?side1 ?side2 ?side3 ?side4 A60.out).mono ?_); (case side1 => repeat (first | exact (Kd.V_reads' HO470.out).2.2 | (with_reducible refine Kd.C_alloc ?_ _) | (with_reducible refine Kd.C_drewN ?_ _) | (with_reducible refine Kd.C_drew ?_))); (case side2 => exact (Kd.V_reads' HO470.out).2.1); (case side3 => repeat (first | exact (Kd.V_reads' HO473.out).2.2 | (with_reducible refine Kd.C_alloc ?_ _) | (with_reducible refine Kd.C_drewN ?_ _) | (with_reducible refine Kd.C_drew ?_))); (case side4 => exact (Kd.V_reads' HO473.out).2.1); rintro e w' ⟨rfl, ⟨nd, rfl⟩⟩; refine ⟨_, rfl, ?_⟩; (try (rw [drewN_self w70]; generalize hq_ : World.drewN w70 _ = w70; have n0_ : Aside0 (Kd.V (Kd.int .u32) 66 w70 w.heap.size (fun k_ => ((P0_1_ k_ ∨ P1_1_ k_) ∨ w.heap.size ≤ k_) ∧ k_ ≠ gb465 ∧ k_ ≠ gb466 ∧ k_ ≠ gb467) (.slice Ao73 t468.length co73) t468) := ⟨by rw [← hq_]; exact (by exact vm_ HO470.out)⟩; have n1_ : Aside0 (Kd.V (Kd.int .u32) 66 w70 w.heap.size (fun k_ => ((P0_1_ k_ ∨ P1_1_ k_) ∨ w.heap.size ≤ k_) ∧ k_ ≠ gb465 ∧ k_ ≠ gb466 ∧ k_ ≠ gb467) (.slice Ao74 t471.length co74) t471) := ⟨by rw [← hq_]; exact (by exact vm_ HO473.out)⟩; have n2_ : Aside0 (Kd.V (Kd.int .u32) 66 w70 w.heap.size (fun k_ => ((P0_1_ k_ ∨ P1_1_ k_) ∨ w.heap.size ≤ k_) ∧ k_ ≠ gb465 ∧ k_ ≠ gb466 ∧ k_ ≠ gb467) (.slice A0_1 l0_1.length c0_1) l0_1) := ⟨by rw [← hq_]; exact (by exact vm_ HO_466001.out)⟩; have n3_ : Aside0 (Kd.V (Kd.int .u32) 66 w70 w.heap.size (fun k_ => ((P0_1_ k_ ∨ P1_1_ k_) ∨ w.heap.size ≤ k_) ∧ k_ ≠ gb465 ∧ k_ ≠ gb466 ∧ k_ ≠ gb467) (.slice A1_1 l1_1.length c1_1) l1_1) := ⟨by rw [← hq_]; exact (by exact vm_ HO_467001.out)⟩; have n4_ : Aside0 (w70.heap[gb465]? = some (.cells #[.bool a0_0, .slice A0_1 l0_1.length c0_1, .int .i64 a0_2] 69 (0, 0))) := ⟨by rw [← hq_]; exact (bm_ BK465.out)⟩; have n5_ : Aside0 (w70.heap[gb466]? = some (.cells #[.bool a1_0, .slice A1_1 l1_1.length c1_1, .int .i64 a1_2] 69 (0, 0))) := ⟨by rw [← hq_]; exact (bm_ BK466.out)⟩; have n6_ : Aside0 (w70.heap[gb467]? = some (.cells #[.bool false, .slice none 0 0, .int .i64 0] 69 (0, 0))) := ⟨by rw [← hq_]; exact (bm_ BK467.out)⟩; have n7_ : Aside0 (Below w.heap.size w w70) := ⟨by rw [← hq_]; exact qz_⟩; clear HO470 HO473 HO_466001 HO_467001 BK465 BK466 BK467 HB hq_; have HO470 := n0_; have HO473 := n1_; have HO_466001 := n2_; have HO_467001 := n3_; have BK465 := n4_; have BK466 := n5_; have BK467 := n6_; have HB := n7_; clear n0_ n1_ n2_ n3_ n4_ n5_ n6_ n7_))))
      replace HO_466001 := A0_ (Kd.V_drew HO_466001.out)
      replace HO_467001 := A0_ (Kd.V_drew HO_467001.out)
      replace HO470 := A0_ (Kd.V_drew HO470.out)
      replace HO473 := A0_ (Kd.V_drew HO473.out)
      replace BK465 := A0_ (blk_drew BK465.out)
      replace BK466 := A0_ (blk_drew BK466.out)
      replace BK467 := A0_ (blk_drew BK467.out)
      replace HB := A0_ (below_drew1 HB.out)
      refine start_ (n := 8) (S := fun w' => w'.cell? ⟨gb465, 0, none⟩ = some (.bool a0_0) ∧ w'.cell? ⟨gb465, 1, none⟩ = some (.slice A0_1 l0_1.length c0_1) ∧ w'.cell? ⟨gb465, 2, none⟩ = some (.int .i64 a0_2)) (ds := []) #[false, false, false, false, false, false, false, false] (by kernel_rfl) rfl rfl ⟨bC_ BK465.out 0, bC_ BK465.out 1, bC_ BK465.out 2⟩ (fun hHeld => ?_); refine with_tabW cutplaneref02_Add.tab13 cutplaneref02_Add.bits13 (fun HT_ HW_ => ?_)
      generalize w70.drew = w75 at HO_466001 HO_467001 HO470 HO473 BK465 BK466 BK467 HB hHeld ⊢
      refine pure_ (i := 0) (N := some 56) (v := ?_) (a' := ?_) #[true, false, false, false, false, false, false, false] rfl rfl (any_of HT_.out (by kernel_rfl)) (fun _ _ _ h => h) (Or.inl ⟨by rfl, ?_⟩) ?_ ?_
      rotate_left
      ·intro w'
       go_simp
       with_reducible rfl
      rotate_left
      ·simp only [Act.put, sp_, i64_w, i32_w]
       rfl
      refine pure_ (i := 2) (N := some 58) (v := ?_) (a' := ?_) #[true, false, true, false, false, false, false, false] rfl rfl (any_of HT_.out (by kernel_rfl)) (fun _ _ _ h => h) (Or.inl ⟨by rfl, ?_⟩) ?_ ?_
      rotate_left
      ·intro w'
       go_simp
       with_reducible rfl
      rotate_left
      ·simp only [Act.put, sp_, i64_w, i32_w]
       rfl
      refine pure_ (i := 3) (N := some 59) (v := ?_) (a' := ?_) #[true, false, true, true, false, false, false, false] rfl rfl (any_of HT_.out (by kernel_rfl)) (fun _ _ _ h => h) (Or.inl ⟨by rfl, ?_⟩) ?_ ?_
      rotate_left
      ·intro w'
       go_simp
       with_reducible rfl
      rotate_left
      ·simp only [Act.put, sp_, i64_w, i32_w]
       rfl
      refine pure_ (i := 5) (N := some 61) (v := ?_) (a' := ?_) #[true, false, true, true, false, true, false, false] rfl rfl (any_of HT_.out (by kernel_rfl)) (fun _ _ _ h => h) (Or.inl ⟨by rfl, ?_⟩) ?_ ?_
      rotate_left
      ·intro w'
       go_simp
       with_reducible rfl
      rotate_left
      ·simp only [Act.put, sp_, i64_w, i32_w]
       rfl
      refine take_ (i := 1) (N := some 57) (v := ?_) (a' := ?_) #[true, true, true, true, false, true, false, false] rfl rfl (take_ofW HT_.out HW_.out (by kernel_rfl)) (fun _ _ _ h => h) (Or.inl ⟨by rfl, ?_⟩) hHeld ?_ ?_
      rotate_left
      ·rintro w' ⟨s0, s1, s2⟩
       go_simp
       with_reducible rfl
      rotate_left
      ·simp only [Act.put, sp_, i64_w, i32_w]
       rfl
      refine one_ (i := 4) (N := some 60) #[true, true, true, true, true, true, false, false] rfl rfl (one_of HT_.out (by kernel_rfl)) (by decide) (fun K hK => ?_)
      refine goes_ Try.func99 (by kernel_rfl) rfl #[.slice Ao73 t468.length co73, .slice Ao74 t471.length co74] (by rfl) rfl rfl (am_ rfl) ?_
      with_reducible refine (cutplaneref01_Sub.calls kj22 _ _ t468 _ _ t471 t483 _ ?side1 ?side2 ?side3 ?side4 A62.out).mono ?_
      (case side1 => repeat (first | exact (Kd.V_reads' HO470.out).2.2 | (with_reducible refine Kd.C_alloc ?_ _) | (with_reducible refine Kd.C_drewN ?_ _) | (with_reducible refine Kd.C_drew ?_)))
      (case side2 => exact (Kd.V_reads' HO470.out).2.1)
      (case side3 => repeat (first | exact (Kd.V_reads' HO473.out).2.2 | (with_reducible refine Kd.C_alloc ?_ _) | (with_reducible refine Kd.C_drewN ?_ _) | (with_reducible refine Kd.C_drew ?_)))
      (case side4 => exact (Kd.V_reads' HO473.out).2.1)
      rintro e w76 ⟨v484, rfl, ho0, hb⟩
      refine ⟨_, rfl, ?_⟩
      replace HO_466001 := A0_ (Kd.V_below (by exact vm_ HO_466001.out) hb)
      replace HO_467001 := A0_ (Kd.V_below (by exact vm_ HO_467001.out) hb)
      replace HO470 := A0_ (Kd.V_below (by exact vm_ HO470.out) hb)
      replace HO473 := A0_ (Kd.V_below (by exact vm_ HO473.out) hb)
      have HO485 := A0_ (Kd.V_lower (Kd.V_mono (ok' := fun k_ => ((P0_1_ k_ ∨ P1_1_ k_) ∨ w.heap.size ≤ k_) ∧ k_ ≠ gb465 ∧ k_ ≠ gb466 ∧ k_ ≠ gb467) ho0 (fun k_ hk_ => ⟨(.inr (Nat.le_trans (below_size qz_) hk_)), (Kd.freshB (bm_ BK465.out) k_ hk_), (Kd.freshB (bm_ BK466.out) k_ hk_), (Kd.freshB (bm_ BK467.out) k_ hk_)⟩)) (below_size qz_))
      replace BK465 := bb_ BK465 hb
      replace BK466 := bb_ BK466 hb
      replace BK467 := bb_ BK467 hb
      replace HB := hs_ hb
      (try clear hb)
      (try clear ho0)
      obtain ⟨Ao77, co77, eo77⟩ := Kd.V_slice HO485.out
      (first | subst eo77 | (injection eo77 with f1_ f2_ f3_; have f4_ := f1_.symm; have f5_ := f3_.symm; clear f1_ f2_ f3_; subst f4_; subst f5_))
      refine hK.out _ _ ⟨bC_ BK465.out 0, bC_ BK465.out 1, bC_ BK465.out 2⟩ (fun hHeld => ?_)
      clear hK K
      refine norm_ (a' := ?_) ?_ ?_
      rotate_left
      ·show Act.put _ (some 60) _ = _
       simp only [Act.put, sp_, i64_w, i32_w]
       rfl
      refine one_ (i := 6) (N := some 62) #[true, true, true, true, true, true, true, false] rfl rfl (one_of HT_.out (by kernel_rfl)) (by decide) (fun K hK => ?_)
      refine goes_ Try.func93 (by kernel_rfl) rfl #[.bool a0_0, .slice Ao77 t483.length co77, .int .i64 x5_22] (by rfl) rfl rfl (am_ rfl) ?_
      with_reducible refine (cutplaneref02_Form.calls kj22 a0_0 _ _ t483 x5_22 t486 t487 t490 _ ?side1 ?side2 A63.out).mono ?_
      (case side1 => repeat (first | exact (Kd.V_reads' HO485.out).2.2 | (with_reducible refine Kd.C_alloc ?_ _) | (with_reducible refine Kd.C_drewN ?_ _) | (with_reducible refine Kd.C_drew ?_)))
      (case side2 => exact (Kd.V_reads' HO485.out).2.1)
      rintro e w78 ⟨v488, rfl, ho0, hb⟩
      refine ⟨_, rfl, ?_⟩
      replace HO_466001 := A0_ (Kd.V_below (by exact vm_ HO_466001.out) hb)
      replace HO_467001 := A0_ (Kd.V_below (by exact vm_ HO_467001.out) hb)
      replace HO470 := A0_ (Kd.V_below (by exact vm_ HO470.out) hb)
      replace HO473 := A0_ (Kd.V_below (by exact vm_ HO473.out) hb)
      replace HO485 := A0_ (Kd.V_below (by exact vm_ HO485.out) hb)
      have HO489 := A0_ (Kd.V_lower (Kd.V_mono (ok' := fun k_ => ((P0_1_ k_ ∨ P1_1_ k_) ∨ w.heap.size ≤ k_) ∧ k_ ≠ gb465 ∧ k_ ≠ gb466 ∧ k_ ≠ gb467) ho0 (fun k_ hk_ => ⟨(.inr (Nat.le_trans (below_size qz_) hk_)), (Kd.freshB (bm_ BK465.out) k_ hk_), (Kd.freshB (bm_ BK466.out) k_ hk_), (Kd.freshB (bm_ BK467.out) k_ hk_)⟩)) (below_size qz_))
      replace BK465 := bb_ BK465 hb
      replace BK466 := bb_ BK466 hb
      replace BK467 := bb_ BK467 hb
      replace HB := hs_ hb
      (try clear hb)
      (try clear ho0)
      obtain ⟨Ao80, co80, eo80⟩ := Kd.V_slice HO489.out
      (first | subst eo80 | (injection eo80 with f1_ f2_ f3_; have f4_ := f1_.symm; have f5_ := f3_.symm; clear f1_ f2_ f3_; subst f4_; subst f5_))
      refine hK.out _ _ ⟨bC_ BK465.out 0, bC_ BK465.out 1, bC_ BK465.out 2⟩ (fun hHeld => ?_)
      clear hK K
      refine norm_ (a' := ?_) ?_ ?_
      rotate_left
      ·show Act.put _ (some 62) _ = _
       simp only [Act.put, sp_, i64_w, i32_w]
       rfl
      refine one_ (i := 7) (N := none) #[true, true, true, true, true, true, true, true] rfl rfl (one_of HT_.out (by kernel_rfl)) (by decide) (fun K hK => ?_)
      have hs79 : w78.cell? ⟨gb467, 0, none⟩ = some (.bool false) := (blk_cell BK467.out 0).trans rfl
      have hfs79 := blk_frozen BK467.out 0
      have hns79_0 := NB465_467.out
      have hns79_1 := NB466_467.out
      have hms79_0 := NB467_465.out
      have hms79_1 := NB467_466.out
      have hs81 : w78.cell? ⟨gb467, 1, none⟩ = some (.slice none 0 0) := (blk_cell BK467.out 1).trans rfl
      have hfs81 := blk_frozen BK467.out 1
      have hns81_0 := NB465_467.out
      have hns81_1 := NB466_467.out
      have hms81_0 := NB467_465.out
      have hms81_1 := NB467_466.out
      have hs82 : w78.cell? ⟨gb467, 2, none⟩ = some (.int .i64 0) := (blk_cell BK467.out 2).trans rfl
      have hfs82 := blk_frozen BK467.out 2
      have hns82_0 := NB465_467.out
      have hns82_1 := NB466_467.out
      have hms82_0 := NB467_465.out
      have hms82_1 := NB467_466.out
      refine skip_ (w1 := ?_) (by rfl) rfl ?_ ?_
      rotate_left
      ·go_simp
       rfl
      refine hK.out _ _ ⟨((cell_far (p := ⟨gb467, _, none⟩) NB465_467.out _).trans (((cell_far (p := ⟨gb467, _, none⟩) NB465_467.out _).trans (((cell_far (p := ⟨gb467, _, none⟩) NB465_467.out _).trans (hHeld.1)))))), ((cell_far (p := ⟨gb467, _, none⟩) NB465_467.out _).trans (((cell_far (p := ⟨gb467, _, none⟩) NB465_467.out _).trans (((cell_far (p := ⟨gb467, _, none⟩) NB465_467.out _).trans (hHeld.2.1)))))), ((cell_far (p := ⟨gb467, _, none⟩) NB465_467.out _).trans (((cell_far (p := ⟨gb467, _, none⟩) NB465_467.out _).trans (((cell_far (p := ⟨gb467, _, none⟩) NB465_467.out _).trans (hHeld.2.2))))))⟩ (fun hHeld => ?_)
      clear hK K
      refine done_ (done_of HT_.out (by kernel_rfl)) ?_
      try go_wp2
      refine bodyPost_ret (results_cell_row rfl _ _ gb467 69 #[.bool t486, .slice Ao80 t487.length co80, .int .i64 t490] (0, 0) _ rfl (by (with_reducible repeat first | apply bN_ | apply bD_ | apply bA_); refine blk_put (cs := #[.bool t486, .slice Ao80 t487.length co80, .int .i64 0]) ?_ 2 _ rfl; refine blk_put (cs := #[.bool t486, .slice none 0 0, .int .i64 0]) ?_ 1 _ rfl; refine blk_put (cs := #[.bool false, .slice none 0 0, .int .i64 0]) ?_ 0 _ rfl; exact bm_ BK467.out) Try.underlying69 rfl (by kernel_rfl)) rfl ?_
      exact ⟨_, by first | rfl | (simp [errW_none, errW_some] <;> rfl) | (simp [*, errW_none, errW_some] <;> rfl), by (with_reducible repeat (first | apply Kd.V_alloc | apply Kd.V_drewN | apply Kd.V_drew)); exact Kd.V_mono (Kd.V_far (p := ⟨gb467, 2, none⟩) (Kd.V_far (p := ⟨gb467, 1, none⟩) (Kd.V_far (p := ⟨gb467, 0, none⟩) (Kd.V_mono HO489.out (fun k_ hk => (⟨hk, hk.2.2.2⟩ : _ ∧ k_ ≠ gb467))) (fun _ hk => hk.2) (.bool t486)) (fun _ hk => hk.2) (.slice Ao80 t487.length co80)) (fun _ hk => hk.2) (.int .i64 t490)) (fun _ hk => hk.1.1), qz_⟩
end Go.Proofs.Ytlgapmhjaaajfaa.PA
end

section
namespace Go.Proofs.Ytlgapmhjaaajfaa.PA
open Go.RowKit Go.Proofs.YtlgapmhjaaajfaaW.PrintWords Go.Proofs.YtlgapmhjaaajfaaW.PrintLast Go.Proofs.YtlgapmhjaaajfaaW.PrintMore
attribute [local go_sem] max2_int min2_int max_two min_two max_three min_three max_four min_four   -- for this text's walks alone
set_option linter.unusedVariables false
set_option linter.unusedSimpArgs false
def cutplaneref05_Nothing.f (a0 : Int) (a1 : Int) : Option (Int) := (cutplaneref03_Signed.f a0 0 (a1 == 5)).bind fun t686 => (some t686)
theorem cutplaneref05_Nothing.calls (a0 : Int) (a1 : Int) (r : Int) (w : World) (h : cutplaneref05_Nothing.f a0 a1 = some r) :
  Calls Try.prog 77 #[.int .u8 a0, .int .u8 a1] w fun e w' => e = .returned (.int .u64 r) ∧ Drawn0 w w' := by
 have H := h
 clear h
 unfold cutplaneref05_Nothing.f at H
 obtain ⟨t686, A3, H⟩ := bs_ H
 try dsimp -simprocs only at H
 obtain rfl := Option.some.inj H
 go_enter Try.func77, Try.ntmps77
 go_wp2_with (first | ((with_reducible refine gate_callee (f := 45) rfl ?_); refine goesL_ (some 8) rfl rfl Try.func45 (by kernel_rfl) rfl #[.int .u8 a0, .int .u64 0, .bool (a1 == 5)] rfl (am_ rfl) ?_; (with_reducible refine (cutplaneref03_Signed.calls a0 0 (a1 == 5) t686 _ A3.out).mono ?_); rintro e w' ⟨rfl, ⟨nd, rfl⟩⟩; refine ⟨_, rfl, ?_⟩))
 go_ret
 exact ⟨by first | rfl | (simp; done) | (simp [*]; done), by repeat (first | exact Drawn0.refl _ | apply Drawn0.step)⟩
end Go.Proofs.Ytlgapmhjaaajfaa.PA
end

section
namespace Go.Proofs.Ytlgapmhjaaajfaa.PA
open Go.RowKit Go.Proofs.YtlgapmhjaaajfaaW.PrintWords Go.Proofs.YtlgapmhjaaajfaaW.PrintLast Go.Proofs.YtlgapmhjaaajfaaW.PrintMore
attribute [local go_sem] max2_int min2_int max_two min_two max_three min_three max_four min_four   -- for this text's walks alone
set_option linter.unusedVariables false
set_option linter.unusedSimpArgs false
mutual
def cutplaneref05_Add.j0 : Nat → Int → Int → Int → Int → Bool → Option (Int × Int)
 | 0, _, _, _, _, _ => none
 | k + 1, x0, x1, x2, x3, x28 => if x28 = true then (none) else ((cutplaneref05_inf.f k x0 x2).bind fun t691 => (if t691 = true then (none) else ((cutplaneref05_inf.f k x0 x3).bind fun t692 => (if t692 = true then (none) else ((cutplaneref05_zero.f k x0 x2).bind fun t693 => (if t693 = true then (cutplaneref05_Add.j1 k x0 x1 x2 x3 (x2 == x3)) else (cutplaneref05_Add.j1 k x0 x1 x2 x3 false)))))))
def cutplaneref05_Add.j1 : Nat → Int → Int → Int → Int → Bool → Option (Int × Int)
 | 0, _, _, _, _, _ => none
 | k + 1, x0, x1, x2, x3, x50 => if x50 = true then (some (x2, 0)) else ((cutplaneref03_Value.f k x0 x2).bind fun bt694 => ((cutplaneref03_Value.f k x0 x3).bind fun bt699 => ((cutplaneref02_Add.f k bt694.1 bt694.2.1 bt694.2.2 bt699.1 bt699.2.1 bt699.2.2).bind fun bt704 => ((cutplaneref02_Sign.f bt704.1 bt704.2.1 bt704.2.2).bind fun t710 => (if t710 = 0 then ((cutplaneref05_Nothing.f x0 x1).bind fun t711 => (some (t711, 0))) else ((cutplaneref04_Round.f k x0 x1 bt704.1 bt704.2.1 bt704.2.2).bind fun bt712 => (some (bt712.1, bt712.2))))))))
end
def cutplaneref05_Add.f (k : Nat) (a0 : Int) (a1 : Int) (a2 : Int) (a3 : Int) : Option (Int × Int) := (cutplaneref05_nan.f k a0 a2).bind fun t687 => (if t687 = true then (none) else ((cutplaneref05_nan.f k a0 a3).bind fun t688 => (if t688 = true then (none) else ((cutplaneref05_inf.f k a0 a2).bind fun t689 => (if t689 = true then ((cutplaneref05_inf.f k a0 a3).bind fun t690 => (cutplaneref05_Add.j0 k a0 a1 a2 a3 t690)) else (cutplaneref05_Add.j0 k a0 a1 a2 a3 false))))))
theorem cutplaneref05_Add.mono_l : ∀ k, (∀ y0 y1 y2 y3 y4, LeO (cutplaneref05_Add.j0 k y0 y1 y2 y3 y4) (cutplaneref05_Add.j0 (k + 1) y0 y1 y2 y3 y4)) ∧ (∀ y0 y1 y2 y3 y4, LeO (cutplaneref05_Add.j1 k y0 y1 y2 y3 y4) (cutplaneref05_Add.j1 (k + 1) y0 y1 y2 y3 y4))
 | 0 => ⟨fun _ _ _ _ _ r h => by simp [cutplaneref05_Add.j0] at h, fun _ _ _ _ _ r h => by simp [cutplaneref05_Add.j1] at h⟩
 | k + 1 => by
  obtain ⟨ih0, ih1⟩ := cutplaneref05_Add.mono_l k
  refine ⟨?_, ?_⟩
  ·intro y0 y1 y2 y3 y4
   unfold cutplaneref05_Add.j0
   repeat' first
   | (with_reducible exact ih0 _ _ _ _ _)
   | (with_reducible exact ih1 _ _ _ _ _)
   | (with_reducible exact cutplaneref02_Add.mono _ _ _ _ _ _ _)
   | (with_reducible exact cutplaneref03_Value.mono _ _ _)
   | (with_reducible exact cutplaneref04_Round.mono _ _ _ _ _ _)
   | (with_reducible exact cutplaneref05_inf.mono _ _ _)
   | (with_reducible exact cutplaneref05_nan.mono _ _ _)
   | (with_reducible exact cutplaneref05_zero.mono _ _ _)
   | (with_reducible exact LeO.refl _)
   | (with_reducible exact LeO.none _)
   | (with_reducible refine LeO.ite ?_ ?_)
   | (with_reducible refine LeO.bind ?_ (fun _ => ?_))
   | exact ih0 _ _ _ _ _
   | exact ih1 _ _ _ _ _
   | exact cutplaneref02_Add.mono _ _ _ _ _ _ _
   | exact cutplaneref03_Value.mono _ _ _
   | exact cutplaneref04_Round.mono _ _ _ _ _ _
   | exact cutplaneref05_inf.mono _ _ _
   | exact cutplaneref05_nan.mono _ _ _
   | exact cutplaneref05_zero.mono _ _ _
   | exact LeO.none _
   | refine LeO.ite ?_ ?_
   | refine LeO.bind ?_ (fun _ => ?_)
  ·intro y0 y1 y2 y3 y4
   unfold cutplaneref05_Add.j1
   repeat' first
   | (with_reducible exact ih0 _ _ _ _ _)
   | (with_reducible exact ih1 _ _ _ _ _)
   | (with_reducible exact cutplaneref02_Add.mono _ _ _ _ _ _ _)
   | (with_reducible exact cutplaneref03_Value.mono _ _ _)
   | (with_reducible exact cutplaneref04_Round.mono _ _ _ _ _ _)
   | (with_reducible exact cutplaneref05_inf.mono _ _ _)
   | (with_reducible exact cutplaneref05_nan.mono _ _ _)
   | (with_reducible exact cutplaneref05_zero.mono _ _ _)
   | (with_reducible exact LeO.refl _)
   | (with_reducible exact LeO.none _)
   | (with_reducible refine LeO.ite ?_ ?_)
   | (with_reducible refine LeO.bind ?_ (fun _ => ?_))
   | exact ih0 _ _ _ _ _
   | exact ih1 _ _ _ _ _
   | exact cutplaneref02_Add.mono _ _ _ _ _ _ _
   | exact cutplaneref03_Value.mono _ _ _
   | exact cutplaneref04_Round.mono _ _ _ _ _ _
   | exact cutplaneref05_inf.mono _ _ _
   | exact cutplaneref05_nan.mono _ _ _
   | exact cutplaneref05_zero.mono _ _ _
   | exact LeO.none _
   | refine LeO.ite ?_ ?_
   | refine LeO.bind ?_ (fun _ => ?_)
theorem cutplaneref05_Add.mono : ∀ a0 a1 a2 a3 k, LeO (cutplaneref05_Add.f k a0 a1 a2 a3) (cutplaneref05_Add.f (k + 1) a0 a1 a2 a3) := by
 intro a0 a1 a2 a3 k
 obtain ⟨ih0, ih1⟩ := cutplaneref05_Add.mono_l k
 unfold cutplaneref05_Add.f
 repeat' first
   | (with_reducible exact ih0 _ _ _ _ _)
   | (with_reducible exact ih1 _ _ _ _ _)
   | (with_reducible exact cutplaneref02_Add.mono _ _ _ _ _ _ _)
   | (with_reducible exact cutplaneref03_Value.mono _ _ _)
   | (with_reducible exact cutplaneref04_Round.mono _ _ _ _ _ _)
   | (with_reducible exact cutplaneref05_inf.mono _ _ _)
   | (with_reducible exact cutplaneref05_nan.mono _ _ _)
   | (with_reducible exact cutplaneref05_zero.mono _ _ _)
   | (with_reducible exact LeO.refl _)
   | (with_reducible exact LeO.none _)
   | (with_reducible refine LeO.ite ?_ ?_)
   | (with_reducible refine LeO.bind ?_ (fun _ => ?_))
   | exact ih0 _ _ _ _ _
   | exact ih1 _ _ _ _ _
   | exact cutplaneref02_Add.mono _ _ _ _ _ _ _
   | exact cutplaneref03_Value.mono _ _ _
   | exact cutplaneref04_Round.mono _ _ _ _ _ _
   | exact cutplaneref05_inf.mono _ _ _
   | exact cutplaneref05_nan.mono _ _ _
   | exact cutplaneref05_zero.mono _ _ _
   | exact LeO.none _
   | refine LeO.ite ?_ ?_
   | refine LeO.bind ?_ (fun _ => ?_)
theorem cutplaneref05_Add.calls (k : Nat) (a0 : Int) (a1 : Int) (a2 : Int) (a3 : Int) (r1 : Int) (r2 : Int) (w : World) (h : cutplaneref05_Add.f k a0 a1 a2 a3 = some (r1, r2)) :
  Calls Try.prog 49 #[.int .u8 a0, .int .u8 a1, .int .u64 a2, .int .u64 a3] w fun e w' => e = .returned (.tuple #[.int .u64 r1, .int .u8 r2]) ∧ Below w.heap.size w w' := by
 have hu69 := Try.underlying69
 have HB := A0_ (Below.refl w.heap.size w)
 have H := h
 clear h
 unfold cutplaneref05_Add.f at H
 obtain ⟨t687, A5, H⟩ := bs_ H
 try dsimp -simprocs only at H
 by_cases c6 : t687 = true
 ·subst c6
  rw [if_pos rfl] at H
  exact absurd H (by simp)
 ·replace c6 := Bool.eq_false_iff.mpr c6
  subst c6
  rw [if_neg (show ¬ (false = true) by decide)] at H
  obtain ⟨t688, A7, H⟩ := bs_ H
  try dsimp -simprocs only at H
  by_cases c8 : t688 = true
  ·subst c8
   rw [if_pos rfl] at H
   exact absurd H (by simp)
  ·replace c8 := Bool.eq_false_iff.mpr c8
   subst c8
   rw [if_neg (show ¬ (false = true) by decide)] at H
   have HC9 := A0_ H
   clear H
   go_enter Try.func49, Try.ntmps49
   go_upto_region 3 with (first | ((with_reducible refine gate_callee (f := 68) rfl ?_); refine goesL_ (some 13) rfl rfl Try.func68 (by kernel_rfl) rfl #[.int .u8 a0, .int .u64 a2] rfl (am_ rfl) ?_; (with_reducible refine (cutplaneref05_nan.calls k a0 a2 false _ A5.out).mono ?_); rintro e w10 ⟨rfl, hb⟩; refine ⟨_, rfl, ?_⟩; replace HB := hs_ hb; (try clear hb)) | (go_at_call 68; (with_reducible refine (cutplaneref05_nan.calls k a0 a3 false _ A7.out).mono ?_); rintro e w11 ⟨rfl, hb⟩; replace HB := hs_ hb; (try clear hb)))
   (try simp only [Act.put, sp_])
   go_cut [28] (fun v28 wc => ∃ (kq : Nat) (x28_8 : Bool), v28 = .bool x28_8 ∧ Aside0 (cutplaneref05_Add.j0 kq a0 a1 a2 a3 x28_8 = some (r1, r2)) ∧ Aside0 (kq ≤ k) ∧ Aside0 (Below w.heap.size w wc))
   case first =>
    have H := HC9.out
    clear HC9
    obtain ⟨t689, A12, H⟩ := bs_ H
    try dsimp -simprocs only at H
    by_cases c13 : t689 = true
    ·subst c13
     rw [if_pos rfl] at H
     obtain ⟨t690, A14, H⟩ := bs_ H
     try dsimp -simprocs only at H
     have H' := A0_ H
     clear H
     go_wp2_with (first | ((with_reducible refine gate_callee (f := 69) rfl ?_); refine goesL_ (some 23) rfl rfl Try.func69 (by kernel_rfl) rfl #[.int .u8 a0, .int .u64 a2] rfl (am_ rfl) ?_; (with_reducible refine (cutplaneref05_inf.calls k a0 a2 true _ A12.out).mono ?_); rintro e w15 ⟨rfl, hb⟩; refine ⟨_, rfl, ?_⟩; replace HB := hs_ hb; (try clear hb)) | (go_at_call 69; (with_reducible refine (cutplaneref05_inf.calls k a0 a3 t690 _ A14.out).mono ?_); rintro e w16 ⟨rfl, hb⟩; replace HB := hs_ hb; (try clear hb)))
     go_meet
     case rel => exact ⟨_, (t690), (by first | rfl | (simp; done) | (simp [*]; done)), H', ⟨by first | omega | exact Nat.le_refl _⟩, ⟨qm_ HB.out⟩⟩
    ·replace c13 := Bool.eq_false_iff.mpr c13
     subst c13
     rw [if_neg (show ¬ (false = true) by decide)] at H
     have H' := A0_ H
     clear H
     go_wp2_with (first | ((with_reducible refine gate_callee (f := 69) rfl ?_); refine goesL_ (some 23) rfl rfl Try.func69 (by kernel_rfl) rfl #[.int .u8 a0, .int .u64 a2] rfl (am_ rfl) ?_; (with_reducible refine (cutplaneref05_inf.calls k a0 a2 false _ A12.out).mono ?_); rintro e w17 ⟨rfl, hb⟩; refine ⟨_, rfl, ?_⟩; replace HB := hs_ hb; (try clear hb)))
     go_meet
     case rel => exact ⟨_, (false), (by first | rfl | (simp; done) | (simp [*]; done)), H', ⟨by first | omega | exact Nat.le_refl _⟩, ⟨qm_ HB.out⟩⟩
   case rest =>
    clear HC9
    try clear c1
    try clear p2
    try clear c4
    try clear c6
    try clear c8
    try clear c13
    obtain ⟨kq, x28_8, rfl, HA, HJ8, HB⟩ := hcut
    cases kq with
    | zero => exact absurd HA.out (by simp [cutplaneref05_Add.j0])
    | succ kj8 =>
     have H := HA.out
     clear HA
     simp only [cutplaneref05_Add.j0] at H
     by_cases c18 : x28_8 = true
     ·subst c18
      rw [if_pos rfl] at H
      exact absurd H (by simp)
     ·replace c18 := Bool.eq_false_iff.mpr c18
      subst c18
      rw [if_neg (show ¬ (false = true) by decide)] at H
      obtain ⟨t691, A19, H⟩ := bs_ H
      try dsimp -simprocs only at H
      by_cases c20 : t691 = true
      ·subst c20
       rw [if_pos rfl] at H
       exact absurd H (by simp)
      ·replace c20 := Bool.eq_false_iff.mpr c20
       subst c20
       rw [if_neg (show ¬ (false = true) by decide)] at H
       obtain ⟨t692, A21, H⟩ := bs_ H
       try dsimp -simprocs only at H
       by_cases c22 : t692 = true
       ·subst c22
        rw [if_pos rfl] at H
        exact absurd H (by simp)
       ·replace c22 := Bool.eq_false_iff.mpr c22
        subst c22
        rw [if_neg (show ¬ (false = true) by decide)] at H
        have HC23 := A0_ H
        clear H
        go_upto_region 11 with (first | ((with_reducible refine gate_callee (f := 69) rfl ?_); refine goesL_ (some 37) rfl rfl Try.func69 (by kernel_rfl) rfl #[.int .u8 a0, .int .u64 a2] rfl (am_ rfl) ?_; (with_reducible refine (cutplaneref05_inf.calls kj8 a0 a2 false _ A19.out).mono ?_); rintro e w24 ⟨rfl, hb⟩; refine ⟨_, rfl, ?_⟩; replace HB := hs_ hb; (try clear hb)) | ((with_reducible refine gate_callee (f := 69) rfl ?_); refine goesL_ (some 41) rfl rfl Try.func69 (by kernel_rfl) rfl #[.int .u8 a0, .int .u64 a3] rfl (am_ rfl) ?_; (with_reducible refine (cutplaneref05_inf.calls kj8 a0 a3 false _ A21.out).mono ?_); rintro e w25 ⟨rfl, hb⟩; refine ⟨_, rfl, ?_⟩; replace HB := hs_ hb; (try clear hb)))
        (try simp only [Act.put, sp_])
        go_cut [50] (fun v50 wc => ∃ (kq : Nat) (x50_22 : Bool), v50 = .bool x50_22 ∧ Aside0 (cutplaneref05_Add.j1 kq a0 a1 a2 a3 x50_22 = some (r1, r2)) ∧ Aside0 (kq ≤ kj8) ∧ Aside0 (Below w.heap.size w wc))
        case first =>
         have H := HC23.out
         clear HC23
         obtain ⟨t693, A26, H⟩ := bs_ H
         try dsimp -simprocs only at H
         by_cases c27 : t693 = true
         ·subst c27
          rw [if_pos rfl] at H
          have H' := A0_ H
          clear H
          go_wp2_with (first | ((with_reducible refine gate_callee (f := 70) rfl ?_); refine goesL_ (some 45) rfl rfl Try.func70 (by kernel_rfl) rfl #[.int .u8 a0, .int .u64 a2] rfl (am_ rfl) ?_; (with_reducible refine (cutplaneref05_zero.calls kj8 a0 a2 true _ A26.out).mono ?_); rintro e w28 ⟨rfl, hb⟩; refine ⟨_, rfl, ?_⟩; replace HB := hs_ hb; (try clear hb)))
          go_meet
          case rel => exact ⟨_, ((a2 == a3)), (by first | rfl | (simp; done) | (simp [*]; done)), H', ⟨by have := HJ8.out; first | omega | exact Nat.le_refl _⟩, ⟨qm_ HB.out⟩⟩
         ·replace c27 := Bool.eq_false_iff.mpr c27
          subst c27
          rw [if_neg (show ¬ (false = true) by decide)] at H
          have H' := A0_ H
          clear H
          go_wp2_with (first | ((with_reducible refine gate_callee (f := 70) rfl ?_); refine goesL_ (some 45) rfl rfl Try.func70 (by kernel_rfl) rfl #[.int .u8 a0, .int .u64 a2] rfl (am_ rfl) ?_; (with_reducible refine (cutplaneref05_zero.calls kj8 a0 a2 false _ A26.out).mono ?_); rintro e w29 ⟨rfl, hb⟩; refine ⟨_, rfl, ?_⟩; replace HB := hs_ hb; (try clear hb)))
          go_meet
          case rel => exact ⟨_, (false), (by first | rfl | (simp; done) | (simp [*]; done)), H', ⟨by have := HJ8.out; first | omega | exact Nat.le_refl _⟩, ⟨qm_ HB.out⟩⟩
        case rest =>
         clear HC23
         try clear c1
         try clear c2
         try clear p2
         try clear c4
         try clear c6
         try clear c7
         try clear c8
         try clear c13
         try clear c18
         try clear c20
         try clear c22
         try clear c27
         try clear p2
         obtain ⟨kq, x50_22, rfl, HA, HJ22, HB⟩ := hcut
         cases kq with
         | zero => exact absurd HA.out (by simp [cutplaneref05_Add.j1])
         | succ kj22 =>
          have H := HA.out
          clear HA
          simp only [cutplaneref05_Add.j1] at H
          by_cases c30 : x50_22 = true
          ·subst c30
           rw [if_pos rfl] at H
           simp only [Option.some.injEq, Prod.mk.injEq] at H
           obtain ⟨rfl, rfl⟩ := H
           go_wp2
           go_ret2
           exact ⟨by first | rfl | (simp [errW_none, errW_some] <;> rfl) | (simp [*, errW_none, errW_some] <;> rfl), qm_ HB.out⟩
          ·replace c30 := Bool.eq_false_iff.mpr c30
           subst c30
           rw [if_neg (show ¬ (false = true) by decide)] at H
           obtain ⟨⟨t694, t695, t698⟩, A31, H⟩ := bs_ H
           try dsimp -simprocs only at H
           obtain ⟨⟨t699, t700, t703⟩, A32, H⟩ := bs_ H
           try dsimp -simprocs only at H
           obtain ⟨⟨t704, t705, t708⟩, A33, H⟩ := bs_ H
           try dsimp -simprocs only at H
           obtain ⟨t710, A34, H⟩ := bs_ H
           try dsimp -simprocs only at H
           by_cases c35 : t710 = 0
           ·rw [if_pos c35] at H
            have c35b0 : (t710 == 0) = true := beq_iff_eq.mpr c35
            have c35b1 : (t710 != 0) = false := bne_eq_false_iff_eq.mpr c35
            clear c35
            obtain ⟨t711, A36, H⟩ := bs_ H
            try dsimp -simprocs only at H
            simp only [Option.some.injEq, Prod.mk.injEq] at H
            obtain ⟨rfl, rfl⟩ := H
            go_wp2_with (first | ((with_reducible refine gate_callee (f := 74) rfl ?_); refine goesL_ (some 54) rfl rfl Try.func74 (by kernel_rfl) rfl #[.int .u8 a0, .int .u64 a2] rfl (am_ rfl) ?_; (with_reducible refine (cutplaneref03_Value.calls kj22 a0 a2 t694 t695 t698 _ A31.out).mono ?_); rintro e w37 ⟨v696, rfl, ho0, hb⟩; refine ⟨_, rfl, ?_⟩; have HO697 := A0_ (Kd.V_lower (Kd.V_mono (ok' := fun k_ => True) ho0 (fun k_ hk_ => trivial)) (below_size (qm_ HB.out))); replace HB := hs_ hb; (try clear hb); (try clear ho0)) | ((with_reducible refine gate_callee (f := 74) rfl ?_); refine goesL_ (some 57) rfl rfl Try.func74 (by kernel_rfl) rfl #[.int .u8 a0, .int .u64 a3] rfl (am_ rfl) ?_; (with_reducible refine (cutplaneref03_Value.calls kj22 a0 a3 t699 t700 t703 _ A32.out).mono ?_); rintro e w38 ⟨v701, rfl, ho0, hb⟩; refine ⟨_, rfl, ?_⟩; replace HO697 := A0_ (Kd.V_below (by exact vm_ HO697.out) hb); have HO702 := A0_ (Kd.V_lower (Kd.V_mono (ok' := fun k_ => True) ho0 (fun k_ hk_ => trivial)) (below_size (qm_ HB.out))); replace HB := hs_ hb; (try clear hb); (try clear ho0); obtain ⟨Ao39, co39, eo39⟩ := Kd.V_slice HO697.out; subst eo39; obtain ⟨Ao40, co40, eo40⟩ := Kd.V_slice HO702.out; subst eo40) | ((with_reducible refine gate_callee (f := 75) rfl ?_); refine goesL_ (some 58) rfl rfl Try.func75 (by kernel_rfl) rfl #[.agg #[.bool t694, .slice Ao39 t695.length co39, .int .i64 t698], .agg #[.bool t699, .slice Ao40 t700.length co40, .int .i64 t703]] rfl (am_ rfl) ?_; (with_reducible refine (cutplaneref02_Add.calls kj22 t694 (fun k_ => True) _ _ t695 t698 t699 (fun k_ => True) _ _ t700 t703 t704 t705 t708 _ ?side1 ?side2 A33.out).mono ?_); (case side1 => exact HO697.out); (case side2 => exact HO702.out); rintro e w41 ⟨v706, rfl, ho0, hb⟩; refine ⟨_, rfl, ?_⟩; replace HO697 := A0_ (Kd.V_below (by exact vm_ HO697.out) hb); replace HO702 := A0_ (Kd.V_below (by exact vm_ HO702.out) hb); have HO707 := A0_ (Kd.V_lower (Kd.V_mono (ok' := fun k_ => True) ho0 (fun k_ hk_ => trivial)) (below_size (qm_ HB.out))); replace HB := hs_ hb; (try clear hb); (try clear ho0)) | ((with_reducible refine gate_dst (N := 10) rfl ?_); refine box_event ?hg (N := 10) ?hd (cs := #[.bool false, .slice none 0 0, .int .i64 0]) (t := 69) ?hr ?_; (case hd => rfl); (case hg => rfl); (case hr => first | (go_simp; done) | (go_simp; rfl)); intro gb709 hg w42 hbox hb; replace HO697 := A0_ (Kd.V_below (Kd.V_elderB (by exact vm_ HO697.out) gb709 (Nat.le_of_eq hg.symm)) hb); replace HO702 := A0_ (Kd.V_below (Kd.V_elderB (by exact vm_ HO702.out) gb709 (Nat.le_of_eq hg.symm)) hb); replace HO707 := A0_ (Kd.V_below (Kd.V_elderB (by exact vm_ HO707.out) gb709 (Nat.le_of_eq hg.symm)) hb); have BK709 := A0_ (hbox); have GW709 := A0_ ((by rw [hg]; exact (below_size (qm_ HB.out)) : w.heap.size ≤ gb709)); have GE709 := GW709; replace HB := hs_ hb; clear hb hbox hg; have hcz43 := bc3_ BK709.out; have hfz43 := bf3_ BK709.out; obtain ⟨Ao44, co44, eo44⟩ := Kd.V_slice HO707.out; subst eo44) | ((with_reducible refine gate_callee (f := 76) rfl ?_); refine goesL_ (some 60) rfl rfl Try.func76 (by kernel_rfl) rfl #[.agg #[.bool t704, .slice Ao44 t705.length co44, .int .i64 t708]] rfl (am_ rfl) ?_; (with_reducible refine (cutplaneref02_Sign.calls t704 _ _ t705 t708 t710 _ ?side1 ?side2 A34.out).mono ?_); (case side1 => refine (Kd.V_reads' (e := 66) (base := w.heap.size) (ok := fun k_ => (True ∧ k_ ≠ gb709)) (n := t705.length) (c := co44) ?_).2.2; exact (by (with_reducible repeat (first | apply Kd.V_alloc | apply Kd.V_drewN | apply Kd.V_drew)); exact (Kd.V_mono (Kd.V_far (p := ⟨gb709, 2, none⟩) (Kd.V_far (p := ⟨gb709, 1, none⟩) (Kd.V_far (p := ⟨gb709, 0, none⟩) (Kd.V_mono HO707.out (fun k_ hk => (⟨hk, hk.2⟩ : _ ∧ k_ ≠ gb709))) (fun _ hk => hk.2) (.bool t704)) (fun _ hk => hk.2) (.slice Ao44 t705.length co44)) (fun _ hk => hk.2) (.int .i64 t708)) (fun _ h_ => h_.1)))); (case side2 => exact (Kd.V_reads' HO707.out).2.1); rintro e w45 ⟨rfl, hb⟩; refine ⟨_, rfl, ?_⟩; replace HO697 := A0_ (Kd.V_below (by (with_reducible repeat (first | apply Kd.V_alloc | apply Kd.V_drewN | apply Kd.V_drew)); exact (Kd.V_mono (Kd.V_far (p := ⟨gb709, 2, none⟩) (Kd.V_far (p := ⟨gb709, 1, none⟩) (Kd.V_far (p := ⟨gb709, 0, none⟩) (Kd.V_mono HO697.out (fun k_ hk => (⟨hk, hk.2⟩ : _ ∧ k_ ≠ gb709))) (fun _ hk => hk.2) (.bool t704)) (fun _ hk => hk.2) (.slice Ao44 t705.length co44)) (fun _ hk => hk.2) (.int .i64 t708)) (fun _ h_ => h_.1))) hb); replace HO702 := A0_ (Kd.V_below (by (with_reducible repeat (first | apply Kd.V_alloc | apply Kd.V_drewN | apply Kd.V_drew)); exact (Kd.V_mono (Kd.V_far (p := ⟨gb709, 2, none⟩) (Kd.V_far (p := ⟨gb709, 1, none⟩) (Kd.V_far (p := ⟨gb709, 0, none⟩) (Kd.V_mono HO702.out (fun k_ hk => (⟨hk, hk.2⟩ : _ ∧ k_ ≠ gb709))) (fun _ hk => hk.2) (.bool t704)) (fun _ hk => hk.2) (.slice Ao44 t705.length co44)) (fun _ hk => hk.2) (.int .i64 t708)) (fun _ h_ => h_.1))) hb); replace HO707 := A0_ (Kd.V_below (by (with_reducible repeat (first | apply Kd.V_alloc | apply Kd.V_drewN | apply Kd.V_drew)); exact (Kd.V_mono (Kd.V_far (p := ⟨gb709, 2, none⟩) (Kd.V_far (p := ⟨gb709, 1, none⟩) (Kd.V_far (p := ⟨gb709, 0, none⟩) (Kd.V_mono HO707.out (fun k_ hk => (⟨hk, hk.2⟩ : _ ∧ k_ ≠ gb709))) (fun _ hk => hk.2) (.bool t704)) (fun _ hk => hk.2) (.slice Ao44 t705.length co44)) (fun _ hk => hk.2) (.int .i64 t708)) (fun _ h_ => h_.1))) hb); replace BK709 := A0_ (blk_below (g := gb709) (o := .cells #[.bool t704, .slice Ao44 t705.length co44, .int .i64 t708] 69 (0, 0)) (by (with_reducible repeat first | apply bN_ | apply bD_ | apply bA_); refine blk_put (cs := #[.bool t704, .slice Ao44 t705.length co44, .int .i64 0]) ?_ 2 _ rfl; refine blk_put (cs := #[.bool t704, .slice none 0 0, .int .i64 0]) ?_ 1 _ rfl; refine blk_put (cs := #[.bool false, .slice none 0 0, .int .i64 0]) ?_ 0 _ rfl; exact bm_ BK709.out) hb); replace HB := hs_ hb; (try clear hb)) | ((with_reducible refine gate_callee (f := 77) rfl ?_); refine goesL_ (some 64) rfl rfl Try.func77 (by kernel_rfl) rfl #[.int .u8 a0, .int .u8 a1] rfl (am_ rfl) ?_; (with_reducible refine (cutplaneref05_Nothing.calls a0 a1 t711 _ A36.out).mono ?_); rintro e w' ⟨rfl, ⟨nd, rfl⟩⟩; refine ⟨_, rfl, ?_⟩))
            go_ret2
            exact ⟨by first | rfl | (simp [errW_none, errW_some] <;> rfl) | (simp [*, errW_none, errW_some] <;> rfl), qz_⟩
           ·rw [if_neg c35] at H
            have c35b0 : (t710 == 0) = false := beq_eq_false_iff_ne.mpr c35
            have c35b1 : (t710 != 0) = true := bne_iff_ne.mpr c35
            obtain ⟨⟨t712, t713⟩, A46, H⟩ := bs_ H
            try dsimp -simprocs only at H
            simp only [Option.some.injEq, Prod.mk.injEq] at H
            obtain ⟨rfl, rfl⟩ := H
            go_wp2_with (first | ((with_reducible refine gate_callee (f := 74) rfl ?_); refine goesL_ (some 54) rfl rfl Try.func74 (by kernel_rfl) rfl #[.int .u8 a0, .int .u64 a2] rfl (am_ rfl) ?_; (with_reducible refine (cutplaneref03_Value.calls kj22 a0 a2 t694 t695 t698 _ A31.out).mono ?_); rintro e w47 ⟨v696, rfl, ho0, hb⟩; refine ⟨_, rfl, ?_⟩; have HO697 := A0_ (Kd.V_lower (Kd.V_mono (ok' := fun k_ => True) ho0 (fun k_ hk_ => trivial)) (below_size (qm_ HB.out))); replace HB := hs_ hb; (try clear hb); (try clear ho0)) | ((with_reducible refine gate_callee (f := 74) rfl ?_); refine goesL_ (some 57) rfl rfl Try.func74 (by kernel_rfl) rfl #[.int .u8 a0, .int .u64 a3] rfl (am_ rfl) ?_; (with_reducible refine (cutplaneref03_Value.calls kj22 a0 a3 t699 t700 t703 _ A32.out).mono ?_); rintro e w48 ⟨v701, rfl, ho0, hb⟩; refine ⟨_, rfl, ?_⟩; replace HO697 := A0_ (Kd.V_below (by exact vm_ HO697.out) hb); have HO702 := A0_ (Kd.V_lower (Kd.V_mono (ok' := fun k_ => True) ho0 (fun k_ hk_ => trivial)) (below_size (qm_ HB.out))); replace HB := hs_ hb; (try clear hb); (try clear ho0); obtain ⟨Ao49, co49, eo49⟩ := Kd.V_slice HO697.out; subst eo49; obtain ⟨Ao50, co50, eo50⟩ := Kd.V_slice HO702.out; subst eo50) | ((with_reducible refine gate_callee (f := 75) rfl ?_); refine goesL_ (some 58) rfl rfl Try.func75 (by kernel_rfl) rfl #[.agg #[.bool t694, .slice Ao49 t695.length co49, .int .i64 t698], .agg #[.bool t699, .slice Ao50 t700.length co50, .int .i64 t703]] rfl (am_ rfl) ?_; (with_reducible refine (cutplaneref02_Add.calls kj22 t694 (fun k_ => True) _ _ t695 t698 t699 (fun k_ => True) _ _ t700 t703 t704 t705 t708 _ ?side1 ?side2 A33.out).mono ?_); (case side1 => exact HO697.out); (case side2 => exact HO702.out); rintro e w51 ⟨v706, rfl, ho0, hb⟩; refine ⟨_, rfl, ?_⟩; replace HO697 := A0_ (Kd.V_below (by exact vm_ HO697.out) hb); replace HO702 := A0_ (Kd.V_below (by exact vm_ HO702.out) hb); have HO707 := A0_ (Kd.V_lower (Kd.V_mono (ok' := fun k_ => True) ho0 (fun k_ hk_ => trivial)) (below_size (qm_ HB.out))); replace HB := hs_ hb; (try clear hb); (try clear ho0)) | ((with_reducible refine gate_dst (N := 10) rfl ?_); refine box_event ?hg (N := 10) ?hd (cs := #[.bool false, .slice none 0 0, .int .i64 0]) (t := 69) ?hr ?_; (case hd => rfl); (case hg => rfl); (case hr => first | (go_simp; done) | (go_simp; rfl)); intro gb709 hg w52 hbox hb; replace HO697 := A0_ (Kd.V_below (Kd.V_elderB (by exact vm_ HO697.out) gb709 (Nat.le_of_eq hg.symm)) hb); replace HO702 := A0_ (Kd.V_below (Kd.V_elderB (by exact vm_ HO702.out) gb709 (Nat.le_of_eq hg.symm)) hb); replace HO707 := A0_ (Kd.V_below (Kd.V_elderB (by exact vm_ HO707.out) gb709 (Nat.le_of_eq hg.symm)) hb); have BK709 := A0_ (hbox); have GW709 := A0_ ((by rw [hg]; exact (below_size (qm_ HB.out)) : w.heap.size ≤ gb709)); have GE709 := GW709; replace HB := hs_ hb; clear hb hbox hg; have hcz53 := bc3_ BK709.out; have hfz53 := bf3_ BK709.out; obtain ⟨Ao54, co54, eo54⟩ := Kd.V_slice HO707.out; subst eo54) | ((with_reducible refine gate_callee (f := 76) rfl ?_); refine goesL_ (some 60) rfl rfl Try.func76 (by kernel_rfl) rfl #[.agg #[.bool t704, .slice Ao54 t705.length co54, .int .i64 t708]] rfl (am_ rfl) ?_; (with_reducible refine (cutplaneref02_Sign.calls t704 _ _ t705 t708 t710 _ ?side1 ?side2 A34.out).mono ?_); (case side1 => refine (Kd.V_reads' (e := 66) (base := w.heap.size) (ok := fun k_ => (True ∧ k_ ≠ gb709)) (n := t705.length) (c := co54) ?_).2.2; exact (by (with_reducible repeat (first | apply Kd.V_alloc | apply Kd.V_drewN | apply Kd.V_drew)); exact (Kd.V_mono (Kd.V_far (p := ⟨gb709, 2, none⟩) (Kd.V_far (p := ⟨gb709, 1, none⟩) (Kd.V_far (p := ⟨gb709, 0, none⟩) (Kd.V_mono HO707.out (fun k_ hk => (⟨hk, hk.2⟩ : _ ∧ k_ ≠ gb709))) (fun _ hk => hk.2) (.bool t704)) (fun _ hk => hk.2) (.slice Ao54 t705.length co54)) (fun _ hk => hk.2) (.int .i64 t708)) (fun _ h_ => h_.1)))); (case side2 => exact (Kd.V_reads' HO707.out).2.1); rintro e w55 ⟨rfl, hb⟩; refine ⟨_, rfl, ?_⟩; replace HO697 := A0_ (Kd.V_below (by (with_reducible repeat (first | apply Kd.V_alloc | apply Kd.V_drewN | apply Kd.V_drew)); exact (Kd.V_mono (Kd.V_far (p := ⟨gb709, 2, none⟩) (Kd.V_far (p := ⟨gb709, 1, none⟩) (Kd.V_far (p := ⟨gb709, 0, none⟩) (Kd.V_mono HO697.out (fun k_ hk => (⟨hk, hk.2⟩ : _ ∧ k_ ≠ gb709))) (fun _ hk => hk.2) (.bool t704)) (fun _ hk => hk.2) (.slice Ao54 t705.length co54)) (fun _ hk => hk.2) (.int .i64 t708)) (fun _ h_ => h_.1))) hb); replace HO702 := A0_ (Kd.V_below (by (with_reducible repeat (first | apply Kd.V_alloc | apply Kd.V_drewN | apply Kd.V_drew)); exact (Kd.V_mono (Kd.V_far (p := ⟨gb709, 2, none⟩) (Kd.V_far (p := ⟨gb709, 1, none⟩) (Kd.V_far (p := ⟨gb709, 0, none⟩) (Kd.V_mono HO702.out (fun k_ hk => (⟨hk, hk.2⟩ : _ ∧ k_ ≠ gb709))) (fun _ hk => hk.2) (.bool t704)) (fun _ hk => hk.2) (.slice Ao54 t705.length co54)) (fun _ hk => hk.2) (.int .i64 t708)) (fun _ h_ => h_.1))) hb); replace HO707 := A0_ (Kd.V_below (by (with_reducible repeat (first | apply Kd.V_alloc | apply Kd.V_drewN | apply Kd.V_drew)); exact (Kd.V_mono (Kd.V_far (p := ⟨gb709, 2, none⟩) (Kd.V_far (p := ⟨gb709, 1, none⟩) (Kd.V_far (p := ⟨gb709, 0, none⟩) (Kd.V_mono HO707.out (fun k_ hk => (⟨hk, hk.2⟩ : _ ∧ k_ ≠ gb709))) (fun _ hk => hk.2) (.bool t704)) (fun _ hk => hk.2) (.slice Ao54 t705.length co54)) (fun _ hk => hk.2) (.int .i64 t708)) (fun _ h_ => h_.1))) hb); replace BK709 := A0_ (blk_below (g := gb709) (o := .cells #[.bool t704, .slice Ao54 t705.length co54, .int .i64 t708] 69 (0, 0)) (by (with_reducible repeat first | apply bN_ | apply bD_ | apply bA_); refine blk_put (cs := #[.bool t704, .slice Ao54 t705.length co54, .int .i64 0]) ?_ 2 _ rfl; refine blk_put (cs := #[.bool t704, .slice none 0 0, .int .i64 0]) ?_ 1 _ rfl; refine blk_put (cs := #[.bool false, .slice none 0 0, .int .i64 0]) ?_ 0 _ rfl; exact bm_ BK709.out) hb); replace HB := hs_ hb; (try clear hb); have hcz56 := bc3_ BK709.out; have hfz56 := bf3_ BK709.out) | ((with_reducible refine gate_callee (f := 72) rfl ?_); refine goesL_ (some 68) rfl rfl Try.func72 (by kernel_rfl) rfl #[.int .u8 a0, .int .u8 a1, .agg #[.bool t704, .slice Ao54 t705.length co54, .int .i64 t708]] rfl (am_ rfl) ?_; (with_reducible refine (cutplaneref04_Round.calls kj22 a0 a1 t704 _ _ t705 t708 t712 t713 _ ?side1 ?side2 A46.out).mono ?_); (case side1 => repeat (first | exact (Kd.V_reads' HO707.out).2.2 | (with_reducible refine Kd.C_alloc ?_ _) | (with_reducible refine Kd.C_drewN ?_ _) | (with_reducible refine Kd.C_drew ?_))); (case side2 => exact (Kd.V_reads' HO707.out).2.1); rintro e w57 ⟨rfl, hb⟩; refine ⟨_, rfl, ?_⟩; replace HO697 := A0_ (Kd.V_below (by exact vm_ HO697.out) hb); replace HO702 := A0_ (Kd.V_below (by exact vm_ HO702.out) hb); replace HO707 := A0_ (Kd.V_below (by exact vm_ HO707.out) hb); replace BK709 := bb_ BK709 hb; replace HB := hs_ hb; (try clear hb)))
            go_ret2
            exact ⟨by first | rfl | (simp [errW_none, errW_some] <;> rfl) | (simp [*, errW_none, errW_some] <;> rfl), qz_⟩
end Go.Proofs.Ytlgapmhjaaajfaa.PA
end

section
namespace Go.Proofs.Ytlgapmhjaaajfaa.PA
open Go.RowKit Go.Proofs.YtlgapmhjaaajfaaW.PrintWords Go.Proofs.YtlgapmhjaaajfaaW.PrintLast Go.Proofs.YtlgapmhjaaajfaaW.PrintMore
attribute [local go_sem] max2_int min2_int max_two min_two max_three min_three max_four min_four   -- for this text's walks alone
set_option linter.unusedVariables false
set_option linter.unusedSimpArgs false
def cutplaneref05_Sub.f (k : Nat) (a0 : Int) (a1 : Int) (a2 : Int) (a3 : Int) : Option (Int × Int) := (cutplaneref05_nan.f k a0 a3).bind fun t714 => (if t714 = true then ((cutplaneref05_Add.f k a0 a1 a2 a3).bind fun bt715 => (some (bt715.1, bt715.2))) else ((cutplaneref05_neg.f a0 a3).bind fun t717 => ((cutplaneref03_Signed.f a0 a3 (!t717)).bind fun t718 => ((cutplaneref05_Add.f k a0 a1 a2 t718).bind fun bt719 => (some (bt719.1, bt719.2))))))
theorem cutplaneref05_Sub.mono : ∀ a0 a1 a2 a3 k, LeO (cutplaneref05_Sub.f k a0 a1 a2 a3) (cutplaneref05_Sub.f (k + 1) a0 a1 a2 a3) := by
 intro a0 a1 a2 a3 k
 unfold cutplaneref05_Sub.f
 repeat' first
   | (with_reducible exact cutplaneref05_Add.mono _ _ _ _ _)
   | (with_reducible exact cutplaneref05_nan.mono _ _ _)
   | (with_reducible exact LeO.refl _)
   | (with_reducible exact LeO.none _)
   | (with_reducible refine LeO.ite ?_ ?_)
   | (with_reducible refine LeO.bind ?_ (fun _ => ?_))
   | exact cutplaneref05_Add.mono _ _ _ _ _
   | exact cutplaneref05_nan.mono _ _ _
   | exact LeO.none _
   | refine LeO.ite ?_ ?_
   | refine LeO.bind ?_ (fun _ => ?_)
theorem cutplaneref05_Sub.calls (k : Nat) (a0 : Int) (a1 : Int) (a2 : Int) (a3 : Int) (r1 : Int) (r2 : Int) (w : World) (h : cutplaneref05_Sub.f k a0 a1 a2 a3 = some (r1, r2)) :
  Calls Try.prog 48 #[.int .u8 a0, .int .u8 a1, .int .u64 a2, .int .u64 a3] w fun e w' => e = .returned (.tuple #[.int .u64 r1, .int .u8 r2]) ∧ Below w.heap.size w w' := by
 have HB := A0_ (Below.refl w.heap.size w)
 have H := h
 clear h
 unfold cutplaneref05_Sub.f at H
 obtain ⟨t714, A5, H⟩ := bs_ H
 try dsimp -simprocs only at H
 by_cases c6 : t714 = true
 ·subst c6
  rw [if_pos rfl] at H
  obtain ⟨⟨t715, t716⟩, A7, H⟩ := bs_ H
  try dsimp -simprocs only at H
  simp only [Option.some.injEq, Prod.mk.injEq] at H
  obtain ⟨rfl, rfl⟩ := H
  go_enter Try.func48, Try.ntmps48
  go_wp2_with (first | ((with_reducible refine gate_callee (f := 68) rfl ?_); refine goesL_ (some 12) rfl rfl Try.func68 (by kernel_rfl) rfl #[.int .u8 a0, .int .u64 a3] rfl (am_ rfl) ?_; (with_reducible refine (cutplaneref05_nan.calls k a0 a3 true _ A5.out).mono ?_); rintro e w8 ⟨rfl, hb⟩; refine ⟨_, rfl, ?_⟩; replace HB := hs_ hb; (try clear hb)) | ((with_reducible refine gate_callee (f := 49) rfl ?_); refine goesL_ (some 25) rfl rfl Try.func49 (by kernel_rfl) rfl #[.int .u8 a0, .int .u8 a1, .int .u64 a2, .int .u64 a3] rfl (am_ rfl) ?_; (with_reducible refine (cutplaneref05_Add.calls k a0 a1 a2 a3 t715 t716 _ A7.out).mono ?_); rintro e w9 ⟨rfl, hb⟩; refine ⟨_, rfl, ?_⟩; replace HB := hs_ hb; (try clear hb)))
  go_ret2
  exact ⟨by first | rfl | (simp [errW_none, errW_some] <;> rfl) | (simp [*, errW_none, errW_some] <;> rfl), qm_ HB.out⟩
 ·replace c6 := Bool.eq_false_iff.mpr c6
  subst c6
  rw [if_neg (show ¬ (false = true) by decide)] at H
  obtain ⟨t717, A10, H⟩ := bs_ H
  try dsimp -simprocs only at H
  obtain ⟨t718, A11, H⟩ := bs_ H
  try dsimp -simprocs only at H
  obtain ⟨⟨t719, t720⟩, A12, H⟩ := bs_ H
  try dsimp -simprocs only at H
  simp only [Option.some.injEq, Prod.mk.injEq] at H
  obtain ⟨rfl, rfl⟩ := H
  go_enter Try.func48, Try.ntmps48
  go_wp2_with (first | ((with_reducible refine gate_callee (f := 68) rfl ?_); refine goesL_ (some 12) rfl rfl Try.func68 (by kernel_rfl) rfl #[.int .u8 a0, .int .u64 a3] rfl (am_ rfl) ?_; (with_reducible refine (cutplaneref05_nan.calls k a0 a3 false _ A5.out).mono ?_); rintro e w13 ⟨rfl, hb⟩; refine ⟨_, rfl, ?_⟩; replace HB := hs_ hb; (try clear hb)) | ((with_reducible refine gate_callee (f := 71) rfl ?_); refine goesL_ (some 18) rfl rfl Try.func71 (by kernel_rfl) rfl #[.int .u8 a0, .int .u64 a3] rfl (am_ rfl) ?_; (with_reducible refine (cutplaneref05_neg.calls a0 a3 t717 _ A10.out).mono ?_); rintro e w' ⟨rfl, ⟨nd, rfl⟩⟩; refine ⟨_, rfl, ?_⟩) | ((with_reducible refine gate_callee (f := 45) rfl ?_); refine goesL_ (some 20) rfl rfl Try.func45 (by kernel_rfl) rfl #[.int .u8 a0, .int .u64 a3, .bool (!t717)] rfl (am_ rfl) ?_; (with_reducible refine (cutplaneref03_Signed.calls a0 a3 (!t717) t718 _ A11.out).mono ?_); rintro e w' ⟨rfl, ⟨nd, rfl⟩⟩; refine ⟨_, rfl, ?_⟩) | ((with_reducible refine gate_callee (f := 49) rfl ?_); refine goesL_ (some 25) rfl rfl Try.func49 (by kernel_rfl) rfl #[.int .u8 a0, .int .u8 a1, .int .u64 a2, .int .u64 t718] rfl (am_ rfl) ?_; (with_reducible refine (cutplaneref05_Add.calls k a0 a1 a2 t718 t719 t720 _ A12.out).mono ?_); rintro e w14 ⟨rfl, hb⟩; refine ⟨_, rfl, ?_⟩; replace HB := hs_ hb; (try clear hb)))
  go_ret2
  exact ⟨by first | rfl | (simp [errW_none, errW_some] <;> rfl) | (simp [*, errW_none, errW_some] <;> rfl), qm_ HB.out⟩
def cutplaneref11_product.f (k : Nat) (a0 : Int) (a1 : Int) (a2_0 : Int) (a2_1 : Int) (a3_0 : Int) (a3_1 : Int) : Option (Int × Int) := (cutplaneref05_Mul.f k a0 a1 a2_0 a3_0).bind fun bt724 => ((cutplaneref05_Mul.f k a0 a1 a2_1 a3_1).bind fun bt726 => ((cutplaneref05_Mul.f k a0 a1 a2_0 a3_1).bind fun bt728 => ((cutplaneref05_Mul.f k a0 a1 a2_1 a3_0).bind fun bt730 => ((cutplaneref05_Sub.f k a0 a1 bt724.1 bt726.1).bind fun bt732 => ((cutplaneref05_Add.f k a0 a1 bt728.1 bt730.1).bind fun bt734 => (some (bt732.1, bt734.1)))))))
theorem cutplaneref11_product.calls (k : Nat) (a0 : Int) (a1 : Int) (a2_0 : Int) (a2_1 : Int) (a3_0 : Int) (a3_1 : Int) (r1 : Int) (r2 : Int) (w : World) (h : cutplaneref11_product.f k a0 a1 a2_0 a2_1 a3_0 a3_1 = some (r1, r2)) :
  Calls Try.prog 25 #[.int .u8 a0, .int .u8 a1, .agg #[.int .u64 a2_0, .int .u64 a2_1], .agg #[.int .u64 a3_0, .int .u64 a3_1]] w fun e w' => e = .returned (.agg #[.int .u64 r1, .int .u64 r2]) ∧ Below w.heap.size w w' := by
 have hu26 := Try.underlying26
 have HB := A0_ (Below.refl w.heap.size w)
 have H := h
 clear h
 unfold cutplaneref11_product.f at H
 obtain ⟨⟨t724, t725⟩, A5, H⟩ := bs_ H
 try dsimp -simprocs only at H
 obtain ⟨⟨t726, t727⟩, A6, H⟩ := bs_ H
 try dsimp -simprocs only at H
 obtain ⟨⟨t728, t729⟩, A7, H⟩ := bs_ H
 try dsimp -simprocs only at H
 obtain ⟨⟨t730, t731⟩, A8, H⟩ := bs_ H
 try dsimp -simprocs only at H
 obtain ⟨⟨t732, t733⟩, A9, H⟩ := bs_ H
 try dsimp -simprocs only at H
 obtain ⟨⟨t734, t735⟩, A10, H⟩ := bs_ H
 try dsimp -simprocs only at H
 simp only [Option.some.injEq, Prod.mk.injEq] at H
 obtain ⟨rfl, rfl⟩ := H
 go_enter Try.func25, Try.ntmps25
 go_wp2_with (first | ((with_reducible refine gate_dst (N := 6) rfl ?_); refine box_event ?hg (N := 6) ?hd (cs := #[.int .u64 a2_0, .int .u64 a2_1]) (t := 26) ?hr ?_; (case hd => rfl); (case hg => rfl); (case hr => first | (go_simp; done) | (go_simp; rfl)); intro gb721 hg w11 hbox hb; have BK721 := A0_ (hbox); have GW721 := A0_ ((by rw [hg]; exact (below_size (qm_ HB.out)) : w.heap.size ≤ gb721)); have GE721 := GW721; replace HB := hs_ hb; clear hb hbox hg) | ((with_reducible refine gate_dst (N := 7) rfl ?_); refine box_event ?hg (N := 7) ?hd (cs := #[.int .u64 a3_0, .int .u64 a3_1]) (t := 26) ?hr ?_; (case hd => rfl); (case hg => rfl); (case hr => first | (go_simp; done) | (go_simp; rfl)); intro gb722 hg w12 hbox hb; have BK722 := A0_ (hbox); have GW722 := A0_ ((by rw [hg]; exact (below_size qz_) : w.heap.size ≤ gb722)); have GE722 := GW722; replace HB := hs_ hb; have NB721_722 := nl_ hg BK721; have NB722_721 := ng_ hg BK721; replace BK721 := bb_ BK721 hb; clear hb hbox hg) | ((with_reducible refine gate_dst (N := 8) rfl ?_); refine box_event ?hg (N := 8) ?hd (cs := #[.int .u64 0, .int .u64 0]) (t := 26) ?hr ?_; (case hd => rfl); (case hg => rfl); (case hr => first | (go_simp; done) | (go_simp; rfl)); intro gb723 hg w13 hbox hb; have BK723 := A0_ (hbox); have GW723 := A0_ ((by rw [hg]; exact (below_size qz_) : w.heap.size ≤ gb723)); have GE723 := GW723; replace HB := hs_ hb; have NB721_723 := nl_ hg BK721; have NB723_721 := ng_ hg BK721; replace BK721 := bb_ BK721 hb; have NB722_723 := nl_ hg BK722; have NB723_722 := ng_ hg BK722; replace BK722 := bb_ BK722 hb; clear hb hbox hg; have hnb14 := NB721_722.out; have hnc14 := NB722_721.out; have hnb15 := NB721_723.out; have hnc15 := NB723_721.out; have hcz16 := bc2_ BK721.out; have hfz16 := bf2_ BK721.out; have hnb17 := NB722_723.out; have hnc17 := NB723_722.out; have hcz18 := bc2_ BK722.out; have hfz18 := bf2_ BK722.out) | ((with_reducible refine gate_callee (f := 47) rfl ?_); refine goesL_ (some 28) rfl rfl Try.func47 (by kernel_rfl) rfl #[.int .u8 a0, .int .u8 a1, .int .u64 a2_0, .int .u64 a3_0] rfl (am_ rfl) ?_; (with_reducible refine (cutplaneref05_Mul.calls k a0 a1 a2_0 a3_0 t724 t725 _ A5.out).mono ?_); rintro e w19 ⟨rfl, hb⟩; refine ⟨_, rfl, ?_⟩; replace BK721 := bb_ BK721 hb; replace BK722 := bb_ BK722 hb; replace BK723 := bb_ BK723 hb; replace HB := hs_ hb; (try clear hb); have hcz20 := bc2_ BK721.out; have hfz20 := bf2_ BK721.out; have hcz21 := bc2_ BK722.out; have hfz21 := bf2_ BK722.out) | ((with_reducible refine gate_callee (f := 47) rfl ?_); refine goesL_ (some 38) rfl rfl Try.func47 (by kernel_rfl) rfl #[.int .u8 a0, .int .u8 a1, .int .u64 a2_1, .int .u64 a3_1] rfl (am_ rfl) ?_; (with_reducible refine (cutplaneref05_Mul.calls k a0 a1 a2_1 a3_1 t726 t727 _ A6.out).mono ?_); rintro e w22 ⟨rfl, hb⟩; refine ⟨_, rfl, ?_⟩; replace BK721 := bb_ BK721 hb; replace BK722 := bb_ BK722 hb; replace BK723 := bb_ BK723 hb; replace HB := hs_ hb; (try clear hb); have hcz23 := bc2_ BK721.out; have hfz23 := bf2_ BK721.out; have hcz24 := bc2_ BK722.out; have hfz24 := bf2_ BK722.out) | ((with_reducible refine gate_callee (f := 47) rfl ?_); refine goesL_ (some 48) rfl rfl Try.func47 (by kernel_rfl) rfl #[.int .u8 a0, .int .u8 a1, .int .u64 a2_0, .int .u64 a3_1] rfl (am_ rfl) ?_; (with_reducible refine (cutplaneref05_Mul.calls k a0 a1 a2_0 a3_1 t728 t729 _ A7.out).mono ?_); rintro e w25 ⟨rfl, hb⟩; refine ⟨_, rfl, ?_⟩; replace BK721 := bb_ BK721 hb; replace BK722 := bb_ BK722 hb; replace BK723 := bb_ BK723 hb; replace HB := hs_ hb; (try clear hb); have hcz26 := bc2_ BK721.out; have hfz26 := bf2_ BK721.out; have hcz27 := bc2_ BK722.out; have hfz27 := bf2_ BK722.out) | ((with_reducible refine gate_callee (f := 47) rfl ?_); refine goesL_ (some 58) rfl rfl Try.func47 (by kernel_rfl) rfl #[.int .u8 a0, .int .u8 a1, .int .u64 a2_1, .int .u64 a3_0] rfl (am_ rfl) ?_; (with_reducible refine (cutplaneref05_Mul.calls k a0 a1 a2_1 a3_0 t730 t731 _ A8.out).mono ?_); rintro e w28 ⟨rfl, hb⟩; refine ⟨_, rfl, ?_⟩; replace BK721 := bb_ BK721 hb; replace BK722 := bb_ BK722 hb; replace BK723 := bb_ BK723 hb; replace HB := hs_ hb; (try clear hb)) | ((with_reducible refine gate_callee (f := 48) rfl ?_); refine goesL_ (some 66) rfl rfl Try.func48 (by kernel_rfl) rfl #[.int .u8 a0, .int .u8 a1, .int .u64 t724, .int .u64 t726] rfl (am_ rfl) ?_; (with_reducible refine (cutplaneref05_Sub.calls k a0 a1 t724 t726 t732 t733 _ A9.out).mono ?_); rintro e w29 ⟨rfl, hb⟩; refine ⟨_, rfl, ?_⟩; replace BK721 := bb_ BK721 hb; replace BK722 := bb_ BK722 hb; replace BK723 := bb_ BK723 hb; replace HB := hs_ hb; (try clear hb)) | ((with_reducible refine gate_callee (f := 49) rfl ?_); refine goesL_ (some 74) rfl rfl Try.func49 (by kernel_rfl) rfl #[.int .u8 a0, .int .u8 a1, .int .u64 t728, .int .u64 t730] rfl (am_ rfl) ?_; (with_reducible refine (cutplaneref05_Add.calls k a0 a1 t728 t730 t734 t735 _ A10.out).mono ?_); rintro e w30 ⟨rfl, hb⟩; refine ⟨_, rfl, ?_⟩; replace BK721 := bb_ BK721 hb; replace BK722 := bb_ BK722 hb; replace BK723 := bb_ BK723 hb; replace HB := hs_ hb; (try clear hb); have hcz31 := bc2_ BK723.out; have hfz31 := bf2_ BK723.out))
 refine bodyPost_ret (results_cell_row rfl _ _ gb723 26 #[.int .u64 t732, .int .u64 t734] (0, 0) _ rfl (by (with_reducible repeat first | apply bN_ | apply bD_ | apply bA_); refine blk_put (cs := #[.int .u64 t732, .int .u64 0]) ?_ 1 _ rfl; refine blk_put (cs := #[.int .u64 0, .int .u64 0]) ?_ 0 _ rfl; exact bm_ BK723.out) Try.underlying26 rfl (by kernel_rfl)) rfl ?_
 exact ⟨by first | rfl | (simp [errW_none, errW_some] <;> rfl) | (simp [*, errW_none, errW_some] <;> rfl), qz_⟩
end Go.Proofs.Ytlgapmhjaaajfaa.PA
end
