/- Steps of Go functions that the law WordNext uses, told as plain Lean functions, each with the proof that its call comes to what it tells; words on memory; plain facts. No condition beyond those that each text names. -/
import Derived.Test.YthiklmgdmaemgaaDoorProg
import Derived.WalkMore
import Derived.Shelf.Spec.TrailingZeros
import Derived.Below
import Derived.Deep.Draws
import Derived.Deep.AppendLies
import Derived.Maps.AppendAt
import Derived.OwnWalk
import Derived.Laws.BytesArg
import Derived.Laws.MakeOwn
import Derived.Laws.OwnMore
import Derived.Deep.OwnRows
import Derived.Tactics
import Derived.Lib.ConvBytes
import Derived.Laws.Slices
import Derived.WalkKit
import Derived.KernelRfl
import Derived.RowKit3
import Derived.Deep.LoopGhost
import Derived.Deep.QuietTactic
import Derived.BigQuiet
import Derived.WideLaws
import Derived.Deep.DeepCutAuto
import Derived.Deep.CutBlock
import Derived.Deep.RegionHeld3
import Derived.Laws.Rows
import Derived.Lib.AppendStr
import Derived.ArgAppend
import Derived.Laws.IdiomCopy
import Derived.OrdersHeld
import Derived.Laws.BitsLemmas
import Derived.RowKit
import Derived.Laws.StructEq
import Derived.Test.YthiklmgdmaemgaaDoorSWordNext0
import Derived.Test.YthiklmgdmaemgaaDoorSWordNext1
import Derived.Test.YthiklmgdmaemgaaDoorSWordNext5
section
namespace Go.Proofs.YthiklmgdmaemgaaDoor.PA
open Go.RowKit Go.Proofs.YthiklmgdmaemgaaDoorW.PrintWords Go.Proofs.YthiklmgdmaemgaaDoorW.PrintLast Go.Proofs.YthiklmgdmaemgaaDoorW.PrintMore
attribute [local go_sem] max2_int min2_int max_two min_two max_three min_three max_four min_four   -- for this text's walks alone
set_option linter.unusedVariables false
set_option linter.unusedSimpArgs false
def cutplaneref02_Add.j0 : Nat → Int → Bool → List Int → Int → Bool → List Int → Int → Option (Bool × List Int × Int)
 | 0, _, _, _, _, _, _, _ => none
 | k + 1, x5, x393000, x393001, x393002, x394000, x394001, x394002 => (cutplaneref01_Up.f k x393001 (wrap64 (x393002 - x5))).bind fun t395 => ((cutplaneref01_Up.f k x394001 (wrap64 (x394002 - x5))).bind fun t398 => (if (x393000 == x394000) = true then ((cutplaneref01_Add.f k t395 t398).bind fun t401 => ((cutplaneref02_Form.f k x393000 t401 x5).bind fun bt404 => (some (bt404.1, bt404.2.1, bt404.2.2)))) else ((cutplaneref01_Cmp.f k t395 t398).bind fun t409 => (if t409 ≥ 0 then ((cutplaneref01_Sub.f k t395 t398).bind fun t410 => ((cutplaneref02_Form.f k x393000 t410 x5).bind fun bt413 => (some (bt413.1, bt413.2.1, bt413.2.2)))) else ((cutplaneref01_Sub.f k t398 t395).bind fun t418 => ((cutplaneref02_Form.f k x394000 t418 x5).bind fun bt421 => (some (bt421.1, bt421.2.1, bt421.2.2))))))))
def cutplaneref02_Add.f (k : Nat) (a0_0 : Bool) (l0_1 : List Int) (a0_2 : Int) (a1_0 : Bool) (l1_1 : List Int) (a1_2 : Int) : Option (Bool × List Int × Int) := if (l0_1.length : Int) = 0 then (some (a1_0, l1_1, a1_2)) else (if (l1_1.length : Int) = 0 then (some (a0_0, l0_1, a0_2)) else (if a1_2 < a0_2 then (cutplaneref02_Add.j0 k a1_2 a0_0 l0_1 a0_2 a1_0 l1_1 a1_2) else (cutplaneref02_Add.j0 k a0_2 a0_0 l0_1 a0_2 a1_0 l1_1 a1_2)))
def cutplaneref02_Add.T11 : Bool × List (List Nat × List Nat) := (true, [([], []), ([0], [0]), ([], []), ([], []), ([2, 3], [2, 3]), ([], []), ([1, 4, 5, 4], [1, 4, 5]), ([6, 6, 0, 1, 2, 3, 4, 5, 6], [6])])
def cutplaneref02_Add.B11 : List Nat := [0, 1, 0, 0, 12, 0, 63, 127]
theorem cutplaneref02_Add.tab11 : rtab .any (opsOf Tryd.f40 11) = cutplaneref02_Add.T11 := by kernel_rfl
theorem cutplaneref02_Add.bits11 : waitsOk cutplaneref02_Add.T11.2 cutplaneref02_Add.B11 = true := by kernel_rfl
def cutplaneref02_Add.T13 : Bool × List (List Nat × List Nat) := (true, [([], []), ([0], [0]), ([], []), ([], []), ([2, 3], [2, 3]), ([], []), ([1, 4, 5, 4], [1, 4, 5]), ([6, 6, 0, 1, 2, 3, 4, 5, 6], [6])])
def cutplaneref02_Add.B13 : List Nat := [0, 1, 0, 0, 12, 0, 63, 127]
theorem cutplaneref02_Add.tab13 : rtab .any (opsOf Tryd.f40 13) = cutplaneref02_Add.T13 := by kernel_rfl
theorem cutplaneref02_Add.bits13 : waitsOk cutplaneref02_Add.T13.2 cutplaneref02_Add.B13 = true := by kernel_rfl
def cutplaneref02_Add.T14 : Bool × List (List Nat × List Nat) := (true, [([], []), ([0], [0]), ([], []), ([], []), ([2, 3], [2, 3]), ([], []), ([1, 4, 5, 4], [1, 4, 5]), ([6, 6, 0, 1, 2, 3, 4, 5, 6], [6])])
def cutplaneref02_Add.B14 : List Nat := [0, 1, 0, 0, 12, 0, 63, 127]
theorem cutplaneref02_Add.tab14 : rtab .any (opsOf Tryd.f40 14) = cutplaneref02_Add.T14 := by kernel_rfl
theorem cutplaneref02_Add.bits14 : waitsOk cutplaneref02_Add.T14.2 cutplaneref02_Add.B14 = true := by kernel_rfl
set_option maxHeartbeats 2000000 in
set_option maxRecDepth 100000 in
theorem cutplaneref02_Add.calls (k : Nat) (a0_0 : Bool) (P0_1_ : Nat → Prop) (A0_1 : Option Addr) (c0_1 : Nat) (l0_1 : List Int) (a0_2 : Int) (a1_0 : Bool) (P1_1_ : Nat → Prop) (A1_1 : Option Addr) (c1_1 : Nat) (l1_1 : List Int) (a1_2 : Int) (r1 : Bool) (r2 : List Int) (r3 : Int) (w : World) (hs0_1 : Kd.V (Kd.int .u32) 78 w w.heap.size (fun k_ => P0_1_ k_) (.slice A0_1 l0_1.length c0_1) l0_1) (hs1_1 : Kd.V (Kd.int .u32) 78 w w.heap.size (fun k_ => P1_1_ k_) (.slice A1_1 l1_1.length c1_1) l1_1) (h : cutplaneref02_Add.f k a0_0 l0_1 a0_2 a1_0 l1_1 a1_2 = some (r1, r2, r3)) :
  Calls Tryd.prog 40 #[.agg #[.bool a0_0, .slice A0_1 l0_1.length c0_1, .int .i64 a0_2], .agg #[.bool a1_0, .slice A1_1 l1_1.length c1_1, .int .i64 a1_2]] w fun e w' => ∃ v1_ : Value, e = .returned (.agg #[.bool r1, v1_, .int .i64 r3]) ∧ Kd.V (Kd.int .u32) 78 w' w.heap.size (fun k_ => ((P0_1_ k_ ∨ P1_1_ k_) ∨ w.heap.size ≤ k_)) v1_ r2 ∧ Below w.heap.size w w' := by
 have hu26 := Tryd.underlying26
 have HO0_1 := A0_ (show Kd.V (Kd.int .u32) 78 w w.heap.size (fun k_ => ((P0_1_ k_ ∨ P1_1_ k_) ∨ w.heap.size ≤ k_)) (.slice A0_1 l0_1.length c0_1) l0_1 from Kd.V_mono hs0_1 (fun k_ hk => .inl (.inl hk)))
 have HO1_1 := A0_ (show Kd.V (Kd.int .u32) 78 w w.heap.size (fun k_ => ((P0_1_ k_ ∨ P1_1_ k_) ∨ w.heap.size ≤ k_)) (.slice A1_1 l1_1.length c1_1) l1_1 from Kd.V_mono hs1_1 (fun k_ hk => .inl (.inr hk)))
 have HB := A0_ (Below.refl w.heap.size w)
 have H : (if (l0_1.length : Int) = 0 then (some (a1_0, l1_1, a1_2)) else (if (l1_1.length : Int) = 0 then (some (a0_0, l0_1, a0_2)) else (if a1_2 < a0_2 then (cutplaneref02_Add.j0 k a1_2 a0_0 l0_1 a0_2 a1_0 l1_1 a1_2) else (cutplaneref02_Add.j0 k a0_2 a0_0 l0_1 a0_2 a1_0 l1_1 a1_2)))) = some (r1, r2, r3) := h
 clear h
 by_cases c3 : (l0_1.length : Int) = 0
 ·rw [if_pos c3] at H
  have c3b0 : ((l0_1.length : Int) == 0) = true := beq_iff_eq.mpr c3
  have c3b1 : ((l0_1.length : Int) != 0) = false := bne_eq_false_iff_eq.mpr c3
  clear c3
  simp only [Option.some.injEq, Prod.mk.injEq] at H
  obtain ⟨rfl, rfl, rfl⟩ := H
  go_enter Tryd.func40, Tryd.ntmps40
  go_wp2_with (first | ((with_reducible refine gate_dst (N := 2) rfl ?_); refine box_event ?hg (N := 2) ?hd (cs := #[.bool a0_0, .slice A0_1 l0_1.length c0_1, .int .i64 a0_2]) (t := 26) ?hr ?_; (case hd => rfl); (case hg => rfl); (case hr => first | (go_simp; done) | (go_simp; rfl)); intro gb392 hg w4 hbox hb; have n0_ := A0_ (Kd.V_below (Kd.V_elderB (by exact vm_ HO0_1.out) gb392 (Nat.le_of_eq hg.symm)) hb); have n1_ := A0_ (Kd.V_below (Kd.V_elderB (by exact vm_ HO1_1.out) gb392 (Nat.le_of_eq hg.symm)) hb); have n2_ := A0_ (below_step (qm_ HB.out) hb); have n3_ := A0_ (hbox); have n4_ := A0_ ((by rw [hg]; exact (below_size (qm_ HB.out)) : w.heap.size ≤ gb392)); have n5_ := A0_ ((by rw [hg]; exact (below_size (qm_ HB.out)) : w.heap.size ≤ gb392)); clear HO0_1 HO1_1 HB; have HO0_1 := n0_; have HO1_1 := n1_; have HB := n2_; have BK392 := n3_; have GW392 := n4_; have GE392 := n5_; clear n0_ n1_ n2_ n3_ n4_ n5_ hb hbox hg) | ((with_reducible refine gate_dst (N := 3) rfl ?_); refine box_event ?hg (N := 3) ?hd (cs := #[.bool a1_0, .slice A1_1 l1_1.length c1_1, .int .i64 a1_2]) (t := 26) ?hr ?_; (case hd => rfl); (case hg => rfl); (case hr => first | (go_simp; done) | (go_simp; rfl)); intro gb393 hg w5 hbox hb; have n0_ := A0_ (Kd.V_below (Kd.V_elderB (by exact vm_ HO0_1.out) gb393 (Nat.le_of_eq hg.symm)) hb); have n1_ := A0_ (Kd.V_below (Kd.V_elderB (by exact vm_ HO1_1.out) gb393 (Nat.le_of_eq hg.symm)) hb); have n2_ := A0_ (blk_below (bm_ BK392.out) hb); have n3_ := A0_ (below_step (by repeat (first | (with_reducible first | exact qm_ HB.out | apply qA_ | apply qN_ | apply qD_ | refine below_set ?_ GE392.out) | exact HB.out)) hb); have n4_ := A0_ (hbox); have n5_ := A0_ ((by rw [hg]; exact (below_size (by repeat (first | (with_reducible first | exact qm_ HB.out | apply qA_ | apply qN_ | apply qD_ | refine below_set ?_ GE392.out) | exact HB.out))) : w.heap.size ≤ gb393)); have n6_ := A0_ ((by rw [hg]; exact (below_size (by repeat (first | (with_reducible first | exact qm_ HB.out | apply qA_ | apply qN_ | apply qD_ | refine below_set ?_ GE392.out) | exact HB.out))) : w.heap.size ≤ gb393)); have n7_ := A0_ ((by rw [hg]; exact Nat.ne_of_lt (blk_lt (bm_ BK392.out)) : gb392 ≠ gb393)); have n8_ := A0_ ((by rw [hg]; exact Nat.ne_of_gt (blk_lt (bm_ BK392.out)) : gb393 ≠ gb392)); clear HO0_1 HO1_1 BK392 HB; have HO0_1 := n0_; have HO1_1 := n1_; have BK392 := n2_; have HB := n3_; have BK393 := n4_; have GW393 := n5_; have GE393 := n6_; have NB392_393 := n7_; have NB393_392 := n8_; clear n0_ n1_ n2_ n3_ n4_ n5_ n6_ n7_ n8_ hb hbox hg) | ((with_reducible refine gate_dst (N := 4) rfl ?_); refine box_event ?hg (N := 4) ?hd (cs := #[.bool false, .slice none 0 0, .int .i64 0]) (t := 26) ?hr ?_; (case hd => rfl); (case hg => rfl); (case hr => first | (go_simp; done) | (go_simp; rfl)); intro gb394 hg w6 hbox hb; have n0_ := A0_ (Kd.V_below (Kd.V_elderB (by exact vm_ HO0_1.out) gb394 (Nat.le_of_eq hg.symm)) hb); have n1_ := A0_ (Kd.V_below (Kd.V_elderB (by exact vm_ HO1_1.out) gb394 (Nat.le_of_eq hg.symm)) hb); have n2_ := A0_ (blk_below (bm_ BK392.out) hb); have n3_ := A0_ (blk_below (bm_ BK393.out) hb); have n4_ := A0_ (below_step (by repeat (first | (with_reducible first | exact qm_ HB.out | apply qA_ | apply qN_ | apply qD_ | refine below_set ?_ GE392.out | refine below_set ?_ GE393.out) | exact HB.out)) hb); have n5_ := A0_ (hbox); have n6_ := A0_ ((by rw [hg]; exact (below_size (by repeat (first | (with_reducible first | exact qm_ HB.out | apply qA_ | apply qN_ | apply qD_ | refine below_set ?_ GE392.out | refine below_set ?_ GE393.out) | exact HB.out))) : w.heap.size ≤ gb394)); have n7_ := A0_ ((by rw [hg]; exact (below_size (by repeat (first | (with_reducible first | exact qm_ HB.out | apply qA_ | apply qN_ | apply qD_ | refine below_set ?_ GE392.out | refine below_set ?_ GE393.out) | exact HB.out))) : w.heap.size ≤ gb394)); have n8_ := A0_ ((by rw [hg]; exact Nat.ne_of_lt (blk_lt (bm_ BK392.out)) : gb392 ≠ gb394)); have n9_ := A0_ ((by rw [hg]; exact Nat.ne_of_gt (blk_lt (bm_ BK392.out)) : gb394 ≠ gb392)); have n10_ := A0_ ((by rw [hg]; exact Nat.ne_of_lt (blk_lt (bm_ BK393.out)) : gb393 ≠ gb394)); have n11_ := A0_ ((by rw [hg]; exact Nat.ne_of_gt (blk_lt (bm_ BK393.out)) : gb394 ≠ gb393)); clear HO0_1 HO1_1 BK392 BK393 HB; have HO0_1 := n0_; have HO1_1 := n1_; have BK392 := n2_; have BK393 := n3_; have HB := n4_; have BK394 := n5_; have GW394 := n6_; have GE394 := n7_; have NB392_394 := n8_; have NB394_392 := n9_; have NB393_394 := n10_; have NB394_393 := n11_; clear n0_ n1_ n2_ n3_ n4_ n5_ n6_ n7_ n8_ n9_ n10_ n11_ hb hbox hg; have hnb7 := NB392_393.out; have hnc7 := NB393_392.out; have hnb8 := NB392_394.out; have hnc8 := NB394_392.out; have hcz9 := bc3_ BK392.out; have hfz9 := bf3_ BK392.out; have hnb10 := NB393_394.out; have hnc10 := NB394_393.out; have hcz11 := bc3_ BK393.out; have hfz11 := bf3_ BK393.out; have hcz12 := bc3_ BK394.out; have hfz12 := bf3_ BK394.out))
  refine bodyPost_ret (results_cell_row rfl _ _ gb394 26 #[.bool a1_0, .slice A1_1 l1_1.length c1_1, .int .i64 a1_2] (0, 0) _ rfl (by (with_reducible repeat first | apply bN_ | apply bD_ | apply bA_); refine blk_put (cs := #[.bool a1_0, .slice A1_1 l1_1.length c1_1, .int .i64 0]) ?_ 2 _ rfl; (with_reducible repeat first | apply bN_ | apply bD_ | apply bA_); refine blk_put (cs := #[.bool a1_0, .slice none 0 0, .int .i64 0]) ?_ 1 _ rfl; (with_reducible repeat first | apply bN_ | apply bD_ | apply bA_); refine blk_put (cs := #[.bool false, .slice none 0 0, .int .i64 0]) ?_ 0 _ rfl; (with_reducible repeat first | apply bN_ | apply bD_ | apply bA_); exact BK394.out) Tryd.underlying26 rfl (by kernel_rfl)) rfl ?_
  exact ⟨_, by first | rfl | (simp [errW_none, errW_some] <;> rfl) | (simp [*, errW_none, errW_some] <;> rfl), by (with_reducible repeat (first | apply Kd.V_alloc | apply Kd.V_drewN | apply Kd.V_drew)); exact Kd.V_mono (Kd.V_far (p := ⟨gb394, 2, none⟩) (Kd.V_far (p := ⟨gb394, 1, none⟩) (Kd.V_far (p := ⟨gb394, 0, none⟩) (Kd.V_mono HO1_1.out (fun k_ hk => (⟨hk, hk.2⟩ : _ ∧ k_ ≠ gb394))) (fun _ hk => hk.2) (.bool a1_0)) (fun _ hk => hk.2) (.slice A1_1 l1_1.length c1_1)) (fun _ hk => hk.2) (.int .i64 a1_2)) (fun _ hk => hk.1.1.1.1), by repeat (first | (with_reducible first | exact qm_ HB.out | apply qA_ | apply qN_ | apply qD_ | refine below_set ?_ GE392.out | refine below_set ?_ GE393.out | refine below_set ?_ GE394.out) | exact HB.out)⟩
 ·rw [if_neg c3] at H
  have c3b0 : ((l0_1.length : Int) == 0) = false := beq_eq_false_iff_ne.mpr c3
  have c3b1 : ((l0_1.length : Int) != 0) = true := bne_iff_ne.mpr c3
  have c3b2 : ¬ (l0_1 = []) := fun h_ => c3 (by rw [h_]; rfl)
  by_cases c13 : (l1_1.length : Int) = 0
  ·rw [if_pos c13] at H
   have c13b0 : ((l1_1.length : Int) == 0) = true := beq_iff_eq.mpr c13
   have c13b1 : ((l1_1.length : Int) != 0) = false := bne_eq_false_iff_eq.mpr c13
   clear c13
   simp only [Option.some.injEq, Prod.mk.injEq] at H
   obtain ⟨rfl, rfl, rfl⟩ := H
   go_enter Tryd.func40, Tryd.ntmps40
   go_wp2_with (first | ((with_reducible refine gate_dst (N := 2) rfl ?_); refine box_event ?hg (N := 2) ?hd (cs := #[.bool a0_0, .slice A0_1 l0_1.length c0_1, .int .i64 a0_2]) (t := 26) ?hr ?_; (case hd => rfl); (case hg => rfl); (case hr => first | (go_simp; done) | (go_simp; rfl)); intro gb392 hg w14 hbox hb; have n0_ := A0_ (Kd.V_below (Kd.V_elderB (by exact vm_ HO0_1.out) gb392 (Nat.le_of_eq hg.symm)) hb); have n1_ := A0_ (Kd.V_below (Kd.V_elderB (by exact vm_ HO1_1.out) gb392 (Nat.le_of_eq hg.symm)) hb); have n2_ := A0_ (below_step (qm_ HB.out) hb); have n3_ := A0_ (hbox); have n4_ := A0_ ((by rw [hg]; exact (below_size (qm_ HB.out)) : w.heap.size ≤ gb392)); have n5_ := A0_ ((by rw [hg]; exact (below_size (qm_ HB.out)) : w.heap.size ≤ gb392)); clear HO0_1 HO1_1 HB; have HO0_1 := n0_; have HO1_1 := n1_; have HB := n2_; have BK392 := n3_; have GW392 := n4_; have GE392 := n5_; clear n0_ n1_ n2_ n3_ n4_ n5_ hb hbox hg) | ((with_reducible refine gate_dst (N := 3) rfl ?_); refine box_event ?hg (N := 3) ?hd (cs := #[.bool a1_0, .slice A1_1 l1_1.length c1_1, .int .i64 a1_2]) (t := 26) ?hr ?_; (case hd => rfl); (case hg => rfl); (case hr => first | (go_simp; done) | (go_simp; rfl)); intro gb393 hg w15 hbox hb; have n0_ := A0_ (Kd.V_below (Kd.V_elderB (by exact vm_ HO0_1.out) gb393 (Nat.le_of_eq hg.symm)) hb); have n1_ := A0_ (Kd.V_below (Kd.V_elderB (by exact vm_ HO1_1.out) gb393 (Nat.le_of_eq hg.symm)) hb); have n2_ := A0_ (blk_below (bm_ BK392.out) hb); have n3_ := A0_ (below_step (by repeat (first | (with_reducible first | exact qm_ HB.out | apply qA_ | apply qN_ | apply qD_ | refine below_set ?_ GE392.out) | exact HB.out)) hb); have n4_ := A0_ (hbox); have n5_ := A0_ ((by rw [hg]; exact (below_size (by repeat (first | (with_reducible first | exact qm_ HB.out | apply qA_ | apply qN_ | apply qD_ | refine below_set ?_ GE392.out) | exact HB.out))) : w.heap.size ≤ gb393)); have n6_ := A0_ ((by rw [hg]; exact (below_size (by repeat (first | (with_reducible first | exact qm_ HB.out | apply qA_ | apply qN_ | apply qD_ | refine below_set ?_ GE392.out) | exact HB.out))) : w.heap.size ≤ gb393)); have n7_ := A0_ ((by rw [hg]; exact Nat.ne_of_lt (blk_lt (bm_ BK392.out)) : gb392 ≠ gb393)); have n8_ := A0_ ((by rw [hg]; exact Nat.ne_of_gt (blk_lt (bm_ BK392.out)) : gb393 ≠ gb392)); clear HO0_1 HO1_1 BK392 HB; have HO0_1 := n0_; have HO1_1 := n1_; have BK392 := n2_; have HB := n3_; have BK393 := n4_; have GW393 := n5_; have GE393 := n6_; have NB392_393 := n7_; have NB393_392 := n8_; clear n0_ n1_ n2_ n3_ n4_ n5_ n6_ n7_ n8_ hb hbox hg) | ((with_reducible refine gate_dst (N := 4) rfl ?_); refine box_event ?hg (N := 4) ?hd (cs := #[.bool false, .slice none 0 0, .int .i64 0]) (t := 26) ?hr ?_; (case hd => rfl); (case hg => rfl); (case hr => first | (go_simp; done) | (go_simp; rfl)); intro gb394 hg w16 hbox hb; have n0_ := A0_ (Kd.V_below (Kd.V_elderB (by exact vm_ HO0_1.out) gb394 (Nat.le_of_eq hg.symm)) hb); have n1_ := A0_ (Kd.V_below (Kd.V_elderB (by exact vm_ HO1_1.out) gb394 (Nat.le_of_eq hg.symm)) hb); have n2_ := A0_ (blk_below (bm_ BK392.out) hb); have n3_ := A0_ (blk_below (bm_ BK393.out) hb); have n4_ := A0_ (below_step (by repeat (first | (with_reducible first | exact qm_ HB.out | apply qA_ | apply qN_ | apply qD_ | refine below_set ?_ GE392.out | refine below_set ?_ GE393.out) | exact HB.out)) hb); have n5_ := A0_ (hbox); have n6_ := A0_ ((by rw [hg]; exact (below_size (by repeat (first | (with_reducible first | exact qm_ HB.out | apply qA_ | apply qN_ | apply qD_ | refine below_set ?_ GE392.out | refine below_set ?_ GE393.out) | exact HB.out))) : w.heap.size ≤ gb394)); have n7_ := A0_ ((by rw [hg]; exact (below_size (by repeat (first | (with_reducible first | exact qm_ HB.out | apply qA_ | apply qN_ | apply qD_ | refine below_set ?_ GE392.out | refine below_set ?_ GE393.out) | exact HB.out))) : w.heap.size ≤ gb394)); have n8_ := A0_ ((by rw [hg]; exact Nat.ne_of_lt (blk_lt (bm_ BK392.out)) : gb392 ≠ gb394)); have n9_ := A0_ ((by rw [hg]; exact Nat.ne_of_gt (blk_lt (bm_ BK392.out)) : gb394 ≠ gb392)); have n10_ := A0_ ((by rw [hg]; exact Nat.ne_of_lt (blk_lt (bm_ BK393.out)) : gb393 ≠ gb394)); have n11_ := A0_ ((by rw [hg]; exact Nat.ne_of_gt (blk_lt (bm_ BK393.out)) : gb394 ≠ gb393)); clear HO0_1 HO1_1 BK392 BK393 HB; have HO0_1 := n0_; have HO1_1 := n1_; have BK392 := n2_; have BK393 := n3_; have HB := n4_; have BK394 := n5_; have GW394 := n6_; have GE394 := n7_; have NB392_394 := n8_; have NB394_392 := n9_; have NB393_394 := n10_; have NB394_393 := n11_; clear n0_ n1_ n2_ n3_ n4_ n5_ n6_ n7_ n8_ n9_ n10_ n11_ hb hbox hg; have hnb17 := NB392_393.out; have hnc17 := NB393_392.out; have hnb18 := NB392_394.out; have hnc18 := NB394_392.out; have hcz19 := bc3_ BK392.out; have hfz19 := bf3_ BK392.out; have hnb20 := NB393_394.out; have hnc20 := NB394_393.out; have hcz21 := bc3_ BK393.out; have hfz21 := bf3_ BK393.out; have hcz22 := bc3_ BK394.out; have hfz22 := bf3_ BK394.out))
   refine bodyPost_ret (results_cell_row rfl _ _ gb394 26 #[.bool a0_0, .slice A0_1 l0_1.length c0_1, .int .i64 a0_2] (0, 0) _ rfl (by (with_reducible repeat first | apply bN_ | apply bD_ | apply bA_); refine blk_put (cs := #[.bool a0_0, .slice A0_1 l0_1.length c0_1, .int .i64 0]) ?_ 2 _ rfl; (with_reducible repeat first | apply bN_ | apply bD_ | apply bA_); refine blk_put (cs := #[.bool a0_0, .slice none 0 0, .int .i64 0]) ?_ 1 _ rfl; (with_reducible repeat first | apply bN_ | apply bD_ | apply bA_); refine blk_put (cs := #[.bool false, .slice none 0 0, .int .i64 0]) ?_ 0 _ rfl; (with_reducible repeat first | apply bN_ | apply bD_ | apply bA_); exact BK394.out) Tryd.underlying26 rfl (by kernel_rfl)) rfl ?_
   exact ⟨_, by first | rfl | (simp [errW_none, errW_some] <;> rfl) | (simp [*, errW_none, errW_some] <;> rfl), by (with_reducible repeat (first | apply Kd.V_alloc | apply Kd.V_drewN | apply Kd.V_drew)); exact Kd.V_mono (Kd.V_far (p := ⟨gb394, 2, none⟩) (Kd.V_far (p := ⟨gb394, 1, none⟩) (Kd.V_far (p := ⟨gb394, 0, none⟩) (Kd.V_mono HO0_1.out (fun k_ hk => (⟨hk, hk.2⟩ : _ ∧ k_ ≠ gb394))) (fun _ hk => hk.2) (.bool a0_0)) (fun _ hk => hk.2) (.slice A0_1 l0_1.length c0_1)) (fun _ hk => hk.2) (.int .i64 a0_2)) (fun _ hk => hk.1.1.1.1), by repeat (first | (with_reducible first | exact qm_ HB.out | apply qA_ | apply qN_ | apply qD_ | refine below_set ?_ GE392.out | refine below_set ?_ GE393.out | refine below_set ?_ GE394.out) | exact HB.out)⟩
  ·rw [if_neg c13] at H
   have c13b0 : ((l1_1.length : Int) == 0) = false := beq_eq_false_iff_ne.mpr c13
   have c13b1 : ((l1_1.length : Int) != 0) = true := bne_iff_ne.mpr c13
   have c13b2 : ¬ (l1_1 = []) := fun h_ => c13 (by rw [h_]; rfl)
   have HC23 := A0_ H
   clear H
   go_enter Tryd.func40, Tryd.ntmps40
   go_upto_if 23 with (first | ((with_reducible refine gate_dst (N := 2) rfl ?_); refine box_event ?hg (N := 2) ?hd (cs := #[.bool a0_0, .slice A0_1 l0_1.length c0_1, .int .i64 a0_2]) (t := 26) ?hr ?_; (case hd => rfl); (case hg => rfl); (case hr => first | (go_simp; done) | (go_simp; rfl)); intro gb392 hg w24 hbox hb; have n0_ := A0_ (Kd.V_below (Kd.V_elderB (by exact vm_ HO0_1.out) gb392 (Nat.le_of_eq hg.symm)) hb); have n1_ := A0_ (Kd.V_below (Kd.V_elderB (by exact vm_ HO1_1.out) gb392 (Nat.le_of_eq hg.symm)) hb); have n2_ := A0_ (below_step (qm_ HB.out) hb); have n3_ := A0_ (hbox); have n4_ := A0_ ((by rw [hg]; exact (below_size (qm_ HB.out)) : w.heap.size ≤ gb392)); have n5_ := A0_ ((by rw [hg]; exact (below_size (qm_ HB.out)) : w.heap.size ≤ gb392)); clear HO0_1 HO1_1 HB; have HO0_1 := n0_; have HO1_1 := n1_; have HB := n2_; have BK392 := n3_; have GW392 := n4_; have GE392 := n5_; clear n0_ n1_ n2_ n3_ n4_ n5_ hb hbox hg) | ((with_reducible refine gate_dst (N := 3) rfl ?_); refine box_event ?hg (N := 3) ?hd (cs := #[.bool a1_0, .slice A1_1 l1_1.length c1_1, .int .i64 a1_2]) (t := 26) ?hr ?_; (case hd => rfl); (case hg => rfl); (case hr => first | (go_simp; done) | (go_simp; rfl)); intro gb393 hg w25 hbox hb; have n0_ := A0_ (Kd.V_below (Kd.V_elderB (by exact vm_ HO0_1.out) gb393 (Nat.le_of_eq hg.symm)) hb); have n1_ := A0_ (Kd.V_below (Kd.V_elderB (by exact vm_ HO1_1.out) gb393 (Nat.le_of_eq hg.symm)) hb); have n2_ := A0_ (blk_below (bm_ BK392.out) hb); have n3_ := A0_ (below_step (by repeat (first | (with_reducible first | exact qm_ HB.out | apply qA_ | apply qN_ | apply qD_ | refine below_set ?_ GE392.out) | exact HB.out)) hb); have n4_ := A0_ (hbox); have n5_ := A0_ ((by rw [hg]; exact (below_size (by repeat (first | (with_reducible first | exact qm_ HB.out | apply qA_ | apply qN_ | apply qD_ | refine below_set ?_ GE392.out) | exact HB.out))) : w.heap.size ≤ gb393)); have n6_ := A0_ ((by rw [hg]; exact (below_size (by repeat (first | (with_reducible first | exact qm_ HB.out | apply qA_ | apply qN_ | apply qD_ | refine below_set ?_ GE392.out) | exact HB.out))) : w.heap.size ≤ gb393)); have n7_ := A0_ ((by rw [hg]; exact Nat.ne_of_lt (blk_lt (bm_ BK392.out)) : gb392 ≠ gb393)); have n8_ := A0_ ((by rw [hg]; exact Nat.ne_of_gt (blk_lt (bm_ BK392.out)) : gb393 ≠ gb392)); clear HO0_1 HO1_1 BK392 HB; have HO0_1 := n0_; have HO1_1 := n1_; have BK392 := n2_; have HB := n3_; have BK393 := n4_; have GW393 := n5_; have GE393 := n6_; have NB392_393 := n7_; have NB393_392 := n8_; clear n0_ n1_ n2_ n3_ n4_ n5_ n6_ n7_ n8_ hb hbox hg) | ((with_reducible refine gate_dst (N := 4) rfl ?_); refine box_event ?hg (N := 4) ?hd (cs := #[.bool false, .slice none 0 0, .int .i64 0]) (t := 26) ?hr ?_; (case hd => rfl); (case hg => rfl); (case hr => first | (go_simp; done) | (go_simp; rfl)); intro gb394 hg w26 hbox hb; have n0_ := A0_ (Kd.V_below (Kd.V_elderB (by exact vm_ HO0_1.out) gb394 (Nat.le_of_eq hg.symm)) hb); have n1_ := A0_ (Kd.V_below (Kd.V_elderB (by exact vm_ HO1_1.out) gb394 (Nat.le_of_eq hg.symm)) hb); have n2_ := A0_ (blk_below (bm_ BK392.out) hb); have n3_ := A0_ (blk_below (bm_ BK393.out) hb); have n4_ := A0_ (below_step (by repeat (first | (with_reducible first | exact qm_ HB.out | apply qA_ | apply qN_ | apply qD_ | refine below_set ?_ GE392.out | refine below_set ?_ GE393.out) | exact HB.out)) hb); have n5_ := A0_ (hbox); have n6_ := A0_ ((by rw [hg]; exact (below_size (by repeat (first | (with_reducible first | exact qm_ HB.out | apply qA_ | apply qN_ | apply qD_ | refine below_set ?_ GE392.out | refine below_set ?_ GE393.out) | exact HB.out))) : w.heap.size ≤ gb394)); have n7_ := A0_ ((by rw [hg]; exact (below_size (by repeat (first | (with_reducible first | exact qm_ HB.out | apply qA_ | apply qN_ | apply qD_ | refine below_set ?_ GE392.out | refine below_set ?_ GE393.out) | exact HB.out))) : w.heap.size ≤ gb394)); have n8_ := A0_ ((by rw [hg]; exact Nat.ne_of_lt (blk_lt (bm_ BK392.out)) : gb392 ≠ gb394)); have n9_ := A0_ ((by rw [hg]; exact Nat.ne_of_gt (blk_lt (bm_ BK392.out)) : gb394 ≠ gb392)); have n10_ := A0_ ((by rw [hg]; exact Nat.ne_of_lt (blk_lt (bm_ BK393.out)) : gb393 ≠ gb394)); have n11_ := A0_ ((by rw [hg]; exact Nat.ne_of_gt (blk_lt (bm_ BK393.out)) : gb394 ≠ gb393)); clear HO0_1 HO1_1 BK392 BK393 HB; have HO0_1 := n0_; have HO1_1 := n1_; have BK392 := n2_; have BK393 := n3_; have HB := n4_; have BK394 := n5_; have GW394 := n6_; have GE394 := n7_; have NB392_394 := n8_; have NB394_392 := n9_; have NB393_394 := n10_; have NB394_393 := n11_; clear n0_ n1_ n2_ n3_ n4_ n5_ n6_ n7_ n8_ n9_ n10_ n11_ hb hbox hg; have hnb27 := NB392_393.out; have hnc27 := NB393_392.out; have hnb28 := NB392_394.out; have hnc28 := NB394_392.out; have hcz29 := bc3_ BK392.out; have hfz29 := bf3_ BK392.out; have hnb30 := NB393_394.out; have hnc30 := NB394_393.out; have hcz31 := bc3_ BK393.out; have hfz31 := bf3_ BK393.out))
   (try simp only [Act.put, sp_])
   go_cut [5] (fun v5 wc => ∃ (kq : Nat) (x5_22 : Int), v5 = .int .i64 x5_22 ∧ Aside0 (cutplaneref02_Add.j0 kq x5_22 a0_0 l0_1 a0_2 a1_0 l1_1 a1_2 = some (r1, r2, r3)) ∧ Aside0 (kq ≤ k) ∧ Aside0 (Kd.V (Kd.int .u32) 78 wc w.heap.size (fun k_ => ((P0_1_ k_ ∨ P1_1_ k_) ∨ w.heap.size ≤ k_) ∧ k_ ≠ gb392 ∧ k_ ≠ gb393 ∧ k_ ≠ gb394) (.slice A0_1 l0_1.length c0_1) l0_1) ∧ Aside0 (Kd.V (Kd.int .u32) 78 wc w.heap.size (fun k_ => ((P0_1_ k_ ∨ P1_1_ k_) ∨ w.heap.size ≤ k_) ∧ k_ ≠ gb392 ∧ k_ ≠ gb393 ∧ k_ ≠ gb394) (.slice A1_1 l1_1.length c1_1) l1_1) ∧ Aside0 (wc.heap[gb392]? = some (.cells #[.bool a0_0, (.slice A0_1 l0_1.length c0_1), .int .i64 a0_2] 26 (0, 0))) ∧ Aside0 (wc.heap[gb393]? = some (.cells #[.bool a1_0, (.slice A1_1 l1_1.length c1_1), .int .i64 a1_2] 26 (0, 0))) ∧ Aside0 (wc.heap[gb394]? = some (.cells #[.bool false, (.slice none 0 0), .int .i64 0] 26 (0, 0))) ∧ Aside0 (Below w.heap.size w wc))
   case first =>
    have H := HC23.out
    clear HC23
    by_cases c32 : a1_2 < a0_2
    ·rw [if_pos c32] at H
     have c32b0 : decide (a1_2 < a0_2) = true := decide_eq_true c32
     clear c32
     (first | rw [c32b0] | (simp only [i64_w, i32_w]; rw [c32b0]) | skip)
     have H' := A0_ H
     clear H
     have hnb33 := NB393_392.out
     have hnc33 := NB392_393.out
     have hnb34 := NB393_394.out
     have hnc34 := NB394_393.out
     have hcz35 := bc3_ BK393.out
     have hfz35 := bf3_ BK393.out
     go_wp2
     go_meet
     case rel => exact ⟨_, (a1_2), (by first | rfl | (simp; done) | (simp [*]; done)), H', ⟨by first | omega | exact Nat.le_refl _⟩, ⟨by (with_reducible repeat (first | apply Kd.V_alloc | apply Kd.V_drewN | apply Kd.V_drew)); exact Kd.V_mono HO0_1.out (fun _ hk => by first | exact ⟨hk.1.1.1, ⟨hk.1.1.2, ⟨hk.1.2, hk.2⟩⟩⟩ | (refine ⟨?_, ⟨?_, ⟨?_, ?_⟩⟩⟩ <;> first | exact hk.1 | exact hk.2 | exact hk.1.1 | exact hk.1.2 | exact hk.2.1 | exact hk.2.2 | exact hk.1.1.1 | exact hk.1.1.2 | exact hk.1.2.1 | exact hk.1.2.2 | exact hk.2.1.1 | exact hk.2.1.2 | exact hk.2.2.1 | exact hk.2.2.2 | exact hk.1.1.1.1 | exact hk.1.1.1.2 | exact hk.1.1.2.1 | exact hk.1.1.2.2 | exact hk.1.2.1.1 | exact hk.1.2.1.2 | exact hk.1.2.2.1 | exact hk.1.2.2.2 | exact hk.2.1.1.1 | exact hk.2.1.1.2 | exact hk.2.1.2.1 | exact hk.2.1.2.2 | exact hk.2.2.1.1 | exact hk.2.2.1.2 | exact hk.2.2.2.1 | exact hk.2.2.2.2 | exact hk.1.1.1.1.1 | exact hk.1.1.1.1.2 | exact hk.1.1.1.1.1.1 | exact hk.1.1.1.1.1.2 | exact hk.1.1.1.1.1.1.1 | exact hk.1.1.1.1.1.1.2 | exact hk.1.1.1.1.1.1.1.1 | exact hk.1.1.1.1.1.1.1.2 | exact hk.1.1.1.1.1.1.1.1.1 | exact hk.1.1.1.1.1.1.1.1.2 | exact hk.1.1.1.1.1.1.1.1.1.1 | exact hk.1.1.1.1.1.1.1.1.1.2 | exact hk.1.1.1.1.1.1.1.1.1.1.1 | exact hk.1.1.1.1.1.1.1.1.1.1.2 | exact hk.1.1.1.1.1.1.1.1.1.1.1.1 | exact hk.1.1.1.1.1.1.1.1.1.1.1.2))⟩, ⟨by (with_reducible repeat (first | apply Kd.V_alloc | apply Kd.V_drewN | apply Kd.V_drew)); exact Kd.V_mono HO1_1.out (fun _ hk => by first | exact ⟨hk.1.1.1, ⟨hk.1.1.2, ⟨hk.1.2, hk.2⟩⟩⟩ | (refine ⟨?_, ⟨?_, ⟨?_, ?_⟩⟩⟩ <;> first | exact hk.1 | exact hk.2 | exact hk.1.1 | exact hk.1.2 | exact hk.2.1 | exact hk.2.2 | exact hk.1.1.1 | exact hk.1.1.2 | exact hk.1.2.1 | exact hk.1.2.2 | exact hk.2.1.1 | exact hk.2.1.2 | exact hk.2.2.1 | exact hk.2.2.2 | exact hk.1.1.1.1 | exact hk.1.1.1.2 | exact hk.1.1.2.1 | exact hk.1.1.2.2 | exact hk.1.2.1.1 | exact hk.1.2.1.2 | exact hk.1.2.2.1 | exact hk.1.2.2.2 | exact hk.2.1.1.1 | exact hk.2.1.1.2 | exact hk.2.1.2.1 | exact hk.2.1.2.2 | exact hk.2.2.1.1 | exact hk.2.2.1.2 | exact hk.2.2.2.1 | exact hk.2.2.2.2 | exact hk.1.1.1.1.1 | exact hk.1.1.1.1.2 | exact hk.1.1.1.1.1.1 | exact hk.1.1.1.1.1.2 | exact hk.1.1.1.1.1.1.1 | exact hk.1.1.1.1.1.1.2 | exact hk.1.1.1.1.1.1.1.1 | exact hk.1.1.1.1.1.1.1.2 | exact hk.1.1.1.1.1.1.1.1.1 | exact hk.1.1.1.1.1.1.1.1.2 | exact hk.1.1.1.1.1.1.1.1.1.1 | exact hk.1.1.1.1.1.1.1.1.1.2 | exact hk.1.1.1.1.1.1.1.1.1.1.1 | exact hk.1.1.1.1.1.1.1.1.1.1.2 | exact hk.1.1.1.1.1.1.1.1.1.1.1.1 | exact hk.1.1.1.1.1.1.1.1.1.1.1.2))⟩, ⟨bm_ BK392.out⟩, ⟨bm_ BK393.out⟩, ⟨bm_ BK394.out⟩, ⟨by repeat (first | (with_reducible first | exact qm_ HB.out | apply qA_ | apply qN_ | apply qD_ | refine below_set ?_ GE392.out | refine below_set ?_ GE393.out | refine below_set ?_ GE394.out) | exact HB.out)⟩⟩
    ·rw [if_neg c32] at H
     have c32b0 : decide (a1_2 < a0_2) = false := decide_eq_false c32
     clear c32
     (first | rw [c32b0] | (simp only [i64_w, i32_w]; rw [c32b0]) | skip)
     have H' := A0_ H
     clear H
     go_wp2
     go_meet
     case rel => exact ⟨_, (a0_2), (by first | rfl | (simp; done) | (simp [*]; done)), H', ⟨by first | omega | exact Nat.le_refl _⟩, ⟨by (with_reducible repeat (first | apply Kd.V_alloc | apply Kd.V_drewN | apply Kd.V_drew)); exact Kd.V_mono HO0_1.out (fun _ hk => by first | exact ⟨hk.1.1.1, ⟨hk.1.1.2, ⟨hk.1.2, hk.2⟩⟩⟩ | (refine ⟨?_, ⟨?_, ⟨?_, ?_⟩⟩⟩ <;> first | exact hk.1 | exact hk.2 | exact hk.1.1 | exact hk.1.2 | exact hk.2.1 | exact hk.2.2 | exact hk.1.1.1 | exact hk.1.1.2 | exact hk.1.2.1 | exact hk.1.2.2 | exact hk.2.1.1 | exact hk.2.1.2 | exact hk.2.2.1 | exact hk.2.2.2 | exact hk.1.1.1.1 | exact hk.1.1.1.2 | exact hk.1.1.2.1 | exact hk.1.1.2.2 | exact hk.1.2.1.1 | exact hk.1.2.1.2 | exact hk.1.2.2.1 | exact hk.1.2.2.2 | exact hk.2.1.1.1 | exact hk.2.1.1.2 | exact hk.2.1.2.1 | exact hk.2.1.2.2 | exact hk.2.2.1.1 | exact hk.2.2.1.2 | exact hk.2.2.2.1 | exact hk.2.2.2.2 | exact hk.1.1.1.1.1 | exact hk.1.1.1.1.2 | exact hk.1.1.1.1.1.1 | exact hk.1.1.1.1.1.2 | exact hk.1.1.1.1.1.1.1 | exact hk.1.1.1.1.1.1.2 | exact hk.1.1.1.1.1.1.1.1 | exact hk.1.1.1.1.1.1.1.2 | exact hk.1.1.1.1.1.1.1.1.1 | exact hk.1.1.1.1.1.1.1.1.2 | exact hk.1.1.1.1.1.1.1.1.1.1 | exact hk.1.1.1.1.1.1.1.1.1.2 | exact hk.1.1.1.1.1.1.1.1.1.1.1 | exact hk.1.1.1.1.1.1.1.1.1.1.2 | exact hk.1.1.1.1.1.1.1.1.1.1.1.1 | exact hk.1.1.1.1.1.1.1.1.1.1.1.2))⟩, ⟨by (with_reducible repeat (first | apply Kd.V_alloc | apply Kd.V_drewN | apply Kd.V_drew)); exact Kd.V_mono HO1_1.out (fun _ hk => by first | exact ⟨hk.1.1.1, ⟨hk.1.1.2, ⟨hk.1.2, hk.2⟩⟩⟩ | (refine ⟨?_, ⟨?_, ⟨?_, ?_⟩⟩⟩ <;> first | exact hk.1 | exact hk.2 | exact hk.1.1 | exact hk.1.2 | exact hk.2.1 | exact hk.2.2 | exact hk.1.1.1 | exact hk.1.1.2 | exact hk.1.2.1 | exact hk.1.2.2 | exact hk.2.1.1 | exact hk.2.1.2 | exact hk.2.2.1 | exact hk.2.2.2 | exact hk.1.1.1.1 | exact hk.1.1.1.2 | exact hk.1.1.2.1 | exact hk.1.1.2.2 | exact hk.1.2.1.1 | exact hk.1.2.1.2 | exact hk.1.2.2.1 | exact hk.1.2.2.2 | exact hk.2.1.1.1 | exact hk.2.1.1.2 | exact hk.2.1.2.1 | exact hk.2.1.2.2 | exact hk.2.2.1.1 | exact hk.2.2.1.2 | exact hk.2.2.2.1 | exact hk.2.2.2.2 | exact hk.1.1.1.1.1 | exact hk.1.1.1.1.2 | exact hk.1.1.1.1.1.1 | exact hk.1.1.1.1.1.2 | exact hk.1.1.1.1.1.1.1 | exact hk.1.1.1.1.1.1.2 | exact hk.1.1.1.1.1.1.1.1 | exact hk.1.1.1.1.1.1.1.2 | exact hk.1.1.1.1.1.1.1.1.1 | exact hk.1.1.1.1.1.1.1.1.2 | exact hk.1.1.1.1.1.1.1.1.1.1 | exact hk.1.1.1.1.1.1.1.1.1.2 | exact hk.1.1.1.1.1.1.1.1.1.1.1 | exact hk.1.1.1.1.1.1.1.1.1.1.2 | exact hk.1.1.1.1.1.1.1.1.1.1.1.1 | exact hk.1.1.1.1.1.1.1.1.1.1.1.2))⟩, ⟨bm_ BK392.out⟩, ⟨bm_ BK393.out⟩, ⟨bm_ BK394.out⟩, ⟨by repeat (first | (with_reducible first | exact qm_ HB.out | apply qA_ | apply qN_ | apply qD_ | refine below_set ?_ GE392.out | refine below_set ?_ GE393.out | refine below_set ?_ GE394.out) | exact HB.out)⟩⟩
   case rest =>
    clear HC23
    try clear c1
    try clear c2
    try clear p2
    try clear c3
    try clear c3b0
    try clear c3b1
    try clear c3b2
    try clear c4
    try clear c7
    try clear c8
    try clear c10
    try clear c13
    try clear c13b0
    try clear c13b1
    try clear c13b2
    try clear c17
    try clear c18
    try clear c20
    try clear c27
    try clear c28
    try clear c30
    try clear c32
    try clear c32b0
    try clear c33
    try clear c34
    try clear hcz11
    try clear hcz12
    try clear hcz19
    try clear hcz21
    try clear hcz22
    try clear hcz29
    try clear hcz31
    try clear hcz35
    try clear hcz9
    try clear hfz11
    try clear hfz12
    try clear hfz19
    try clear hfz21
    try clear hfz22
    try clear hfz29
    try clear hfz31
    try clear hfz35
    try clear hfz9
    obtain ⟨kq, x5_22, rfl, HA, HJ22, HO_393001, HO_394001, BK392, BK393, BK394, HB⟩ := hcut
    cases kq with
    | zero => exact absurd HA.out (by simp [cutplaneref02_Add.j0])
    | succ kj22 =>
     have H := HA.out
     clear HA
     simp only [cutplaneref02_Add.j0] at H
     replace H := Option.bind_eq_some_iff.mp H
     obtain ⟨t395, A360, H⟩ := H
     replace H : ((cutplaneref01_Up.f kj22 l1_1 (wrap64 (a1_2 - x5_22))).bind fun t398 => (if (a0_0 == a1_0) = true then ((cutplaneref01_Add.f kj22 t395 t398).bind fun t401 => ((cutplaneref02_Form.f kj22 a0_0 t401 x5_22).bind fun bt404 => (some (bt404.1, bt404.2.1, bt404.2.2)))) else ((cutplaneref01_Cmp.f kj22 t395 t398).bind fun t409 => (if t409 ≥ 0 then ((cutplaneref01_Sub.f kj22 t395 t398).bind fun t410 => ((cutplaneref02_Form.f kj22 a0_0 t410 x5_22).bind fun bt413 => (some (bt413.1, bt413.2.1, bt413.2.2)))) else ((cutplaneref01_Sub.f kj22 t398 t395).bind fun t418 => ((cutplaneref02_Form.f kj22 a1_0 t418 x5_22).bind fun bt421 => (some (bt421.1, bt421.2.1, bt421.2.2)))))))) = some (r1, r2, r3) := H
     have A36 := A0_ A360
     clear A360
     replace H := Option.bind_eq_some_iff.mp H
     obtain ⟨t398, A370, H⟩ := H
     replace H : (if (a0_0 == a1_0) = true then ((cutplaneref01_Add.f kj22 t395 t398).bind fun t401 => ((cutplaneref02_Form.f kj22 a0_0 t401 x5_22).bind fun bt404 => (some (bt404.1, bt404.2.1, bt404.2.2)))) else ((cutplaneref01_Cmp.f kj22 t395 t398).bind fun t409 => (if t409 ≥ 0 then ((cutplaneref01_Sub.f kj22 t395 t398).bind fun t410 => ((cutplaneref02_Form.f kj22 a0_0 t410 x5_22).bind fun bt413 => (some (bt413.1, bt413.2.1, bt413.2.2)))) else ((cutplaneref01_Sub.f kj22 t398 t395).bind fun t418 => ((cutplaneref02_Form.f kj22 a1_0 t418 x5_22).bind fun bt421 => (some (bt421.1, bt421.2.1, bt421.2.2))))))) = some (r1, r2, r3) := H
     have A37 := A0_ A370
     clear A370
     by_cases c38 : (a0_0 == a1_0) = true
     ·rw [if_pos c38] at H
      have c38b0 : (a0_0 == a1_0) = true := c38
      (try (have c38b1 : decide (a0_0 = a1_0) = true := by simpa using c38))
      (try (have c38b2 : (a0_0 == a1_0) = true := by simpa using c38))
      clear c38
      replace H := Option.bind_eq_some_iff.mp H
      obtain ⟨t401, A390, H⟩ := H
      replace H : ((cutplaneref02_Form.f kj22 a0_0 t401 x5_22).bind fun bt404 => (some (bt404.1, bt404.2.1, bt404.2.2))) = some (r1, r2, r3) := H
      have A39 := A0_ A390
      clear A390
      replace H := Option.bind_eq_some_iff.mp H
      obtain ⟨⟨t404, t405, t408⟩, A400, H⟩ := H
      replace H : (some (t404, t405, t408)) = some (r1, r2, r3) := H
      have A40 := A0_ A400
      clear A400
      simp only [Option.some.injEq, Prod.mk.injEq] at H
      obtain ⟨rfl, rfl, rfl⟩ := H
      have hnb41 := NB392_393.out
      have hnc41 := NB393_392.out
      have hnb42 := NB392_394.out
      have hnc42 := NB394_392.out
      have hcz43 := bc3_ BK392.out
      have hfz43 := bf3_ BK392.out
      try go_wp2_with (first | ((with_reducible refine gate_callee (f := 56) rfl ?_); refine goesL_ (some 32) rfl rfl Tryd.func56 (by kernel_rfl) rfl #[.slice A0_1 l0_1.length c0_1, .int .i64 (wrap64 (a0_2 - x5_22))] rfl (by (try simp only [List.map_toArray, List.map_cons, List.map_nil]); first | done | rfl | (simp only [List.length_drop, List.length_take]; rfl)) ?_; (with_reducible refine (cutplaneref01_Up.calls kj22 _ _ l0_1 (wrap64 (a0_2 - x5_22)) t395 _ ?side1 ?side2 A36.out).mono ?_); (case side1 => repeat (first | exact (Kd.V_reads' HO_393001.out).2.2 | (with_reducible refine Kd.C_alloc ?_ _) | (with_reducible refine Kd.C_drewN ?_ _) | (with_reducible refine Kd.C_drew ?_))); (case side2 => exact (Kd.V_reads' HO_393001.out).2.1); rintro e w44 ⟨v396, rfl, ho0, hb⟩; refine ⟨_, rfl, ?_⟩; have n0_ := A0_ (Kd.V_below (by exact vm_ HO_393001.out) hb); have n1_ := A0_ (Kd.V_below (by exact vm_ HO_394001.out) hb); have n2_ := A0_ (Kd.V_lower (Kd.V_mono (ok' := fun k_ => ((P0_1_ k_ ∨ P1_1_ k_) ∨ w.heap.size ≤ k_) ∧ k_ ≠ gb392 ∧ k_ ≠ gb393 ∧ k_ ≠ gb394) ho0 (fun k_ hk_ => ⟨(.inr (Nat.le_trans (below_size (by repeat (first | (with_reducible first | exact qm_ HB.out | apply qA_ | apply qN_ | apply qD_ | refine below_set ?_ GE392.out | refine below_set ?_ GE393.out | refine below_set ?_ GE394.out) | exact HB.out))) hk_)), (Kd.freshB (bm_ BK392.out) k_ hk_), (Kd.freshB (bm_ BK393.out) k_ hk_), (Kd.freshB (bm_ BK394.out) k_ hk_)⟩)) (below_size (by repeat (first | (with_reducible first | exact qm_ HB.out | apply qA_ | apply qN_ | apply qD_ | refine below_set ?_ GE392.out | refine below_set ?_ GE393.out | refine below_set ?_ GE394.out) | exact HB.out)))); have n3_ := A0_ (blk_below (bm_ BK392.out) hb); have n4_ := A0_ (blk_below (bm_ BK393.out) hb); have n5_ := A0_ (blk_below (bm_ BK394.out) hb); have n6_ := A0_ (below_step (by repeat (first | (with_reducible first | exact qm_ HB.out | apply qA_ | apply qN_ | apply qD_ | refine below_set ?_ GE392.out | refine below_set ?_ GE393.out | refine below_set ?_ GE394.out) | exact HB.out)) hb); clear HO_393001 HO_394001 BK392 BK393 BK394 HB; have HO_393001 := n0_; have HO_394001 := n1_; have HO397 := n2_; have BK392 := n3_; have BK393 := n4_; have BK394 := n5_; have HB := n6_; clear n0_ n1_ n2_ n3_ n4_ n5_ n6_; (try clear hb); (try clear ho0); have hnb45 := NB393_394.out; have hnc45 := NB394_393.out; have hcz46 := bc3_ BK393.out; have hfz46 := bf3_ BK393.out) | ((with_reducible refine gate_callee (f := 56) rfl ?_); refine goesL_ (some 39) rfl rfl Tryd.func56 (by kernel_rfl) rfl #[.slice A1_1 l1_1.length c1_1, .int .i64 (wrap64 (a1_2 - x5_22))] rfl (by (try simp only [List.map_toArray, List.map_cons, List.map_nil]); first | done | rfl | (simp only [List.length_drop, List.length_take]; rfl)) ?_; (with_reducible refine (cutplaneref01_Up.calls kj22 _ _ l1_1 (wrap64 (a1_2 - x5_22)) t398 _ ?side1 ?side2 A37.out).mono ?_); (case side1 => repeat (first | exact (Kd.V_reads' HO_394001.out).2.2 | (with_reducible refine Kd.C_alloc ?_ _) | (with_reducible refine Kd.C_drewN ?_ _) | (with_reducible refine Kd.C_drew ?_))); (case side2 => exact (Kd.V_reads' HO_394001.out).2.1); rintro e w47 ⟨v399, rfl, ho0, hb⟩; refine ⟨_, rfl, ?_⟩; have n0_ := A0_ (Kd.V_below (by exact vm_ HO_393001.out) hb); have n1_ := A0_ (Kd.V_below (by exact vm_ HO_394001.out) hb); have n2_ := A0_ (Kd.V_below (by exact vm_ HO397.out) hb); have n3_ := A0_ (Kd.V_lower (Kd.V_mono (ok' := fun k_ => ((P0_1_ k_ ∨ P1_1_ k_) ∨ w.heap.size ≤ k_) ∧ k_ ≠ gb392 ∧ k_ ≠ gb393 ∧ k_ ≠ gb394) ho0 (fun k_ hk_ => ⟨(.inr (Nat.le_trans (below_size (by repeat (first | (with_reducible first | exact qm_ HB.out | apply qA_ | apply qN_ | apply qD_ | refine below_set ?_ GE392.out | refine below_set ?_ GE393.out | refine below_set ?_ GE394.out) | exact HB.out))) hk_)), (Kd.freshB (bm_ BK392.out) k_ hk_), (Kd.freshB (bm_ BK393.out) k_ hk_), (Kd.freshB (bm_ BK394.out) k_ hk_)⟩)) (below_size (by repeat (first | (with_reducible first | exact qm_ HB.out | apply qA_ | apply qN_ | apply qD_ | refine below_set ?_ GE392.out | refine below_set ?_ GE393.out | refine below_set ?_ GE394.out) | exact HB.out)))); have n4_ := A0_ (blk_below (bm_ BK392.out) hb); have n5_ := A0_ (blk_below (bm_ BK393.out) hb); have n6_ := A0_ (blk_below (bm_ BK394.out) hb); have n7_ := A0_ (below_step (by repeat (first | (with_reducible first | exact qm_ HB.out | apply qA_ | apply qN_ | apply qD_ | refine below_set ?_ GE392.out | refine below_set ?_ GE393.out | refine below_set ?_ GE394.out) | exact HB.out)) hb); clear HO_393001 HO_394001 HO397 BK392 BK393 BK394 HB; have HO_393001 := n0_; have HO_394001 := n1_; have HO397 := n2_; have HO400 := n3_; have BK392 := n4_; have BK393 := n5_; have BK394 := n6_; have HB := n7_; clear n0_ n1_ n2_ n3_ n4_ n5_ n6_ n7_; (try clear hb); (try clear ho0); have hcz48 := bc3_ BK392.out; have hfz48 := bf3_ BK392.out; have hcz49 := bc3_ BK393.out; have hfz49 := bf3_ BK393.out))
      have n0_ := A0_ (Kd.V_drew HO_393001.out)
      have n1_ := A0_ (Kd.V_drew HO_394001.out)
      have n2_ := A0_ (Kd.V_drew HO397.out)
      have n3_ := A0_ (Kd.V_drew HO400.out)
      have n4_ := A0_ (blk_drew BK392.out)
      have n5_ := A0_ (blk_drew BK393.out)
      have n6_ := A0_ (blk_drew BK394.out)
      have n7_ := A0_ (below_drew1 HB.out)
      clear HO_393001 HO_394001 HO397 HO400 BK392 BK393 BK394 HB
      have HO_393001 := n0_
      have HO_394001 := n1_
      have HO397 := n2_
      have HO400 := n3_
      have BK392 := n4_
      have BK393 := n5_
      have BK394 := n6_
      have HB := n7_
      clear n0_ n1_ n2_ n3_ n4_ n5_ n6_ n7_
      obtain ⟨Ao51, co51, eo51⟩ := Kd.V_slice HO397.out
      (first | subst eo51 | (injection eo51 with f1_ f2_ f3_; have f4_ := f1_.symm; have f5_ := f3_.symm; clear f1_ f2_ f3_; subst f4_; subst f5_))
      obtain ⟨Ao52, co52, eo52⟩ := Kd.V_slice HO400.out
      (first | subst eo52 | (injection eo52 with f1_ f2_ f3_; have f4_ := f1_.symm; have f5_ := f3_.symm; clear f1_ f2_ f3_; subst f4_; subst f5_))
      refine start_ (n := 8) (S := fun w' => w'.cell? ⟨gb392, 0, none⟩ = some (.bool a0_0) ∧ w'.cell? ⟨gb392, 1, none⟩ = some (.slice A0_1 l0_1.length c0_1) ∧ w'.cell? ⟨gb392, 2, none⟩ = some (.int .i64 a0_2)) (ds := []) #[false, false, false, false, false, false, false, false] (by kernel_rfl) rfl rfl ⟨bC_ BK392.out 0, bC_ BK392.out 1, bC_ BK392.out 2⟩ (fun hHeld => ?_); refine with_tabW cutplaneref02_Add.tab11 cutplaneref02_Add.bits11 (fun HT_ HW_ => ?_)
      generalize w47.drew = w50 at HO_393001 HO_394001 HO397 HO400 BK392 BK393 BK394 HB hHeld ⊢
      refine pure_ (i := 0) (N := some 45) (v := ?_) (a' := ?_) #[true, false, false, false, false, false, false, false] rfl rfl (any_of HT_.out (by kernel_rfl)) (fun _ _ _ h => h) (Or.inl ⟨by rfl, ?_⟩) ?_ ?_
      rotate_left
      ·intro w'
       go_simp
       with_reducible rfl
      rotate_left
      ·simp only [Act.put, sp_, i64_w, i32_w]
       rfl
      refine pure_ (i := 2) (N := some 47) (v := ?_) (a' := ?_) #[true, false, true, false, false, false, false, false] rfl rfl (any_of HT_.out (by kernel_rfl)) (fun _ _ _ h => h) (Or.inl ⟨by rfl, ?_⟩) ?_ ?_
      rotate_left
      ·intro w'
       go_simp
       with_reducible rfl
      rotate_left
      ·simp only [Act.put, sp_, i64_w, i32_w]
       rfl
      refine pure_ (i := 3) (N := some 48) (v := ?_) (a' := ?_) #[true, false, true, true, false, false, false, false] rfl rfl (any_of HT_.out (by kernel_rfl)) (fun _ _ _ h => h) (Or.inl ⟨by rfl, ?_⟩) ?_ ?_
      rotate_left
      ·intro w'
       go_simp
       with_reducible rfl
      rotate_left
      ·simp only [Act.put, sp_, i64_w, i32_w]
       rfl
      refine pure_ (i := 5) (N := some 50) (v := ?_) (a' := ?_) #[true, false, true, true, false, true, false, false] rfl rfl (any_of HT_.out (by kernel_rfl)) (fun _ _ _ h => h) (Or.inl ⟨by rfl, ?_⟩) ?_ ?_
      rotate_left
      ·intro w'
       go_simp
       with_reducible rfl
      rotate_left
      ·simp only [Act.put, sp_, i64_w, i32_w]
       rfl
      refine take_ (i := 1) (N := some 46) (v := ?_) (a' := ?_) #[true, true, true, true, false, true, false, false] rfl rfl (take_ofW HT_.out HW_.out (by kernel_rfl)) (fun _ _ _ h => h) (Or.inl ⟨by rfl, ?_⟩) hHeld ?_ ?_
      rotate_left
      ·rintro w' ⟨s0, s1, s2⟩
       go_simp
       with_reducible rfl
      rotate_left
      ·simp only [Act.put, sp_, i64_w, i32_w]
       rfl
      refine one_ (i := 4) (N := some 49) #[true, true, true, true, true, true, false, false] rfl rfl (one_of HT_.out (by kernel_rfl)) (by decide) (fun K hK => ?_)
      refine goes_ Tryd.func67 (by kernel_rfl) rfl #[.slice Ao51 t395.length co51, .slice Ao52 t398.length co52] (by rfl) rfl rfl (by (try simp only [List.map_toArray, List.map_cons, List.map_nil]); first | done | rfl | (simp only [List.length_drop, List.length_take]; rfl)) ?_
      with_reducible refine (cutplaneref01_Add.calls kj22 _ _ t395 _ _ t398 t401 _ ?side1 ?side2 ?side3 ?side4 A39.out).mono ?_
      (case side1 => repeat (first | exact (Kd.V_reads' HO397.out).2.2 | (with_reducible refine Kd.C_alloc ?_ _) | (with_reducible refine Kd.C_drewN ?_ _) | (with_reducible refine Kd.C_drew ?_)))
      (case side2 => exact (Kd.V_reads' HO397.out).2.1)
      (case side3 => repeat (first | exact (Kd.V_reads' HO400.out).2.2 | (with_reducible refine Kd.C_alloc ?_ _) | (with_reducible refine Kd.C_drewN ?_ _) | (with_reducible refine Kd.C_drew ?_)))
      (case side4 => exact (Kd.V_reads' HO400.out).2.1)
      rintro e w53 ⟨v402, rfl, ho0, hb⟩
      refine ⟨_, rfl, ?_⟩
      have n0_ := A0_ (Kd.V_below (by exact vm_ HO_393001.out) hb)
      have n1_ := A0_ (Kd.V_below (by exact vm_ HO_394001.out) hb)
      have n2_ := A0_ (Kd.V_below (by exact vm_ HO397.out) hb)
      have n3_ := A0_ (Kd.V_below (by exact vm_ HO400.out) hb)
      have n4_ := A0_ (Kd.V_lower (Kd.V_mono (ok' := fun k_ => ((P0_1_ k_ ∨ P1_1_ k_) ∨ w.heap.size ≤ k_) ∧ k_ ≠ gb392 ∧ k_ ≠ gb393 ∧ k_ ≠ gb394) ho0 (fun k_ hk_ => ⟨(.inr (Nat.le_trans (below_size (by repeat (first | (with_reducible first | exact qm_ HB.out | apply qA_ | apply qN_ | apply qD_ | refine below_set ?_ GE392.out | refine below_set ?_ GE393.out | refine below_set ?_ GE394.out) | exact HB.out))) hk_)), (Kd.freshB (bm_ BK392.out) k_ hk_), (Kd.freshB (bm_ BK393.out) k_ hk_), (Kd.freshB (bm_ BK394.out) k_ hk_)⟩)) (below_size (by repeat (first | (with_reducible first | exact qm_ HB.out | apply qA_ | apply qN_ | apply qD_ | refine below_set ?_ GE392.out | refine below_set ?_ GE393.out | refine below_set ?_ GE394.out) | exact HB.out))))
      have n5_ := A0_ (blk_below (bm_ BK392.out) hb)
      have n6_ := A0_ (blk_below (bm_ BK393.out) hb)
      have n7_ := A0_ (blk_below (bm_ BK394.out) hb)
      have n8_ := A0_ (below_step (by repeat (first | (with_reducible first | exact qm_ HB.out | apply qA_ | apply qN_ | apply qD_ | refine below_set ?_ GE392.out | refine below_set ?_ GE393.out | refine below_set ?_ GE394.out) | exact HB.out)) hb)
      clear HO_393001 HO_394001 HO397 HO400 BK392 BK393 BK394 HB
      have HO_393001 := n0_
      have HO_394001 := n1_
      have HO397 := n2_
      have HO400 := n3_
      have HO403 := n4_
      have BK392 := n5_
      have BK393 := n6_
      have BK394 := n7_
      have HB := n8_
      clear n0_ n1_ n2_ n3_ n4_ n5_ n6_ n7_ n8_
      (try clear hb)
      (try clear ho0)
      obtain ⟨Ao54, co54, eo54⟩ := Kd.V_slice HO403.out
      (first | subst eo54 | (injection eo54 with f1_ f2_ f3_; have f4_ := f1_.symm; have f5_ := f3_.symm; clear f1_ f2_ f3_; subst f4_; subst f5_))
      refine hK.out _ _ ⟨bC_ BK392.out 0, bC_ BK392.out 1, bC_ BK392.out 2⟩ (fun hHeld => ?_)
      clear hK K
      refine norm_ (a' := ?_) ?_ ?_
      rotate_left
      ·show Act.put _ (some 49) _ = _
       simp only [Act.put, sp_, i64_w, i32_w]
       rfl
      refine one_ (i := 6) (N := some 51) #[true, true, true, true, true, true, true, false] rfl rfl (one_of HT_.out (by kernel_rfl)) (by decide) (fun K hK => ?_)
      refine goes_ Tryd.func44 (by kernel_rfl) rfl #[.bool a0_0, .slice Ao54 t401.length co54, .int .i64 x5_22] (by rfl) rfl rfl (by (try simp only [List.map_toArray, List.map_cons, List.map_nil]); first | done | rfl | (simp only [List.length_drop, List.length_take]; rfl)) ?_
      with_reducible refine (cutplaneref02_Form.calls kj22 a0_0 _ _ t401 x5_22 t404 t405 t408 _ ?side1 ?side2 A40.out).mono ?_
      (case side1 => repeat (first | exact (Kd.V_reads' HO403.out).2.2 | (with_reducible refine Kd.C_alloc ?_ _) | (with_reducible refine Kd.C_drewN ?_ _) | (with_reducible refine Kd.C_drew ?_)))
      (case side2 => exact (Kd.V_reads' HO403.out).2.1)
      rintro e w55 ⟨v406, rfl, ho0, hb⟩
      refine ⟨_, rfl, ?_⟩
      have n0_ := A0_ (Kd.V_below (by exact vm_ HO_393001.out) hb)
      have n1_ := A0_ (Kd.V_below (by exact vm_ HO_394001.out) hb)
      have n2_ := A0_ (Kd.V_below (by exact vm_ HO397.out) hb)
      have n3_ := A0_ (Kd.V_below (by exact vm_ HO400.out) hb)
      have n4_ := A0_ (Kd.V_below (by exact vm_ HO403.out) hb)
      have n5_ := A0_ (Kd.V_lower (Kd.V_mono (ok' := fun k_ => ((P0_1_ k_ ∨ P1_1_ k_) ∨ w.heap.size ≤ k_) ∧ k_ ≠ gb392 ∧ k_ ≠ gb393 ∧ k_ ≠ gb394) ho0 (fun k_ hk_ => ⟨(.inr (Nat.le_trans (below_size (by repeat (first | (with_reducible first | exact qm_ HB.out | apply qA_ | apply qN_ | apply qD_ | refine below_set ?_ GE392.out | refine below_set ?_ GE393.out | refine below_set ?_ GE394.out) | exact HB.out))) hk_)), (Kd.freshB (bm_ BK392.out) k_ hk_), (Kd.freshB (bm_ BK393.out) k_ hk_), (Kd.freshB (bm_ BK394.out) k_ hk_)⟩)) (below_size (by repeat (first | (with_reducible first | exact qm_ HB.out | apply qA_ | apply qN_ | apply qD_ | refine below_set ?_ GE392.out | refine below_set ?_ GE393.out | refine below_set ?_ GE394.out) | exact HB.out))))
      have n6_ := A0_ (blk_below (bm_ BK392.out) hb)
      have n7_ := A0_ (blk_below (bm_ BK393.out) hb)
      have n8_ := A0_ (blk_below (bm_ BK394.out) hb)
      have n9_ := A0_ (below_step (by repeat (first | (with_reducible first | exact qm_ HB.out | apply qA_ | apply qN_ | apply qD_ | refine below_set ?_ GE392.out | refine below_set ?_ GE393.out | refine below_set ?_ GE394.out) | exact HB.out)) hb)
      clear HO_393001 HO_394001 HO397 HO400 HO403 BK392 BK393 BK394 HB
      have HO_393001 := n0_
      have HO_394001 := n1_
      have HO397 := n2_
      have HO400 := n3_
      have HO403 := n4_
      have HO407 := n5_
      have BK392 := n6_
      have BK393 := n7_
      have BK394 := n8_
      have HB := n9_
      clear n0_ n1_ n2_ n3_ n4_ n5_ n6_ n7_ n8_ n9_
      (try clear hb)
      (try clear ho0)
      obtain ⟨Ao57, co57, eo57⟩ := Kd.V_slice HO407.out
      (first | subst eo57 | (injection eo57 with f1_ f2_ f3_; have f4_ := f1_.symm; have f5_ := f3_.symm; clear f1_ f2_ f3_; subst f4_; subst f5_))
      refine hK.out _ _ ⟨bC_ BK392.out 0, bC_ BK392.out 1, bC_ BK392.out 2⟩ (fun hHeld => ?_)
      clear hK K
      refine norm_ (a' := ?_) ?_ ?_
      rotate_left
      ·show Act.put _ (some 51) _ = _
       simp only [Act.put, sp_, i64_w, i32_w]
       rfl
      refine one_ (i := 7) (N := none) #[true, true, true, true, true, true, true, true] rfl rfl (one_of HT_.out (by kernel_rfl)) (by decide) (fun K hK => ?_)
      have hs56 : w55.cell? ⟨gb394, 0, none⟩ = some (.bool false) := (blk_cell BK394.out 0).trans rfl
      have hfs56 := blk_frozen BK394.out 0
      have hns56_0 := NB392_394.out
      have hns56_1 := NB393_394.out
      have hms56_0 := NB394_392.out
      have hms56_1 := NB394_393.out
      have hs58 : w55.cell? ⟨gb394, 1, none⟩ = some (.slice none 0 0) := (blk_cell BK394.out 1).trans rfl
      have hfs58 := blk_frozen BK394.out 1
      have hns58_0 := NB392_394.out
      have hns58_1 := NB393_394.out
      have hms58_0 := NB394_392.out
      have hms58_1 := NB394_393.out
      have hs59 : w55.cell? ⟨gb394, 2, none⟩ = some (.int .i64 0) := (blk_cell BK394.out 2).trans rfl
      have hfs59 := blk_frozen BK394.out 2
      have hns59_0 := NB392_394.out
      have hns59_1 := NB393_394.out
      have hms59_0 := NB394_392.out
      have hms59_1 := NB394_393.out
      refine skip_ (w1 := ?_) (by rfl) rfl ?_ ?_
      rotate_left
      ·go_simp
       rfl
      refine hK.out _ _ ⟨((cell_far (p := ⟨gb394, _, none⟩) NB392_394.out _).trans (((cell_far (p := ⟨gb394, _, none⟩) NB392_394.out _).trans (((cell_far (p := ⟨gb394, _, none⟩) NB392_394.out _).trans (hHeld.1)))))), ((cell_far (p := ⟨gb394, _, none⟩) NB392_394.out _).trans (((cell_far (p := ⟨gb394, _, none⟩) NB392_394.out _).trans (((cell_far (p := ⟨gb394, _, none⟩) NB392_394.out _).trans (hHeld.2.1)))))), ((cell_far (p := ⟨gb394, _, none⟩) NB392_394.out _).trans (((cell_far (p := ⟨gb394, _, none⟩) NB392_394.out _).trans (((cell_far (p := ⟨gb394, _, none⟩) NB392_394.out _).trans (hHeld.2.2))))))⟩ (fun hHeld => ?_)
      clear hK K
      refine done_ (done_of HT_.out (by kernel_rfl)) ?_
      try go_wp2
      refine bodyPost_ret (results_cell_row rfl _ _ gb394 26 #[.bool t404, .slice Ao57 t405.length co57, .int .i64 t408] (0, 0) _ rfl (by (with_reducible repeat first | apply bN_ | apply bD_ | apply bA_); refine blk_put (cs := #[.bool t404, .slice Ao57 t405.length co57, .int .i64 0]) ?_ 2 _ rfl; (with_reducible repeat first | apply bN_ | apply bD_ | apply bA_); refine blk_put (cs := #[.bool t404, .slice none 0 0, .int .i64 0]) ?_ 1 _ rfl; (with_reducible repeat first | apply bN_ | apply bD_ | apply bA_); refine blk_put (cs := #[.bool false, .slice none 0 0, .int .i64 0]) ?_ 0 _ rfl; (with_reducible repeat first | apply bN_ | apply bD_ | apply bA_); exact BK394.out) Tryd.underlying26 rfl (by kernel_rfl)) rfl ?_
      exact ⟨_, by first | rfl | (simp [errW_none, errW_some] <;> rfl) | (simp [*, errW_none, errW_some] <;> rfl), by (with_reducible repeat (first | apply Kd.V_alloc | apply Kd.V_drewN | apply Kd.V_drew)); exact Kd.V_mono (Kd.V_far (p := ⟨gb394, 2, none⟩) (Kd.V_far (p := ⟨gb394, 1, none⟩) (Kd.V_far (p := ⟨gb394, 0, none⟩) (Kd.V_mono HO407.out (fun k_ hk => (⟨hk, hk.2.2.2⟩ : _ ∧ k_ ≠ gb394))) (fun _ hk => hk.2) (.bool t404)) (fun _ hk => hk.2) (.slice Ao57 t405.length co57)) (fun _ hk => hk.2) (.int .i64 t408)) (fun _ hk => hk.1.1), by repeat (first | (with_reducible first | exact qm_ HB.out | apply qA_ | apply qN_ | apply qD_ | refine below_set ?_ GE392.out | refine below_set ?_ GE393.out | refine below_set ?_ GE394.out) | exact HB.out)⟩
     ·rw [if_neg c38] at H
      have c38b0 : (a0_0 == a1_0) = false := by simpa using c38
      (try (have c38b1 : decide (a0_0 = a1_0) = false := by simpa using c38))
      (try (have c38b2 : (a0_0 == a1_0) = false := by simpa using c38))
      (try (have c38b3 : ¬ (a0_0 = a1_0) := by simpa using c38))
      clear c38
      replace H := Option.bind_eq_some_iff.mp H
      obtain ⟨t409, A600, H⟩ := H
      replace H : (if t409 ≥ 0 then ((cutplaneref01_Sub.f kj22 t395 t398).bind fun t410 => ((cutplaneref02_Form.f kj22 a0_0 t410 x5_22).bind fun bt413 => (some (bt413.1, bt413.2.1, bt413.2.2)))) else ((cutplaneref01_Sub.f kj22 t398 t395).bind fun t418 => ((cutplaneref02_Form.f kj22 a1_0 t418 x5_22).bind fun bt421 => (some (bt421.1, bt421.2.1, bt421.2.2))))) = some (r1, r2, r3) := H
      have A60 := A0_ A600
      clear A600
      by_cases c61 : t409 ≥ 0
      ·rw [if_pos c61] at H
       have c61b0 : decide (0 ≤ t409) = true := decide_eq_true c61
       clear c61
       replace H := Option.bind_eq_some_iff.mp H
       obtain ⟨t410, A620, H⟩ := H
       replace H : ((cutplaneref02_Form.f kj22 a0_0 t410 x5_22).bind fun bt413 => (some (bt413.1, bt413.2.1, bt413.2.2))) = some (r1, r2, r3) := H
       have A62 := A0_ A620
       clear A620
       replace H := Option.bind_eq_some_iff.mp H
       obtain ⟨⟨t413, t414, t417⟩, A630, H⟩ := H
       replace H : (some (t413, t414, t417)) = some (r1, r2, r3) := H
       have A63 := A0_ A630
       clear A630
       simp only [Option.some.injEq, Prod.mk.injEq] at H
       obtain ⟨rfl, rfl, rfl⟩ := H
       have hnb64 := NB392_393.out
       have hnc64 := NB393_392.out
       have hnb65 := NB392_394.out
       have hnc65 := NB394_392.out
       have hcz66 := bc3_ BK392.out
       have hfz66 := bf3_ BK392.out
       try go_wp2_with (first | ((with_reducible refine gate_callee (f := 56) rfl ?_); refine goesL_ (some 32) rfl rfl Tryd.func56 (by kernel_rfl) rfl #[.slice A0_1 l0_1.length c0_1, .int .i64 (wrap64 (a0_2 - x5_22))] rfl (by (try simp only [List.map_toArray, List.map_cons, List.map_nil]); first | done | rfl | (simp only [List.length_drop, List.length_take]; rfl)) ?_; (with_reducible refine (cutplaneref01_Up.calls kj22 _ _ l0_1 (wrap64 (a0_2 - x5_22)) t395 _ ?side1 ?side2 A36.out).mono ?_); (case side1 => repeat (first | exact (Kd.V_reads' HO_393001.out).2.2 | (with_reducible refine Kd.C_alloc ?_ _) | (with_reducible refine Kd.C_drewN ?_ _) | (with_reducible refine Kd.C_drew ?_))); (case side2 => exact (Kd.V_reads' HO_393001.out).2.1); rintro e w67 ⟨v396, rfl, ho0, hb⟩; refine ⟨_, rfl, ?_⟩; have n0_ := A0_ (Kd.V_below (by exact vm_ HO_393001.out) hb); have n1_ := A0_ (Kd.V_below (by exact vm_ HO_394001.out) hb); have n2_ := A0_ (Kd.V_lower (Kd.V_mono (ok' := fun k_ => ((P0_1_ k_ ∨ P1_1_ k_) ∨ w.heap.size ≤ k_) ∧ k_ ≠ gb392 ∧ k_ ≠ gb393 ∧ k_ ≠ gb394) ho0 (fun k_ hk_ => ⟨(.inr (Nat.le_trans (below_size (by repeat (first | (with_reducible first | exact qm_ HB.out | apply qA_ | apply qN_ | apply qD_ | refine below_set ?_ GE392.out | refine below_set ?_ GE393.out | refine below_set ?_ GE394.out) | exact HB.out))) hk_)), (Kd.freshB (bm_ BK392.out) k_ hk_), (Kd.freshB (bm_ BK393.out) k_ hk_), (Kd.freshB (bm_ BK394.out) k_ hk_)⟩)) (below_size (by repeat (first | (with_reducible first | exact qm_ HB.out | apply qA_ | apply qN_ | apply qD_ | refine below_set ?_ GE392.out | refine below_set ?_ GE393.out | refine below_set ?_ GE394.out) | exact HB.out)))); have n3_ := A0_ (blk_below (bm_ BK392.out) hb); have n4_ := A0_ (blk_below (bm_ BK393.out) hb); have n5_ := A0_ (blk_below (bm_ BK394.out) hb); have n6_ := A0_ (below_step (by repeat (first | (with_reducible first | exact qm_ HB.out | apply qA_ | apply qN_ | apply qD_ | refine below_set ?_ GE392.out | refine below_set ?_ GE393.out | refine below_set ?_ GE394.out) | exact HB.out)) hb); clear HO_393001 HO_394001 BK392 BK393 BK394 HB; have HO_393001 := n0_; have HO_394001 := n1_; have HO397 := n2_; have BK392 := n3_; have BK393 := n4_; have BK394 := n5_; have HB := n6_; clear n0_ n1_ n2_ n3_ n4_ n5_ n6_; (try clear hb); (try clear ho0); have hnb68 := NB393_394.out; have hnc68 := NB394_393.out; have hcz69 := bc3_ BK393.out; have hfz69 := bf3_ BK393.out) | ((with_reducible refine gate_callee (f := 56) rfl ?_); refine goesL_ (some 39) rfl rfl Tryd.func56 (by kernel_rfl) rfl #[.slice A1_1 l1_1.length c1_1, .int .i64 (wrap64 (a1_2 - x5_22))] rfl (by (try simp only [List.map_toArray, List.map_cons, List.map_nil]); first | done | rfl | (simp only [List.length_drop, List.length_take]; rfl)) ?_; (with_reducible refine (cutplaneref01_Up.calls kj22 _ _ l1_1 (wrap64 (a1_2 - x5_22)) t398 _ ?side1 ?side2 A37.out).mono ?_); (case side1 => repeat (first | exact (Kd.V_reads' HO_394001.out).2.2 | (with_reducible refine Kd.C_alloc ?_ _) | (with_reducible refine Kd.C_drewN ?_ _) | (with_reducible refine Kd.C_drew ?_))); (case side2 => exact (Kd.V_reads' HO_394001.out).2.1); rintro e w70 ⟨v399, rfl, ho0, hb⟩; refine ⟨_, rfl, ?_⟩; have n0_ := A0_ (Kd.V_below (by exact vm_ HO_393001.out) hb); have n1_ := A0_ (Kd.V_below (by exact vm_ HO_394001.out) hb); have n2_ := A0_ (Kd.V_below (by exact vm_ HO397.out) hb); have n3_ := A0_ (Kd.V_lower (Kd.V_mono (ok' := fun k_ => ((P0_1_ k_ ∨ P1_1_ k_) ∨ w.heap.size ≤ k_) ∧ k_ ≠ gb392 ∧ k_ ≠ gb393 ∧ k_ ≠ gb394) ho0 (fun k_ hk_ => ⟨(.inr (Nat.le_trans (below_size (by repeat (first | (with_reducible first | exact qm_ HB.out | apply qA_ | apply qN_ | apply qD_ | refine below_set ?_ GE392.out | refine below_set ?_ GE393.out | refine below_set ?_ GE394.out) | exact HB.out))) hk_)), (Kd.freshB (bm_ BK392.out) k_ hk_), (Kd.freshB (bm_ BK393.out) k_ hk_), (Kd.freshB (bm_ BK394.out) k_ hk_)⟩)) (below_size (by repeat (first | (with_reducible first | exact qm_ HB.out | apply qA_ | apply qN_ | apply qD_ | refine below_set ?_ GE392.out | refine below_set ?_ GE393.out | refine below_set ?_ GE394.out) | exact HB.out)))); have n4_ := A0_ (blk_below (bm_ BK392.out) hb); have n5_ := A0_ (blk_below (bm_ BK393.out) hb); have n6_ := A0_ (blk_below (bm_ BK394.out) hb); have n7_ := A0_ (below_step (by repeat (first | (with_reducible first | exact qm_ HB.out | apply qA_ | apply qN_ | apply qD_ | refine below_set ?_ GE392.out | refine below_set ?_ GE393.out | refine below_set ?_ GE394.out) | exact HB.out)) hb); clear HO_393001 HO_394001 HO397 BK392 BK393 BK394 HB; have HO_393001 := n0_; have HO_394001 := n1_; have HO397 := n2_; have HO400 := n3_; have BK392 := n4_; have BK393 := n5_; have BK394 := n6_; have HB := n7_; clear n0_ n1_ n2_ n3_ n4_ n5_ n6_ n7_; (try clear hb); (try clear ho0); have hcz71 := bc3_ BK392.out; have hfz71 := bf3_ BK392.out; have hcz72 := bc3_ BK393.out; have hfz72 := bf3_ BK393.out; obtain ⟨Ao73, co73, eo73⟩ := Kd.V_slice HO397.out; subst eo73; obtain ⟨Ao74, co74, eo74⟩ := Kd.V_slice HO400.out; subst eo74) | ((with_reducible refine gate_callee (f := 68) rfl ?_); refine goesL_ (some 54) rfl rfl Tryd.func68 (by kernel_rfl) rfl #[.slice Ao73 t395.length co73, .slice Ao74 t398.length co74] rfl (by (try simp only [List.map_toArray, List.map_cons, List.map_nil]); first | done | rfl | (simp only [List.length_drop, List.length_take]; rfl)) ?_; (with_reducible refine (cutplaneref01_Cmp.calls kj22 _ _ t395 _ _ t398 t409 _ ?side1 ?side2 ?side3 ?side4 A60.out).mono ?_); (case side1 => repeat (first | exact (Kd.V_reads' HO397.out).2.2 | (with_reducible refine Kd.C_alloc ?_ _) | (with_reducible refine Kd.C_drewN ?_ _) | (with_reducible refine Kd.C_drew ?_))); (case side2 => exact (Kd.V_reads' HO397.out).2.1); (case side3 => repeat (first | exact (Kd.V_reads' HO400.out).2.2 | (with_reducible refine Kd.C_alloc ?_ _) | (with_reducible refine Kd.C_drewN ?_ _) | (with_reducible refine Kd.C_drew ?_))); (case side4 => exact (Kd.V_reads' HO400.out).2.1); rintro e w' ⟨rfl, ⟨nd, rfl⟩⟩; refine ⟨_, rfl, ?_⟩; (try (rw [drewN_self w70]; generalize hq_ : World.drewN w70 _ = w70; have n0_ : Aside0 (Kd.V (Kd.int .u32) 78 w70 w.heap.size (fun k_ => ((P0_1_ k_ ∨ P1_1_ k_) ∨ w.heap.size ≤ k_) ∧ k_ ≠ gb392 ∧ k_ ≠ gb393 ∧ k_ ≠ gb394) (.slice Ao73 t395.length co73) t395) := ⟨by rw [← hq_]; exact (by exact vm_ HO397.out)⟩; have n1_ : Aside0 (Kd.V (Kd.int .u32) 78 w70 w.heap.size (fun k_ => ((P0_1_ k_ ∨ P1_1_ k_) ∨ w.heap.size ≤ k_) ∧ k_ ≠ gb392 ∧ k_ ≠ gb393 ∧ k_ ≠ gb394) (.slice Ao74 t398.length co74) t398) := ⟨by rw [← hq_]; exact (by exact vm_ HO400.out)⟩; have n2_ : Aside0 (Kd.V (Kd.int .u32) 78 w70 w.heap.size (fun k_ => ((P0_1_ k_ ∨ P1_1_ k_) ∨ w.heap.size ≤ k_) ∧ k_ ≠ gb392 ∧ k_ ≠ gb393 ∧ k_ ≠ gb394) (.slice A0_1 l0_1.length c0_1) l0_1) := ⟨by rw [← hq_]; exact (by exact vm_ HO_393001.out)⟩; have n3_ : Aside0 (Kd.V (Kd.int .u32) 78 w70 w.heap.size (fun k_ => ((P0_1_ k_ ∨ P1_1_ k_) ∨ w.heap.size ≤ k_) ∧ k_ ≠ gb392 ∧ k_ ≠ gb393 ∧ k_ ≠ gb394) (.slice A1_1 l1_1.length c1_1) l1_1) := ⟨by rw [← hq_]; exact (by exact vm_ HO_394001.out)⟩; have n4_ : Aside0 (w70.heap[gb392]? = some (.cells #[.bool a0_0, .slice A0_1 l0_1.length c0_1, .int .i64 a0_2] 26 (0, 0))) := ⟨by rw [← hq_]; exact (bm_ BK392.out)⟩; have n5_ : Aside0 (w70.heap[gb393]? = some (.cells #[.bool a1_0, .slice A1_1 l1_1.length c1_1, .int .i64 a1_2] 26 (0, 0))) := ⟨by rw [← hq_]; exact (bm_ BK393.out)⟩; have n6_ : Aside0 (w70.heap[gb394]? = some (.cells #[.bool false, .slice none 0 0, .int .i64 0] 26 (0, 0))) := ⟨by rw [← hq_]; exact (bm_ BK394.out)⟩; have n7_ : Aside0 (Below w.heap.size w w70) := ⟨by rw [← hq_]; exact (by repeat (first | (with_reducible first | exact qm_ HB.out | apply qA_ | apply qN_ | apply qD_ | refine below_set ?_ GE392.out | refine below_set ?_ GE393.out | refine below_set ?_ GE394.out) | exact HB.out))⟩; clear HO397 HO400 HO_393001 HO_394001 BK392 BK393 BK394 HB hq_; have HO397 := n0_; have HO400 := n1_; have HO_393001 := n2_; have HO_394001 := n3_; have BK392 := n4_; have BK393 := n5_; have BK394 := n6_; have HB := n7_; clear n0_ n1_ n2_ n3_ n4_ n5_ n6_ n7_))))
       have n0_ := A0_ (Kd.V_drew HO_393001.out)
       have n1_ := A0_ (Kd.V_drew HO_394001.out)
       have n2_ := A0_ (Kd.V_drew HO397.out)
       have n3_ := A0_ (Kd.V_drew HO400.out)
       have n4_ := A0_ (blk_drew BK392.out)
       have n5_ := A0_ (blk_drew BK393.out)
       have n6_ := A0_ (blk_drew BK394.out)
       have n7_ := A0_ (below_drew1 HB.out)
       clear HO_393001 HO_394001 HO397 HO400 BK392 BK393 BK394 HB
       have HO_393001 := n0_
       have HO_394001 := n1_
       have HO397 := n2_
       have HO400 := n3_
       have BK392 := n4_
       have BK393 := n5_
       have BK394 := n6_
       have HB := n7_
       clear n0_ n1_ n2_ n3_ n4_ n5_ n6_ n7_
       refine start_ (n := 8) (S := fun w' => w'.cell? ⟨gb392, 0, none⟩ = some (.bool a0_0) ∧ w'.cell? ⟨gb392, 1, none⟩ = some (.slice A0_1 l0_1.length c0_1) ∧ w'.cell? ⟨gb392, 2, none⟩ = some (.int .i64 a0_2)) (ds := []) #[false, false, false, false, false, false, false, false] (by kernel_rfl) rfl rfl ⟨bC_ BK392.out 0, bC_ BK392.out 1, bC_ BK392.out 2⟩ (fun hHeld => ?_); refine with_tabW cutplaneref02_Add.tab13 cutplaneref02_Add.bits13 (fun HT_ HW_ => ?_)
       generalize w70.drew = w75 at HO_393001 HO_394001 HO397 HO400 BK392 BK393 BK394 HB hHeld ⊢
       refine pure_ (i := 0) (N := some 56) (v := ?_) (a' := ?_) #[true, false, false, false, false, false, false, false] rfl rfl (any_of HT_.out (by kernel_rfl)) (fun _ _ _ h => h) (Or.inl ⟨by rfl, ?_⟩) ?_ ?_
       rotate_left
       ·intro w'
        go_simp
        with_reducible rfl
       rotate_left
       ·simp only [Act.put, sp_, i64_w, i32_w]
        rfl
       refine pure_ (i := 2) (N := some 58) (v := ?_) (a' := ?_) #[true, false, true, false, false, false, false, false] rfl rfl (any_of HT_.out (by kernel_rfl)) (fun _ _ _ h => h) (Or.inl ⟨by rfl, ?_⟩) ?_ ?_
       rotate_left
       ·intro w'
        go_simp
        with_reducible rfl
       rotate_left
       ·simp only [Act.put, sp_, i64_w, i32_w]
        rfl
       refine pure_ (i := 3) (N := some 59) (v := ?_) (a' := ?_) #[true, false, true, true, false, false, false, false] rfl rfl (any_of HT_.out (by kernel_rfl)) (fun _ _ _ h => h) (Or.inl ⟨by rfl, ?_⟩) ?_ ?_
       rotate_left
       ·intro w'
        go_simp
        with_reducible rfl
       rotate_left
       ·simp only [Act.put, sp_, i64_w, i32_w]
        rfl
       refine pure_ (i := 5) (N := some 61) (v := ?_) (a' := ?_) #[true, false, true, true, false, true, false, false] rfl rfl (any_of HT_.out (by kernel_rfl)) (fun _ _ _ h => h) (Or.inl ⟨by rfl, ?_⟩) ?_ ?_
       rotate_left
       ·intro w'
        go_simp
        with_reducible rfl
       rotate_left
       ·simp only [Act.put, sp_, i64_w, i32_w]
        rfl
       refine take_ (i := 1) (N := some 57) (v := ?_) (a' := ?_) #[true, true, true, true, false, true, false, false] rfl rfl (take_ofW HT_.out HW_.out (by kernel_rfl)) (fun _ _ _ h => h) (Or.inl ⟨by rfl, ?_⟩) hHeld ?_ ?_
       rotate_left
       ·rintro w' ⟨s0, s1, s2⟩
        go_simp
        with_reducible rfl
       rotate_left
       ·simp only [Act.put, sp_, i64_w, i32_w]
        rfl
       refine one_ (i := 4) (N := some 60) #[true, true, true, true, true, true, false, false] rfl rfl (one_of HT_.out (by kernel_rfl)) (by decide) (fun K hK => ?_)
       refine goes_ Tryd.func69 (by kernel_rfl) rfl #[.slice Ao73 t395.length co73, .slice Ao74 t398.length co74] (by rfl) rfl rfl (by (try simp only [List.map_toArray, List.map_cons, List.map_nil]); first | done | rfl | (simp only [List.length_drop, List.length_take]; rfl)) ?_
       with_reducible refine (cutplaneref01_Sub.calls kj22 _ _ t395 _ _ t398 t410 _ ?side1 ?side2 ?side3 ?side4 A62.out).mono ?_
       (case side1 => repeat (first | exact (Kd.V_reads' HO397.out).2.2 | (with_reducible refine Kd.C_alloc ?_ _) | (with_reducible refine Kd.C_drewN ?_ _) | (with_reducible refine Kd.C_drew ?_)))
       (case side2 => exact (Kd.V_reads' HO397.out).2.1)
       (case side3 => repeat (first | exact (Kd.V_reads' HO400.out).2.2 | (with_reducible refine Kd.C_alloc ?_ _) | (with_reducible refine Kd.C_drewN ?_ _) | (with_reducible refine Kd.C_drew ?_)))
       (case side4 => exact (Kd.V_reads' HO400.out).2.1)
       rintro e w76 ⟨v411, rfl, ho0, hb⟩
       refine ⟨_, rfl, ?_⟩
       have n0_ := A0_ (Kd.V_below (by exact vm_ HO_393001.out) hb)
       have n1_ := A0_ (Kd.V_below (by exact vm_ HO_394001.out) hb)
       have n2_ := A0_ (Kd.V_below (by exact vm_ HO397.out) hb)
       have n3_ := A0_ (Kd.V_below (by exact vm_ HO400.out) hb)
       have n4_ := A0_ (Kd.V_lower (Kd.V_mono (ok' := fun k_ => ((P0_1_ k_ ∨ P1_1_ k_) ∨ w.heap.size ≤ k_) ∧ k_ ≠ gb392 ∧ k_ ≠ gb393 ∧ k_ ≠ gb394) ho0 (fun k_ hk_ => ⟨(.inr (Nat.le_trans (below_size (by repeat (first | (with_reducible first | exact qm_ HB.out | apply qA_ | apply qN_ | apply qD_ | refine below_set ?_ GE392.out | refine below_set ?_ GE393.out | refine below_set ?_ GE394.out) | exact HB.out))) hk_)), (Kd.freshB (bm_ BK392.out) k_ hk_), (Kd.freshB (bm_ BK393.out) k_ hk_), (Kd.freshB (bm_ BK394.out) k_ hk_)⟩)) (below_size (by repeat (first | (with_reducible first | exact qm_ HB.out | apply qA_ | apply qN_ | apply qD_ | refine below_set ?_ GE392.out | refine below_set ?_ GE393.out | refine below_set ?_ GE394.out) | exact HB.out))))
       have n5_ := A0_ (blk_below (bm_ BK392.out) hb)
       have n6_ := A0_ (blk_below (bm_ BK393.out) hb)
       have n7_ := A0_ (blk_below (bm_ BK394.out) hb)
       have n8_ := A0_ (below_step (by repeat (first | (with_reducible first | exact qm_ HB.out | apply qA_ | apply qN_ | apply qD_ | refine below_set ?_ GE392.out | refine below_set ?_ GE393.out | refine below_set ?_ GE394.out) | exact HB.out)) hb)
       clear HO_393001 HO_394001 HO397 HO400 BK392 BK393 BK394 HB
       have HO_393001 := n0_
       have HO_394001 := n1_
       have HO397 := n2_
       have HO400 := n3_
       have HO412 := n4_
       have BK392 := n5_
       have BK393 := n6_
       have BK394 := n7_
       have HB := n8_
       clear n0_ n1_ n2_ n3_ n4_ n5_ n6_ n7_ n8_
       (try clear hb)
       (try clear ho0)
       obtain ⟨Ao77, co77, eo77⟩ := Kd.V_slice HO412.out
       (first | subst eo77 | (injection eo77 with f1_ f2_ f3_; have f4_ := f1_.symm; have f5_ := f3_.symm; clear f1_ f2_ f3_; subst f4_; subst f5_))
       refine hK.out _ _ ⟨bC_ BK392.out 0, bC_ BK392.out 1, bC_ BK392.out 2⟩ (fun hHeld => ?_)
       clear hK K
       refine norm_ (a' := ?_) ?_ ?_
       rotate_left
       ·show Act.put _ (some 60) _ = _
        simp only [Act.put, sp_, i64_w, i32_w]
        rfl
       refine one_ (i := 6) (N := some 62) #[true, true, true, true, true, true, true, false] rfl rfl (one_of HT_.out (by kernel_rfl)) (by decide) (fun K hK => ?_)
       refine goes_ Tryd.func44 (by kernel_rfl) rfl #[.bool a0_0, .slice Ao77 t410.length co77, .int .i64 x5_22] (by rfl) rfl rfl (by (try simp only [List.map_toArray, List.map_cons, List.map_nil]); first | done | rfl | (simp only [List.length_drop, List.length_take]; rfl)) ?_
       with_reducible refine (cutplaneref02_Form.calls kj22 a0_0 _ _ t410 x5_22 t413 t414 t417 _ ?side1 ?side2 A63.out).mono ?_
       (case side1 => repeat (first | exact (Kd.V_reads' HO412.out).2.2 | (with_reducible refine Kd.C_alloc ?_ _) | (with_reducible refine Kd.C_drewN ?_ _) | (with_reducible refine Kd.C_drew ?_)))
       (case side2 => exact (Kd.V_reads' HO412.out).2.1)
       rintro e w78 ⟨v415, rfl, ho0, hb⟩
       refine ⟨_, rfl, ?_⟩
       have n0_ := A0_ (Kd.V_below (by exact vm_ HO_393001.out) hb)
       have n1_ := A0_ (Kd.V_below (by exact vm_ HO_394001.out) hb)
       have n2_ := A0_ (Kd.V_below (by exact vm_ HO397.out) hb)
       have n3_ := A0_ (Kd.V_below (by exact vm_ HO400.out) hb)
       have n4_ := A0_ (Kd.V_below (by exact vm_ HO412.out) hb)
       have n5_ := A0_ (Kd.V_lower (Kd.V_mono (ok' := fun k_ => ((P0_1_ k_ ∨ P1_1_ k_) ∨ w.heap.size ≤ k_) ∧ k_ ≠ gb392 ∧ k_ ≠ gb393 ∧ k_ ≠ gb394) ho0 (fun k_ hk_ => ⟨(.inr (Nat.le_trans (below_size (by repeat (first | (with_reducible first | exact qm_ HB.out | apply qA_ | apply qN_ | apply qD_ | refine below_set ?_ GE392.out | refine below_set ?_ GE393.out | refine below_set ?_ GE394.out) | exact HB.out))) hk_)), (Kd.freshB (bm_ BK392.out) k_ hk_), (Kd.freshB (bm_ BK393.out) k_ hk_), (Kd.freshB (bm_ BK394.out) k_ hk_)⟩)) (below_size (by repeat (first | (with_reducible first | exact qm_ HB.out | apply qA_ | apply qN_ | apply qD_ | refine below_set ?_ GE392.out | refine below_set ?_ GE393.out | refine below_set ?_ GE394.out) | exact HB.out))))
       have n6_ := A0_ (blk_below (bm_ BK392.out) hb)
       have n7_ := A0_ (blk_below (bm_ BK393.out) hb)
       have n8_ := A0_ (blk_below (bm_ BK394.out) hb)
       have n9_ := A0_ (below_step (by repeat (first | (with_reducible first | exact qm_ HB.out | apply qA_ | apply qN_ | apply qD_ | refine below_set ?_ GE392.out | refine below_set ?_ GE393.out | refine below_set ?_ GE394.out) | exact HB.out)) hb)
       clear HO_393001 HO_394001 HO397 HO400 HO412 BK392 BK393 BK394 HB
       have HO_393001 := n0_
       have HO_394001 := n1_
       have HO397 := n2_
       have HO400 := n3_
       have HO412 := n4_
       have HO416 := n5_
       have BK392 := n6_
       have BK393 := n7_
       have BK394 := n8_
       have HB := n9_
       clear n0_ n1_ n2_ n3_ n4_ n5_ n6_ n7_ n8_ n9_
       (try clear hb)
       (try clear ho0)
       obtain ⟨Ao80, co80, eo80⟩ := Kd.V_slice HO416.out
       (first | subst eo80 | (injection eo80 with f1_ f2_ f3_; have f4_ := f1_.symm; have f5_ := f3_.symm; clear f1_ f2_ f3_; subst f4_; subst f5_))
       refine hK.out _ _ ⟨bC_ BK392.out 0, bC_ BK392.out 1, bC_ BK392.out 2⟩ (fun hHeld => ?_)
       clear hK K
       refine norm_ (a' := ?_) ?_ ?_
       rotate_left
       ·show Act.put _ (some 62) _ = _
        simp only [Act.put, sp_, i64_w, i32_w]
        rfl
       refine one_ (i := 7) (N := none) #[true, true, true, true, true, true, true, true] rfl rfl (one_of HT_.out (by kernel_rfl)) (by decide) (fun K hK => ?_)
       have hs79 : w78.cell? ⟨gb394, 0, none⟩ = some (.bool false) := (blk_cell BK394.out 0).trans rfl
       have hfs79 := blk_frozen BK394.out 0
       have hns79_0 := NB392_394.out
       have hns79_1 := NB393_394.out
       have hms79_0 := NB394_392.out
       have hms79_1 := NB394_393.out
       have hs81 : w78.cell? ⟨gb394, 1, none⟩ = some (.slice none 0 0) := (blk_cell BK394.out 1).trans rfl
       have hfs81 := blk_frozen BK394.out 1
       have hns81_0 := NB392_394.out
       have hns81_1 := NB393_394.out
       have hms81_0 := NB394_392.out
       have hms81_1 := NB394_393.out
       have hs82 : w78.cell? ⟨gb394, 2, none⟩ = some (.int .i64 0) := (blk_cell BK394.out 2).trans rfl
       have hfs82 := blk_frozen BK394.out 2
       have hns82_0 := NB392_394.out
       have hns82_1 := NB393_394.out
       have hms82_0 := NB394_392.out
       have hms82_1 := NB394_393.out
       refine skip_ (w1 := ?_) (by rfl) rfl ?_ ?_
       rotate_left
       ·go_simp
        rfl
       refine hK.out _ _ ⟨((cell_far (p := ⟨gb394, _, none⟩) NB392_394.out _).trans (((cell_far (p := ⟨gb394, _, none⟩) NB392_394.out _).trans (((cell_far (p := ⟨gb394, _, none⟩) NB392_394.out _).trans (hHeld.1)))))), ((cell_far (p := ⟨gb394, _, none⟩) NB392_394.out _).trans (((cell_far (p := ⟨gb394, _, none⟩) NB392_394.out _).trans (((cell_far (p := ⟨gb394, _, none⟩) NB392_394.out _).trans (hHeld.2.1)))))), ((cell_far (p := ⟨gb394, _, none⟩) NB392_394.out _).trans (((cell_far (p := ⟨gb394, _, none⟩) NB392_394.out _).trans (((cell_far (p := ⟨gb394, _, none⟩) NB392_394.out _).trans (hHeld.2.2))))))⟩ (fun hHeld => ?_)
       clear hK K
       refine done_ (done_of HT_.out (by kernel_rfl)) ?_
       try go_wp2
       refine bodyPost_ret (results_cell_row rfl _ _ gb394 26 #[.bool t413, .slice Ao80 t414.length co80, .int .i64 t417] (0, 0) _ rfl (by (with_reducible repeat first | apply bN_ | apply bD_ | apply bA_); refine blk_put (cs := #[.bool t413, .slice Ao80 t414.length co80, .int .i64 0]) ?_ 2 _ rfl; (with_reducible repeat first | apply bN_ | apply bD_ | apply bA_); refine blk_put (cs := #[.bool t413, .slice none 0 0, .int .i64 0]) ?_ 1 _ rfl; (with_reducible repeat first | apply bN_ | apply bD_ | apply bA_); refine blk_put (cs := #[.bool false, .slice none 0 0, .int .i64 0]) ?_ 0 _ rfl; (with_reducible repeat first | apply bN_ | apply bD_ | apply bA_); exact BK394.out) Tryd.underlying26 rfl (by kernel_rfl)) rfl ?_
       exact ⟨_, by first | rfl | (simp [errW_none, errW_some] <;> rfl) | (simp [*, errW_none, errW_some] <;> rfl), by (with_reducible repeat (first | apply Kd.V_alloc | apply Kd.V_drewN | apply Kd.V_drew)); exact Kd.V_mono (Kd.V_far (p := ⟨gb394, 2, none⟩) (Kd.V_far (p := ⟨gb394, 1, none⟩) (Kd.V_far (p := ⟨gb394, 0, none⟩) (Kd.V_mono HO416.out (fun k_ hk => (⟨hk, hk.2.2.2⟩ : _ ∧ k_ ≠ gb394))) (fun _ hk => hk.2) (.bool t413)) (fun _ hk => hk.2) (.slice Ao80 t414.length co80)) (fun _ hk => hk.2) (.int .i64 t417)) (fun _ hk => hk.1.1), by repeat (first | (with_reducible first | exact qm_ HB.out | apply qA_ | apply qN_ | apply qD_ | refine below_set ?_ GE392.out | refine below_set ?_ GE393.out | refine below_set ?_ GE394.out) | exact HB.out)⟩
      ·rw [if_neg c61] at H
       have c61b0 : decide (0 ≤ t409) = false := decide_eq_false c61
       clear c61
       replace H := Option.bind_eq_some_iff.mp H
       obtain ⟨t418, A830, H⟩ := H
       replace H : ((cutplaneref02_Form.f kj22 a1_0 t418 x5_22).bind fun bt421 => (some (bt421.1, bt421.2.1, bt421.2.2))) = some (r1, r2, r3) := H
       have A83 := A0_ A830
       clear A830
       replace H := Option.bind_eq_some_iff.mp H
       obtain ⟨⟨t421, t422, t425⟩, A840, H⟩ := H
       replace H : (some (t421, t422, t425)) = some (r1, r2, r3) := H
       have A84 := A0_ A840
       clear A840
       simp only [Option.some.injEq, Prod.mk.injEq] at H
       obtain ⟨rfl, rfl, rfl⟩ := H
       have hnb85 := NB392_393.out
       have hnc85 := NB393_392.out
       have hnb86 := NB392_394.out
       have hnc86 := NB394_392.out
       have hcz87 := bc3_ BK392.out
       have hfz87 := bf3_ BK392.out
       try go_wp2_with (first | ((with_reducible refine gate_callee (f := 56) rfl ?_); refine goesL_ (some 32) rfl rfl Tryd.func56 (by kernel_rfl) rfl #[.slice A0_1 l0_1.length c0_1, .int .i64 (wrap64 (a0_2 - x5_22))] rfl (by (try simp only [List.map_toArray, List.map_cons, List.map_nil]); first | done | rfl | (simp only [List.length_drop, List.length_take]; rfl)) ?_; (with_reducible refine (cutplaneref01_Up.calls kj22 _ _ l0_1 (wrap64 (a0_2 - x5_22)) t395 _ ?side1 ?side2 A36.out).mono ?_); (case side1 => repeat (first | exact (Kd.V_reads' HO_393001.out).2.2 | (with_reducible refine Kd.C_alloc ?_ _) | (with_reducible refine Kd.C_drewN ?_ _) | (with_reducible refine Kd.C_drew ?_))); (case side2 => exact (Kd.V_reads' HO_393001.out).2.1); rintro e w88 ⟨v396, rfl, ho0, hb⟩; refine ⟨_, rfl, ?_⟩; have n0_ := A0_ (Kd.V_below (by exact vm_ HO_393001.out) hb); have n1_ := A0_ (Kd.V_below (by exact vm_ HO_394001.out) hb); have n2_ := A0_ (Kd.V_lower (Kd.V_mono (ok' := fun k_ => ((P0_1_ k_ ∨ P1_1_ k_) ∨ w.heap.size ≤ k_) ∧ k_ ≠ gb392 ∧ k_ ≠ gb393 ∧ k_ ≠ gb394) ho0 (fun k_ hk_ => ⟨(.inr (Nat.le_trans (below_size (by repeat (first | (with_reducible first | exact qm_ HB.out | apply qA_ | apply qN_ | apply qD_ | refine below_set ?_ GE392.out | refine below_set ?_ GE393.out | refine below_set ?_ GE394.out) | exact HB.out))) hk_)), (Kd.freshB (bm_ BK392.out) k_ hk_), (Kd.freshB (bm_ BK393.out) k_ hk_), (Kd.freshB (bm_ BK394.out) k_ hk_)⟩)) (below_size (by repeat (first | (with_reducible first | exact qm_ HB.out | apply qA_ | apply qN_ | apply qD_ | refine below_set ?_ GE392.out | refine below_set ?_ GE393.out | refine below_set ?_ GE394.out) | exact HB.out)))); have n3_ := A0_ (blk_below (bm_ BK392.out) hb); have n4_ := A0_ (blk_below (bm_ BK393.out) hb); have n5_ := A0_ (blk_below (bm_ BK394.out) hb); have n6_ := A0_ (below_step (by repeat (first | (with_reducible first | exact qm_ HB.out | apply qA_ | apply qN_ | apply qD_ | refine below_set ?_ GE392.out | refine below_set ?_ GE393.out | refine below_set ?_ GE394.out) | exact HB.out)) hb); clear HO_393001 HO_394001 BK392 BK393 BK394 HB; have HO_393001 := n0_; have HO_394001 := n1_; have HO397 := n2_; have BK392 := n3_; have BK393 := n4_; have BK394 := n5_; have HB := n6_; clear n0_ n1_ n2_ n3_ n4_ n5_ n6_; (try clear hb); (try clear ho0); have hnb89 := NB393_394.out; have hnc89 := NB394_393.out; have hcz90 := bc3_ BK393.out; have hfz90 := bf3_ BK393.out) | ((with_reducible refine gate_callee (f := 56) rfl ?_); refine goesL_ (some 39) rfl rfl Tryd.func56 (by kernel_rfl) rfl #[.slice A1_1 l1_1.length c1_1, .int .i64 (wrap64 (a1_2 - x5_22))] rfl (by (try simp only [List.map_toArray, List.map_cons, List.map_nil]); first | done | rfl | (simp only [List.length_drop, List.length_take]; rfl)) ?_; (with_reducible refine (cutplaneref01_Up.calls kj22 _ _ l1_1 (wrap64 (a1_2 - x5_22)) t398 _ ?side1 ?side2 A37.out).mono ?_); (case side1 => repeat (first | exact (Kd.V_reads' HO_394001.out).2.2 | (with_reducible refine Kd.C_alloc ?_ _) | (with_reducible refine Kd.C_drewN ?_ _) | (with_reducible refine Kd.C_drew ?_))); (case side2 => exact (Kd.V_reads' HO_394001.out).2.1); rintro e w91 ⟨v399, rfl, ho0, hb⟩; refine ⟨_, rfl, ?_⟩; have n0_ := A0_ (Kd.V_below (by exact vm_ HO_393001.out) hb); have n1_ := A0_ (Kd.V_below (by exact vm_ HO_394001.out) hb); have n2_ := A0_ (Kd.V_below (by exact vm_ HO397.out) hb); have n3_ := A0_ (Kd.V_lower (Kd.V_mono (ok' := fun k_ => ((P0_1_ k_ ∨ P1_1_ k_) ∨ w.heap.size ≤ k_) ∧ k_ ≠ gb392 ∧ k_ ≠ gb393 ∧ k_ ≠ gb394) ho0 (fun k_ hk_ => ⟨(.inr (Nat.le_trans (below_size (by repeat (first | (with_reducible first | exact qm_ HB.out | apply qA_ | apply qN_ | apply qD_ | refine below_set ?_ GE392.out | refine below_set ?_ GE393.out | refine below_set ?_ GE394.out) | exact HB.out))) hk_)), (Kd.freshB (bm_ BK392.out) k_ hk_), (Kd.freshB (bm_ BK393.out) k_ hk_), (Kd.freshB (bm_ BK394.out) k_ hk_)⟩)) (below_size (by repeat (first | (with_reducible first | exact qm_ HB.out | apply qA_ | apply qN_ | apply qD_ | refine below_set ?_ GE392.out | refine below_set ?_ GE393.out | refine below_set ?_ GE394.out) | exact HB.out)))); have n4_ := A0_ (blk_below (bm_ BK392.out) hb); have n5_ := A0_ (blk_below (bm_ BK393.out) hb); have n6_ := A0_ (blk_below (bm_ BK394.out) hb); have n7_ := A0_ (below_step (by repeat (first | (with_reducible first | exact qm_ HB.out | apply qA_ | apply qN_ | apply qD_ | refine below_set ?_ GE392.out | refine below_set ?_ GE393.out | refine below_set ?_ GE394.out) | exact HB.out)) hb); clear HO_393001 HO_394001 HO397 BK392 BK393 BK394 HB; have HO_393001 := n0_; have HO_394001 := n1_; have HO397 := n2_; have HO400 := n3_; have BK392 := n4_; have BK393 := n5_; have BK394 := n6_; have HB := n7_; clear n0_ n1_ n2_ n3_ n4_ n5_ n6_ n7_; (try clear hb); (try clear ho0); have hcz92 := bc3_ BK392.out; have hfz92 := bf3_ BK392.out; have hcz93 := bc3_ BK393.out; have hfz93 := bf3_ BK393.out; obtain ⟨Ao94, co94, eo94⟩ := Kd.V_slice HO397.out; subst eo94; obtain ⟨Ao95, co95, eo95⟩ := Kd.V_slice HO400.out; subst eo95) | ((with_reducible refine gate_callee (f := 68) rfl ?_); refine goesL_ (some 54) rfl rfl Tryd.func68 (by kernel_rfl) rfl #[.slice Ao94 t395.length co94, .slice Ao95 t398.length co95] rfl (by (try simp only [List.map_toArray, List.map_cons, List.map_nil]); first | done | rfl | (simp only [List.length_drop, List.length_take]; rfl)) ?_; (with_reducible refine (cutplaneref01_Cmp.calls kj22 _ _ t395 _ _ t398 t409 _ ?side1 ?side2 ?side3 ?side4 A60.out).mono ?_); (case side1 => repeat (first | exact (Kd.V_reads' HO397.out).2.2 | (with_reducible refine Kd.C_alloc ?_ _) | (with_reducible refine Kd.C_drewN ?_ _) | (with_reducible refine Kd.C_drew ?_))); (case side2 => exact (Kd.V_reads' HO397.out).2.1); (case side3 => repeat (first | exact (Kd.V_reads' HO400.out).2.2 | (with_reducible refine Kd.C_alloc ?_ _) | (with_reducible refine Kd.C_drewN ?_ _) | (with_reducible refine Kd.C_drew ?_))); (case side4 => exact (Kd.V_reads' HO400.out).2.1); rintro e w' ⟨rfl, ⟨nd, rfl⟩⟩; refine ⟨_, rfl, ?_⟩; (try (rw [drewN_self w91]; generalize hq_ : World.drewN w91 _ = w91; have n0_ : Aside0 (Kd.V (Kd.int .u32) 78 w91 w.heap.size (fun k_ => ((P0_1_ k_ ∨ P1_1_ k_) ∨ w.heap.size ≤ k_) ∧ k_ ≠ gb392 ∧ k_ ≠ gb393 ∧ k_ ≠ gb394) (.slice Ao94 t395.length co94) t395) := ⟨by rw [← hq_]; exact (by exact vm_ HO397.out)⟩; have n1_ : Aside0 (Kd.V (Kd.int .u32) 78 w91 w.heap.size (fun k_ => ((P0_1_ k_ ∨ P1_1_ k_) ∨ w.heap.size ≤ k_) ∧ k_ ≠ gb392 ∧ k_ ≠ gb393 ∧ k_ ≠ gb394) (.slice Ao95 t398.length co95) t398) := ⟨by rw [← hq_]; exact (by exact vm_ HO400.out)⟩; have n2_ : Aside0 (Kd.V (Kd.int .u32) 78 w91 w.heap.size (fun k_ => ((P0_1_ k_ ∨ P1_1_ k_) ∨ w.heap.size ≤ k_) ∧ k_ ≠ gb392 ∧ k_ ≠ gb393 ∧ k_ ≠ gb394) (.slice A0_1 l0_1.length c0_1) l0_1) := ⟨by rw [← hq_]; exact (by exact vm_ HO_393001.out)⟩; have n3_ : Aside0 (Kd.V (Kd.int .u32) 78 w91 w.heap.size (fun k_ => ((P0_1_ k_ ∨ P1_1_ k_) ∨ w.heap.size ≤ k_) ∧ k_ ≠ gb392 ∧ k_ ≠ gb393 ∧ k_ ≠ gb394) (.slice A1_1 l1_1.length c1_1) l1_1) := ⟨by rw [← hq_]; exact (by exact vm_ HO_394001.out)⟩; have n4_ : Aside0 (w91.heap[gb392]? = some (.cells #[.bool a0_0, .slice A0_1 l0_1.length c0_1, .int .i64 a0_2] 26 (0, 0))) := ⟨by rw [← hq_]; exact (bm_ BK392.out)⟩; have n5_ : Aside0 (w91.heap[gb393]? = some (.cells #[.bool a1_0, .slice A1_1 l1_1.length c1_1, .int .i64 a1_2] 26 (0, 0))) := ⟨by rw [← hq_]; exact (bm_ BK393.out)⟩; have n6_ : Aside0 (w91.heap[gb394]? = some (.cells #[.bool false, .slice none 0 0, .int .i64 0] 26 (0, 0))) := ⟨by rw [← hq_]; exact (bm_ BK394.out)⟩; have n7_ : Aside0 (Below w.heap.size w w91) := ⟨by rw [← hq_]; exact (by repeat (first | (with_reducible first | exact qm_ HB.out | apply qA_ | apply qN_ | apply qD_ | refine below_set ?_ GE392.out | refine below_set ?_ GE393.out | refine below_set ?_ GE394.out) | exact HB.out))⟩; clear HO397 HO400 HO_393001 HO_394001 BK392 BK393 BK394 HB hq_; have HO397 := n0_; have HO400 := n1_; have HO_393001 := n2_; have HO_394001 := n3_; have BK392 := n4_; have BK393 := n5_; have BK394 := n6_; have HB := n7_; clear n0_ n1_ n2_ n3_ n4_ n5_ n6_ n7_))))
       have n0_ := A0_ (Kd.V_drew HO_393001.out)
       have n1_ := A0_ (Kd.V_drew HO_394001.out)
       have n2_ := A0_ (Kd.V_drew HO397.out)
       have n3_ := A0_ (Kd.V_drew HO400.out)
       have n4_ := A0_ (blk_drew BK392.out)
       have n5_ := A0_ (blk_drew BK393.out)
       have n6_ := A0_ (blk_drew BK394.out)
       have n7_ := A0_ (below_drew1 HB.out)
       clear HO_393001 HO_394001 HO397 HO400 BK392 BK393 BK394 HB
       have HO_393001 := n0_
       have HO_394001 := n1_
       have HO397 := n2_
       have HO400 := n3_
       have BK392 := n4_
       have BK393 := n5_
       have BK394 := n6_
       have HB := n7_
       clear n0_ n1_ n2_ n3_ n4_ n5_ n6_ n7_
       refine start_ (n := 8) (S := fun w' => w'.cell? ⟨gb393, 0, none⟩ = some (.bool a1_0) ∧ w'.cell? ⟨gb393, 1, none⟩ = some (.slice A1_1 l1_1.length c1_1) ∧ w'.cell? ⟨gb393, 2, none⟩ = some (.int .i64 a1_2)) (ds := []) #[false, false, false, false, false, false, false, false] (by kernel_rfl) rfl rfl ⟨bC_ BK393.out 0, bC_ BK393.out 1, bC_ BK393.out 2⟩ (fun hHeld => ?_); refine with_tabW cutplaneref02_Add.tab14 cutplaneref02_Add.bits14 (fun HT_ HW_ => ?_)
       generalize w91.drew = w96 at HO_393001 HO_394001 HO397 HO400 BK392 BK393 BK394 HB hHeld ⊢
       refine pure_ (i := 0) (N := some 63) (v := ?_) (a' := ?_) #[true, false, false, false, false, false, false, false] rfl rfl (any_of HT_.out (by kernel_rfl)) (fun _ _ _ h => h) (Or.inl ⟨by rfl, ?_⟩) ?_ ?_
       rotate_left
       ·intro w'
        go_simp
        with_reducible rfl
       rotate_left
       ·simp only [Act.put, sp_, i64_w, i32_w]
        rfl
       refine pure_ (i := 2) (N := some 65) (v := ?_) (a' := ?_) #[true, false, true, false, false, false, false, false] rfl rfl (any_of HT_.out (by kernel_rfl)) (fun _ _ _ h => h) (Or.inl ⟨by rfl, ?_⟩) ?_ ?_
       rotate_left
       ·intro w'
        go_simp
        with_reducible rfl
       rotate_left
       ·simp only [Act.put, sp_, i64_w, i32_w]
        rfl
       refine pure_ (i := 3) (N := some 66) (v := ?_) (a' := ?_) #[true, false, true, true, false, false, false, false] rfl rfl (any_of HT_.out (by kernel_rfl)) (fun _ _ _ h => h) (Or.inl ⟨by rfl, ?_⟩) ?_ ?_
       rotate_left
       ·intro w'
        go_simp
        with_reducible rfl
       rotate_left
       ·simp only [Act.put, sp_, i64_w, i32_w]
        rfl
       refine pure_ (i := 5) (N := some 68) (v := ?_) (a' := ?_) #[true, false, true, true, false, true, false, false] rfl rfl (any_of HT_.out (by kernel_rfl)) (fun _ _ _ h => h) (Or.inl ⟨by rfl, ?_⟩) ?_ ?_
       rotate_left
       ·intro w'
        go_simp
        with_reducible rfl
       rotate_left
       ·simp only [Act.put, sp_, i64_w, i32_w]
        rfl
       refine take_ (i := 1) (N := some 64) (v := ?_) (a' := ?_) #[true, true, true, true, false, true, false, false] rfl rfl (take_ofW HT_.out HW_.out (by kernel_rfl)) (fun _ _ _ h => h) (Or.inl ⟨by rfl, ?_⟩) hHeld ?_ ?_
       rotate_left
       ·rintro w' ⟨s0, s1, s2⟩
        go_simp
        with_reducible rfl
       rotate_left
       ·simp only [Act.put, sp_, i64_w, i32_w]
        rfl
       refine one_ (i := 4) (N := some 67) #[true, true, true, true, true, true, false, false] rfl rfl (one_of HT_.out (by kernel_rfl)) (by decide) (fun K hK => ?_)
       refine goes_ Tryd.func69 (by kernel_rfl) rfl #[.slice Ao95 t398.length co95, .slice Ao94 t395.length co94] (by rfl) rfl rfl (by (try simp only [List.map_toArray, List.map_cons, List.map_nil]); first | done | rfl | (simp only [List.length_drop, List.length_take]; rfl)) ?_
       with_reducible refine (cutplaneref01_Sub.calls kj22 _ _ t398 _ _ t395 t418 _ ?side1 ?side2 ?side3 ?side4 A83.out).mono ?_
       (case side1 => repeat (first | exact (Kd.V_reads' HO400.out).2.2 | (with_reducible refine Kd.C_alloc ?_ _) | (with_reducible refine Kd.C_drewN ?_ _) | (with_reducible refine Kd.C_drew ?_)))
       (case side2 => exact (Kd.V_reads' HO400.out).2.1)
       (case side3 => repeat (first | exact (Kd.V_reads' HO397.out).2.2 | (with_reducible refine Kd.C_alloc ?_ _) | (with_reducible refine Kd.C_drewN ?_ _) | (with_reducible refine Kd.C_drew ?_)))
       (case side4 => exact (Kd.V_reads' HO397.out).2.1)
       rintro e w97 ⟨v419, rfl, ho0, hb⟩
       refine ⟨_, rfl, ?_⟩
       have n0_ := A0_ (Kd.V_below (by exact vm_ HO_393001.out) hb)
       have n1_ := A0_ (Kd.V_below (by exact vm_ HO_394001.out) hb)
       have n2_ := A0_ (Kd.V_below (by exact vm_ HO397.out) hb)
       have n3_ := A0_ (Kd.V_below (by exact vm_ HO400.out) hb)
       have n4_ := A0_ (Kd.V_lower (Kd.V_mono (ok' := fun k_ => ((P0_1_ k_ ∨ P1_1_ k_) ∨ w.heap.size ≤ k_) ∧ k_ ≠ gb392 ∧ k_ ≠ gb393 ∧ k_ ≠ gb394) ho0 (fun k_ hk_ => ⟨(.inr (Nat.le_trans (below_size (by repeat (first | (with_reducible first | exact qm_ HB.out | apply qA_ | apply qN_ | apply qD_ | refine below_set ?_ GE392.out | refine below_set ?_ GE393.out | refine below_set ?_ GE394.out) | exact HB.out))) hk_)), (Kd.freshB (bm_ BK392.out) k_ hk_), (Kd.freshB (bm_ BK393.out) k_ hk_), (Kd.freshB (bm_ BK394.out) k_ hk_)⟩)) (below_size (by repeat (first | (with_reducible first | exact qm_ HB.out | apply qA_ | apply qN_ | apply qD_ | refine below_set ?_ GE392.out | refine below_set ?_ GE393.out | refine below_set ?_ GE394.out) | exact HB.out))))
       have n5_ := A0_ (blk_below (bm_ BK392.out) hb)
       have n6_ := A0_ (blk_below (bm_ BK393.out) hb)
       have n7_ := A0_ (blk_below (bm_ BK394.out) hb)
       have n8_ := A0_ (below_step (by repeat (first | (with_reducible first | exact qm_ HB.out | apply qA_ | apply qN_ | apply qD_ | refine below_set ?_ GE392.out | refine below_set ?_ GE393.out | refine below_set ?_ GE394.out) | exact HB.out)) hb)
       clear HO_393001 HO_394001 HO397 HO400 BK392 BK393 BK394 HB
       have HO_393001 := n0_
       have HO_394001 := n1_
       have HO397 := n2_
       have HO400 := n3_
       have HO420 := n4_
       have BK392 := n5_
       have BK393 := n6_
       have BK394 := n7_
       have HB := n8_
       clear n0_ n1_ n2_ n3_ n4_ n5_ n6_ n7_ n8_
       (try clear hb)
       (try clear ho0)
       obtain ⟨Ao98, co98, eo98⟩ := Kd.V_slice HO420.out
       (first | subst eo98 | (injection eo98 with f1_ f2_ f3_; have f4_ := f1_.symm; have f5_ := f3_.symm; clear f1_ f2_ f3_; subst f4_; subst f5_))
       refine hK.out _ _ ⟨bC_ BK393.out 0, bC_ BK393.out 1, bC_ BK393.out 2⟩ (fun hHeld => ?_)
       clear hK K
       refine norm_ (a' := ?_) ?_ ?_
       rotate_left
       ·show Act.put _ (some 67) _ = _
        simp only [Act.put, sp_, i64_w, i32_w]
        rfl
       refine one_ (i := 6) (N := some 69) #[true, true, true, true, true, true, true, false] rfl rfl (one_of HT_.out (by kernel_rfl)) (by decide) (fun K hK => ?_)
       refine goes_ Tryd.func44 (by kernel_rfl) rfl #[.bool a1_0, .slice Ao98 t418.length co98, .int .i64 x5_22] (by rfl) rfl rfl (by (try simp only [List.map_toArray, List.map_cons, List.map_nil]); first | done | rfl | (simp only [List.length_drop, List.length_take]; rfl)) ?_
       with_reducible refine (cutplaneref02_Form.calls kj22 a1_0 _ _ t418 x5_22 t421 t422 t425 _ ?side1 ?side2 A84.out).mono ?_
       (case side1 => repeat (first | exact (Kd.V_reads' HO420.out).2.2 | (with_reducible refine Kd.C_alloc ?_ _) | (with_reducible refine Kd.C_drewN ?_ _) | (with_reducible refine Kd.C_drew ?_)))
       (case side2 => exact (Kd.V_reads' HO420.out).2.1)
       rintro e w99 ⟨v423, rfl, ho0, hb⟩
       refine ⟨_, rfl, ?_⟩
       have n0_ := A0_ (Kd.V_below (by exact vm_ HO_393001.out) hb)
       have n1_ := A0_ (Kd.V_below (by exact vm_ HO_394001.out) hb)
       have n2_ := A0_ (Kd.V_below (by exact vm_ HO397.out) hb)
       have n3_ := A0_ (Kd.V_below (by exact vm_ HO400.out) hb)
       have n4_ := A0_ (Kd.V_below (by exact vm_ HO420.out) hb)
       have n5_ := A0_ (Kd.V_lower (Kd.V_mono (ok' := fun k_ => ((P0_1_ k_ ∨ P1_1_ k_) ∨ w.heap.size ≤ k_) ∧ k_ ≠ gb392 ∧ k_ ≠ gb393 ∧ k_ ≠ gb394) ho0 (fun k_ hk_ => ⟨(.inr (Nat.le_trans (below_size (by repeat (first | (with_reducible first | exact qm_ HB.out | apply qA_ | apply qN_ | apply qD_ | refine below_set ?_ GE392.out | refine below_set ?_ GE393.out | refine below_set ?_ GE394.out) | exact HB.out))) hk_)), (Kd.freshB (bm_ BK392.out) k_ hk_), (Kd.freshB (bm_ BK393.out) k_ hk_), (Kd.freshB (bm_ BK394.out) k_ hk_)⟩)) (below_size (by repeat (first | (with_reducible first | exact qm_ HB.out | apply qA_ | apply qN_ | apply qD_ | refine below_set ?_ GE392.out | refine below_set ?_ GE393.out | refine below_set ?_ GE394.out) | exact HB.out))))
       have n6_ := A0_ (blk_below (bm_ BK392.out) hb)
       have n7_ := A0_ (blk_below (bm_ BK393.out) hb)
       have n8_ := A0_ (blk_below (bm_ BK394.out) hb)
       have n9_ := A0_ (below_step (by repeat (first | (with_reducible first | exact qm_ HB.out | apply qA_ | apply qN_ | apply qD_ | refine below_set ?_ GE392.out | refine below_set ?_ GE393.out | refine below_set ?_ GE394.out) | exact HB.out)) hb)
       clear HO_393001 HO_394001 HO397 HO400 HO420 BK392 BK393 BK394 HB
       have HO_393001 := n0_
       have HO_394001 := n1_
       have HO397 := n2_
       have HO400 := n3_
       have HO420 := n4_
       have HO424 := n5_
       have BK392 := n6_
       have BK393 := n7_
       have BK394 := n8_
       have HB := n9_
       clear n0_ n1_ n2_ n3_ n4_ n5_ n6_ n7_ n8_ n9_
       (try clear hb)
       (try clear ho0)
       obtain ⟨Ao101, co101, eo101⟩ := Kd.V_slice HO424.out
       (first | subst eo101 | (injection eo101 with f1_ f2_ f3_; have f4_ := f1_.symm; have f5_ := f3_.symm; clear f1_ f2_ f3_; subst f4_; subst f5_))
       refine hK.out _ _ ⟨bC_ BK393.out 0, bC_ BK393.out 1, bC_ BK393.out 2⟩ (fun hHeld => ?_)
       clear hK K
       refine norm_ (a' := ?_) ?_ ?_
       rotate_left
       ·show Act.put _ (some 69) _ = _
        simp only [Act.put, sp_, i64_w, i32_w]
        rfl
       refine one_ (i := 7) (N := none) #[true, true, true, true, true, true, true, true] rfl rfl (one_of HT_.out (by kernel_rfl)) (by decide) (fun K hK => ?_)
       have hs100 : w99.cell? ⟨gb394, 0, none⟩ = some (.bool false) := (blk_cell BK394.out 0).trans rfl
       have hfs100 := blk_frozen BK394.out 0
       have hns100_0 := NB392_394.out
       have hns100_1 := NB393_394.out
       have hms100_0 := NB394_392.out
       have hms100_1 := NB394_393.out
       have hs102 : w99.cell? ⟨gb394, 1, none⟩ = some (.slice none 0 0) := (blk_cell BK394.out 1).trans rfl
       have hfs102 := blk_frozen BK394.out 1
       have hns102_0 := NB392_394.out
       have hns102_1 := NB393_394.out
       have hms102_0 := NB394_392.out
       have hms102_1 := NB394_393.out
       have hs103 : w99.cell? ⟨gb394, 2, none⟩ = some (.int .i64 0) := (blk_cell BK394.out 2).trans rfl
       have hfs103 := blk_frozen BK394.out 2
       have hns103_0 := NB392_394.out
       have hns103_1 := NB393_394.out
       have hms103_0 := NB394_392.out
       have hms103_1 := NB394_393.out
       refine skip_ (w1 := ?_) (by rfl) rfl ?_ ?_
       rotate_left
       ·go_simp
        rfl
       refine hK.out _ _ ⟨((cell_far (p := ⟨gb394, _, none⟩) NB393_394.out _).trans (((cell_far (p := ⟨gb394, _, none⟩) NB393_394.out _).trans (((cell_far (p := ⟨gb394, _, none⟩) NB393_394.out _).trans (hHeld.1)))))), ((cell_far (p := ⟨gb394, _, none⟩) NB393_394.out _).trans (((cell_far (p := ⟨gb394, _, none⟩) NB393_394.out _).trans (((cell_far (p := ⟨gb394, _, none⟩) NB393_394.out _).trans (hHeld.2.1)))))), ((cell_far (p := ⟨gb394, _, none⟩) NB393_394.out _).trans (((cell_far (p := ⟨gb394, _, none⟩) NB393_394.out _).trans (((cell_far (p := ⟨gb394, _, none⟩) NB393_394.out _).trans (hHeld.2.2))))))⟩ (fun hHeld => ?_)
       clear hK K
       refine done_ (done_of HT_.out (by kernel_rfl)) ?_
       try go_wp2
       refine bodyPost_ret (results_cell_row rfl _ _ gb394 26 #[.bool t421, .slice Ao101 t422.length co101, .int .i64 t425] (0, 0) _ rfl (by (with_reducible repeat first | apply bN_ | apply bD_ | apply bA_); refine blk_put (cs := #[.bool t421, .slice Ao101 t422.length co101, .int .i64 0]) ?_ 2 _ rfl; (with_reducible repeat first | apply bN_ | apply bD_ | apply bA_); refine blk_put (cs := #[.bool t421, .slice none 0 0, .int .i64 0]) ?_ 1 _ rfl; (with_reducible repeat first | apply bN_ | apply bD_ | apply bA_); refine blk_put (cs := #[.bool false, .slice none 0 0, .int .i64 0]) ?_ 0 _ rfl; (with_reducible repeat first | apply bN_ | apply bD_ | apply bA_); exact BK394.out) Tryd.underlying26 rfl (by kernel_rfl)) rfl ?_
       exact ⟨_, by first | rfl | (simp [errW_none, errW_some] <;> rfl) | (simp [*, errW_none, errW_some] <;> rfl), by (with_reducible repeat (first | apply Kd.V_alloc | apply Kd.V_drewN | apply Kd.V_drew)); exact Kd.V_mono (Kd.V_far (p := ⟨gb394, 2, none⟩) (Kd.V_far (p := ⟨gb394, 1, none⟩) (Kd.V_far (p := ⟨gb394, 0, none⟩) (Kd.V_mono HO424.out (fun k_ hk => (⟨hk, hk.2.2.2⟩ : _ ∧ k_ ≠ gb394))) (fun _ hk => hk.2) (.bool t421)) (fun _ hk => hk.2) (.slice Ao101 t422.length co101)) (fun _ hk => hk.2) (.int .i64 t425)) (fun _ hk => hk.1.1), by repeat (first | (with_reducible first | exact qm_ HB.out | apply qA_ | apply qN_ | apply qD_ | refine below_set ?_ GE392.out | refine below_set ?_ GE393.out | refine below_set ?_ GE394.out) | exact HB.out)⟩
end Go.Proofs.YthiklmgdmaemgaaDoor.PA
end

section
namespace Go.Proofs.YthiklmgdmaemgaaDoor.PA
open Go.RowKit Go.Proofs.YthiklmgdmaemgaaDoorW.PrintWords Go.Proofs.YthiklmgdmaemgaaDoorW.PrintLast Go.Proofs.YthiklmgdmaemgaaDoorW.PrintMore
attribute [local go_sem] max2_int min2_int max_two min_two max_three min_three max_four min_four   -- for this text's walks alone
set_option linter.unusedVariables false
set_option linter.unusedSimpArgs false
def cutplaneref02_Neg.f (a0_0 : Bool) (l0_1 : List Int) (a0_2 : Int) : Option (Bool × List Int × Int) := if (l0_1.length : Int) > 0 then (some (!a0_0, l0_1, a0_2)) else (some (a0_0, l0_1, a0_2))
set_option maxHeartbeats 2000000 in
set_option maxRecDepth 100000 in
theorem cutplaneref02_Neg.calls (a0_0 : Bool) (P0_1_ : Nat → Prop) (A0_1 : Option Addr) (c0_1 : Nat) (l0_1 : List Int) (a0_2 : Int) (r1 : Bool) (r2 : List Int) (r3 : Int) (w : World) (hs0_1 : Kd.V (Kd.int .u32) 78 w w.heap.size (fun k_ => P0_1_ k_) (.slice A0_1 l0_1.length c0_1) l0_1) (h : cutplaneref02_Neg.f a0_0 l0_1 a0_2 = some (r1, r2, r3)) :
  Calls Tryd.prog 41 #[.agg #[.bool a0_0, .slice A0_1 l0_1.length c0_1, .int .i64 a0_2]] w fun e w' => ∃ v1_ : Value, e = .returned (.agg #[.bool r1, v1_, .int .i64 r3]) ∧ Kd.V (Kd.int .u32) 78 w' w.heap.size (fun k_ => (P0_1_ k_ ∨ w.heap.size ≤ k_)) v1_ r2 ∧ Below w.heap.size w w' := by
 have hu26 := Tryd.underlying26
 have HO0_1 := A0_ (show Kd.V (Kd.int .u32) 78 w w.heap.size (fun k_ => (P0_1_ k_ ∨ w.heap.size ≤ k_)) (.slice A0_1 l0_1.length c0_1) l0_1 from Kd.V_mono hs0_1 (fun k_ hk => .inl hk))
 have HB := A0_ (Below.refl w.heap.size w)
 have H : (if (l0_1.length : Int) > 0 then (some (!a0_0, l0_1, a0_2)) else (some (a0_0, l0_1, a0_2))) = some (r1, r2, r3) := h
 clear h
 by_cases c2 : (l0_1.length : Int) > 0
 ·rw [if_pos c2] at H
  have c2b0 : decide (0 < (l0_1.length : Int)) = true := decide_eq_true c2
  have c2b1 : decide (0 < l0_1.length) = true := decide_eq_true (by omega)
  clear c2
  simp only [Option.some.injEq, Prod.mk.injEq] at H
  obtain ⟨rfl, rfl, rfl⟩ := H
  go_enter Tryd.func41, Tryd.ntmps41
  go_wp2_with (first | ((with_reducible refine gate_dst (N := 1) rfl ?_); refine box_event ?hg (N := 1) ?hd (cs := #[.bool a0_0, .slice A0_1 l0_1.length c0_1, .int .i64 a0_2]) (t := 26) ?hr ?_; (case hd => rfl); (case hg => rfl); (case hr => first | (go_simp; done) | (go_simp; rfl)); intro gb426 hg w3 hbox hb; have n0_ := A0_ (Kd.V_below (Kd.V_elderB (by exact vm_ HO0_1.out) gb426 (Nat.le_of_eq hg.symm)) hb); have n1_ := A0_ (below_step (qm_ HB.out) hb); have n2_ := A0_ (hbox); have n3_ := A0_ ((by rw [hg]; exact (below_size (qm_ HB.out)) : w.heap.size ≤ gb426)); have n4_ := A0_ ((by rw [hg]; exact (below_size (qm_ HB.out)) : w.heap.size ≤ gb426)); clear HO0_1 HB; have HO0_1 := n0_; have HB := n1_; have BK426 := n2_; have GW426 := n3_; have GE426 := n4_; clear n0_ n1_ n2_ n3_ n4_ hb hbox hg) | ((with_reducible refine gate_dst (N := 2) rfl ?_); refine box_event ?hg (N := 2) ?hd (cs := #[.bool false, .slice none 0 0, .int .i64 0]) (t := 26) ?hr ?_; (case hd => rfl); (case hg => rfl); (case hr => first | (go_simp; done) | (go_simp; rfl)); intro gb427 hg w4 hbox hb; have n0_ := A0_ (Kd.V_below (Kd.V_elderB (by exact vm_ HO0_1.out) gb427 (Nat.le_of_eq hg.symm)) hb); have n1_ := A0_ (blk_below (bm_ BK426.out) hb); have n2_ := A0_ (below_step (by repeat (first | (with_reducible first | exact qm_ HB.out | apply qA_ | apply qN_ | apply qD_ | refine below_set ?_ GE426.out) | exact HB.out)) hb); have n3_ := A0_ (hbox); have n4_ := A0_ ((by rw [hg]; exact (below_size (by repeat (first | (with_reducible first | exact qm_ HB.out | apply qA_ | apply qN_ | apply qD_ | refine below_set ?_ GE426.out) | exact HB.out))) : w.heap.size ≤ gb427)); have n5_ := A0_ ((by rw [hg]; exact (below_size (by repeat (first | (with_reducible first | exact qm_ HB.out | apply qA_ | apply qN_ | apply qD_ | refine below_set ?_ GE426.out) | exact HB.out))) : w.heap.size ≤ gb427)); have n6_ := A0_ ((by rw [hg]; exact Nat.ne_of_lt (blk_lt (bm_ BK426.out)) : gb426 ≠ gb427)); have n7_ := A0_ ((by rw [hg]; exact Nat.ne_of_gt (blk_lt (bm_ BK426.out)) : gb427 ≠ gb426)); clear HO0_1 BK426 HB; have HO0_1 := n0_; have BK426 := n1_; have HB := n2_; have BK427 := n3_; have GW427 := n4_; have GE427 := n5_; have NB426_427 := n6_; have NB427_426 := n7_; clear n0_ n1_ n2_ n3_ n4_ n5_ n6_ n7_ hb hbox hg; have hnb5 := NB426_427.out; have hnc5 := NB427_426.out; have hcz6 := bc3_ BK426.out; have hfz6 := bf3_ BK426.out; have hcz7 := bc3_ BK427.out; have hfz7 := bf3_ BK427.out))
  refine bodyPost_ret (results_cell_row rfl _ _ gb427 26 #[.bool (!a0_0), .slice A0_1 l0_1.length c0_1, .int .i64 a0_2] (0, 0) _ rfl (by (with_reducible repeat first | apply bN_ | apply bD_ | apply bA_); refine blk_put (cs := #[.bool (!a0_0), .slice A0_1 l0_1.length c0_1, .int .i64 0]) ?_ 2 _ rfl; (with_reducible repeat first | apply bN_ | apply bD_ | apply bA_); refine blk_put (cs := #[.bool (!a0_0), .slice none 0 0, .int .i64 0]) ?_ 1 _ rfl; (with_reducible repeat first | apply bN_ | apply bD_ | apply bA_); refine blk_put (cs := #[.bool false, .slice none 0 0, .int .i64 0]) ?_ 0 _ rfl; (with_reducible repeat first | apply bN_ | apply bD_ | apply bA_); refine blk_far ?_ NB427_426.out _; (with_reducible repeat first | apply bN_ | apply bD_ | apply bA_); exact BK427.out) Tryd.underlying26 rfl (by kernel_rfl)) rfl ?_
  exact ⟨_, by first | rfl | (simp [errW_none, errW_some] <;> rfl) | (simp [*, errW_none, errW_some] <;> rfl), by (with_reducible repeat (first | apply Kd.V_alloc | apply Kd.V_drewN | apply Kd.V_drew)); exact Kd.V_mono (Kd.V_far (p := ⟨gb427, 2, none⟩) (Kd.V_far (p := ⟨gb427, 1, none⟩) (Kd.V_far (p := ⟨gb427, 0, none⟩) (Kd.V_far (p := ⟨gb426, 0, none⟩) (Kd.V_mono (Kd.V_mono HO0_1.out (fun k_ hk => (⟨hk, hk.1.2⟩ : _ ∧ k_ ≠ gb426))) (fun k_ hk => (⟨hk, hk.1.2⟩ : _ ∧ k_ ≠ gb427))) (fun _ hk => hk.1.2) (.bool (!a0_0))) (fun _ hk => hk.2) (.bool (!a0_0))) (fun _ hk => hk.2) (.slice A0_1 l0_1.length c0_1)) (fun _ hk => hk.2) (.int .i64 a0_2)) (fun _ hk => hk.1.1.1.1), by repeat (first | (with_reducible first | exact qm_ HB.out | apply qA_ | apply qN_ | apply qD_ | refine below_set ?_ GE426.out | refine below_set ?_ GE427.out) | exact HB.out)⟩
 ·rw [if_neg c2] at H
  have c2b0 : decide (0 < (l0_1.length : Int)) = false := decide_eq_false c2
  have c2b1 : decide (0 < l0_1.length) = false := decide_eq_false (by omega)
  clear c2
  simp only [Option.some.injEq, Prod.mk.injEq] at H
  obtain ⟨rfl, rfl, rfl⟩ := H
  go_enter Tryd.func41, Tryd.ntmps41
  go_wp2_with (first | ((with_reducible refine gate_dst (N := 1) rfl ?_); refine box_event ?hg (N := 1) ?hd (cs := #[.bool a0_0, .slice A0_1 l0_1.length c0_1, .int .i64 a0_2]) (t := 26) ?hr ?_; (case hd => rfl); (case hg => rfl); (case hr => first | (go_simp; done) | (go_simp; rfl)); intro gb426 hg w8 hbox hb; have n0_ := A0_ (Kd.V_below (Kd.V_elderB (by exact vm_ HO0_1.out) gb426 (Nat.le_of_eq hg.symm)) hb); have n1_ := A0_ (below_step (qm_ HB.out) hb); have n2_ := A0_ (hbox); have n3_ := A0_ ((by rw [hg]; exact (below_size (qm_ HB.out)) : w.heap.size ≤ gb426)); have n4_ := A0_ ((by rw [hg]; exact (below_size (qm_ HB.out)) : w.heap.size ≤ gb426)); clear HO0_1 HB; have HO0_1 := n0_; have HB := n1_; have BK426 := n2_; have GW426 := n3_; have GE426 := n4_; clear n0_ n1_ n2_ n3_ n4_ hb hbox hg) | ((with_reducible refine gate_dst (N := 2) rfl ?_); refine box_event ?hg (N := 2) ?hd (cs := #[.bool false, .slice none 0 0, .int .i64 0]) (t := 26) ?hr ?_; (case hd => rfl); (case hg => rfl); (case hr => first | (go_simp; done) | (go_simp; rfl)); intro gb427 hg w9 hbox hb; have n0_ := A0_ (Kd.V_below (Kd.V_elderB (by exact vm_ HO0_1.out) gb427 (Nat.le_of_eq hg.symm)) hb); have n1_ := A0_ (blk_below (bm_ BK426.out) hb); have n2_ := A0_ (below_step (by repeat (first | (with_reducible first | exact qm_ HB.out | apply qA_ | apply qN_ | apply qD_ | refine below_set ?_ GE426.out) | exact HB.out)) hb); have n3_ := A0_ (hbox); have n4_ := A0_ ((by rw [hg]; exact (below_size (by repeat (first | (with_reducible first | exact qm_ HB.out | apply qA_ | apply qN_ | apply qD_ | refine below_set ?_ GE426.out) | exact HB.out))) : w.heap.size ≤ gb427)); have n5_ := A0_ ((by rw [hg]; exact (below_size (by repeat (first | (with_reducible first | exact qm_ HB.out | apply qA_ | apply qN_ | apply qD_ | refine below_set ?_ GE426.out) | exact HB.out))) : w.heap.size ≤ gb427)); have n6_ := A0_ ((by rw [hg]; exact Nat.ne_of_lt (blk_lt (bm_ BK426.out)) : gb426 ≠ gb427)); have n7_ := A0_ ((by rw [hg]; exact Nat.ne_of_gt (blk_lt (bm_ BK426.out)) : gb427 ≠ gb426)); clear HO0_1 BK426 HB; have HO0_1 := n0_; have BK426 := n1_; have HB := n2_; have BK427 := n3_; have GW427 := n4_; have GE427 := n5_; have NB426_427 := n6_; have NB427_426 := n7_; clear n0_ n1_ n2_ n3_ n4_ n5_ n6_ n7_ hb hbox hg; have hnb10 := NB426_427.out; have hnc10 := NB427_426.out; have hcz11 := bc3_ BK426.out; have hfz11 := bf3_ BK426.out; have hcz12 := bc3_ BK427.out; have hfz12 := bf3_ BK427.out))
  refine bodyPost_ret (results_cell_row rfl _ _ gb427 26 #[.bool a0_0, .slice A0_1 l0_1.length c0_1, .int .i64 a0_2] (0, 0) _ rfl (by (with_reducible repeat first | apply bN_ | apply bD_ | apply bA_); refine blk_put (cs := #[.bool a0_0, .slice A0_1 l0_1.length c0_1, .int .i64 0]) ?_ 2 _ rfl; (with_reducible repeat first | apply bN_ | apply bD_ | apply bA_); refine blk_put (cs := #[.bool a0_0, .slice none 0 0, .int .i64 0]) ?_ 1 _ rfl; (with_reducible repeat first | apply bN_ | apply bD_ | apply bA_); refine blk_put (cs := #[.bool false, .slice none 0 0, .int .i64 0]) ?_ 0 _ rfl; (with_reducible repeat first | apply bN_ | apply bD_ | apply bA_); exact BK427.out) Tryd.underlying26 rfl (by kernel_rfl)) rfl ?_
  exact ⟨_, by first | rfl | (simp [errW_none, errW_some] <;> rfl) | (simp [*, errW_none, errW_some] <;> rfl), by (with_reducible repeat (first | apply Kd.V_alloc | apply Kd.V_drewN | apply Kd.V_drew)); exact Kd.V_mono (Kd.V_far (p := ⟨gb427, 2, none⟩) (Kd.V_far (p := ⟨gb427, 1, none⟩) (Kd.V_far (p := ⟨gb427, 0, none⟩) (Kd.V_mono HO0_1.out (fun k_ hk => (⟨hk, hk.2⟩ : _ ∧ k_ ≠ gb427))) (fun _ hk => hk.2) (.bool a0_0)) (fun _ hk => hk.2) (.slice A0_1 l0_1.length c0_1)) (fun _ hk => hk.2) (.int .i64 a0_2)) (fun _ hk => hk.1.1.1), by repeat (first | (with_reducible first | exact qm_ HB.out | apply qA_ | apply qN_ | apply qD_ | refine below_set ?_ GE426.out | refine below_set ?_ GE427.out) | exact HB.out)⟩
def cutplaneref02_Sub.f (k : Nat) (a0_0 : Bool) (l0_1 : List Int) (a0_2 : Int) (a1_0 : Bool) (l1_1 : List Int) (a1_2 : Int) : Option (Bool × List Int × Int) := (cutplaneref02_Neg.f a1_0 l1_1 a1_2).bind fun bt431 => ((cutplaneref02_Add.f k a0_0 l0_1 a0_2 bt431.1 bt431.2.1 bt431.2.2).bind fun bt436 => (some (bt436.1, bt436.2.1, bt436.2.2)))
set_option maxHeartbeats 2000000 in
set_option maxRecDepth 100000 in
theorem cutplaneref02_Sub.calls (k : Nat) (a0_0 : Bool) (P0_1_ : Nat → Prop) (A0_1 : Option Addr) (c0_1 : Nat) (l0_1 : List Int) (a0_2 : Int) (a1_0 : Bool) (P1_1_ : Nat → Prop) (A1_1 : Option Addr) (c1_1 : Nat) (l1_1 : List Int) (a1_2 : Int) (r1 : Bool) (r2 : List Int) (r3 : Int) (w : World) (hs0_1 : Kd.V (Kd.int .u32) 78 w w.heap.size (fun k_ => P0_1_ k_) (.slice A0_1 l0_1.length c0_1) l0_1) (hs1_1 : Kd.V (Kd.int .u32) 78 w w.heap.size (fun k_ => P1_1_ k_) (.slice A1_1 l1_1.length c1_1) l1_1) (h : cutplaneref02_Sub.f k a0_0 l0_1 a0_2 a1_0 l1_1 a1_2 = some (r1, r2, r3)) :
  Calls Tryd.prog 13 #[.agg #[.bool a0_0, .slice A0_1 l0_1.length c0_1, .int .i64 a0_2], .agg #[.bool a1_0, .slice A1_1 l1_1.length c1_1, .int .i64 a1_2]] w fun e w' => ∃ v1_ : Value, e = .returned (.agg #[.bool r1, v1_, .int .i64 r3]) ∧ Kd.V (Kd.int .u32) 78 w' w.heap.size (fun k_ => ((P0_1_ k_ ∨ P1_1_ k_) ∨ w.heap.size ≤ k_)) v1_ r2 ∧ Below w.heap.size w w' := by
 have hu26 := Tryd.underlying26
 have HO0_1 := A0_ (show Kd.V (Kd.int .u32) 78 w w.heap.size (fun k_ => ((P0_1_ k_ ∨ P1_1_ k_) ∨ w.heap.size ≤ k_)) (.slice A0_1 l0_1.length c0_1) l0_1 from Kd.V_mono hs0_1 (fun k_ hk => .inl (.inl hk)))
 have HO1_1 := A0_ (show Kd.V (Kd.int .u32) 78 w w.heap.size (fun k_ => ((P0_1_ k_ ∨ P1_1_ k_) ∨ w.heap.size ≤ k_)) (.slice A1_1 l1_1.length c1_1) l1_1 from Kd.V_mono hs1_1 (fun k_ hk => .inl (.inr hk)))
 have HB := A0_ (Below.refl w.heap.size w)
 have H : ((cutplaneref02_Neg.f a1_0 l1_1 a1_2).bind fun bt431 => ((cutplaneref02_Add.f k a0_0 l0_1 a0_2 bt431.1 bt431.2.1 bt431.2.2).bind fun bt436 => (some (bt436.1, bt436.2.1, bt436.2.2)))) = some (r1, r2, r3) := h
 clear h
 replace H := Option.bind_eq_some_iff.mp H
 obtain ⟨⟨t431, t432, t435⟩, A30, H⟩ := H
 replace H : ((cutplaneref02_Add.f k a0_0 l0_1 a0_2 t431 t432 t435).bind fun bt436 => (some (bt436.1, bt436.2.1, bt436.2.2))) = some (r1, r2, r3) := H
 have A3 := A0_ A30
 clear A30
 replace H := Option.bind_eq_some_iff.mp H
 obtain ⟨⟨t436, t437, t440⟩, A40, H⟩ := H
 replace H : (some (t436, t437, t440)) = some (r1, r2, r3) := H
 have A4 := A0_ A40
 clear A40
 simp only [Option.some.injEq, Prod.mk.injEq] at H
 obtain ⟨rfl, rfl, rfl⟩ := H
 go_enter Tryd.func13, Tryd.ntmps13
 try go_wp2_with (first | ((with_reducible refine gate_dst (N := 2) rfl ?_); refine box_event ?hg (N := 2) ?hd (cs := #[.bool a0_0, .slice A0_1 l0_1.length c0_1, .int .i64 a0_2]) (t := 26) ?hr ?_; (case hd => rfl); (case hg => rfl); (case hr => first | (go_simp; done) | (go_simp; rfl)); intro gb428 hg w5 hbox hb; have n0_ := A0_ (Kd.V_below (Kd.V_elderB (by exact vm_ HO0_1.out) gb428 (Nat.le_of_eq hg.symm)) hb); have n1_ := A0_ (Kd.V_below (Kd.V_elderB (by exact vm_ HO1_1.out) gb428 (Nat.le_of_eq hg.symm)) hb); have n2_ := A0_ (below_step (qm_ HB.out) hb); have n3_ := A0_ (hbox); have n4_ := A0_ ((by rw [hg]; exact (below_size (qm_ HB.out)) : w.heap.size ≤ gb428)); have n5_ := A0_ ((by rw [hg]; exact (below_size (qm_ HB.out)) : w.heap.size ≤ gb428)); clear HO0_1 HO1_1 HB; have HO0_1 := n0_; have HO1_1 := n1_; have HB := n2_; have BK428 := n3_; have GW428 := n4_; have GE428 := n5_; clear n0_ n1_ n2_ n3_ n4_ n5_ hb hbox hg) | ((with_reducible refine gate_dst (N := 3) rfl ?_); refine box_event ?hg (N := 3) ?hd (cs := #[.bool a1_0, .slice A1_1 l1_1.length c1_1, .int .i64 a1_2]) (t := 26) ?hr ?_; (case hd => rfl); (case hg => rfl); (case hr => first | (go_simp; done) | (go_simp; rfl)); intro gb429 hg w6 hbox hb; have n0_ := A0_ (Kd.V_below (Kd.V_elderB (by exact vm_ HO0_1.out) gb429 (Nat.le_of_eq hg.symm)) hb); have n1_ := A0_ (Kd.V_below (Kd.V_elderB (by exact vm_ HO1_1.out) gb429 (Nat.le_of_eq hg.symm)) hb); have n2_ := A0_ (blk_below (bm_ BK428.out) hb); have n3_ := A0_ (below_step (by repeat (first | (with_reducible first | exact qm_ HB.out | apply qA_ | apply qN_ | apply qD_ | refine below_set ?_ GE428.out) | exact HB.out)) hb); have n4_ := A0_ (hbox); have n5_ := A0_ ((by rw [hg]; exact (below_size (by repeat (first | (with_reducible first | exact qm_ HB.out | apply qA_ | apply qN_ | apply qD_ | refine below_set ?_ GE428.out) | exact HB.out))) : w.heap.size ≤ gb429)); have n6_ := A0_ ((by rw [hg]; exact (below_size (by repeat (first | (with_reducible first | exact qm_ HB.out | apply qA_ | apply qN_ | apply qD_ | refine below_set ?_ GE428.out) | exact HB.out))) : w.heap.size ≤ gb429)); have n7_ := A0_ ((by rw [hg]; exact Nat.ne_of_lt (blk_lt (bm_ BK428.out)) : gb428 ≠ gb429)); have n8_ := A0_ ((by rw [hg]; exact Nat.ne_of_gt (blk_lt (bm_ BK428.out)) : gb429 ≠ gb428)); clear HO0_1 HO1_1 BK428 HB; have HO0_1 := n0_; have HO1_1 := n1_; have BK428 := n2_; have HB := n3_; have BK429 := n4_; have GW429 := n5_; have GE429 := n6_; have NB428_429 := n7_; have NB429_428 := n8_; clear n0_ n1_ n2_ n3_ n4_ n5_ n6_ n7_ n8_ hb hbox hg) | ((with_reducible refine gate_dst (N := 4) rfl ?_); refine box_event ?hg (N := 4) ?hd (cs := #[.bool false, .slice none 0 0, .int .i64 0]) (t := 26) ?hr ?_; (case hd => rfl); (case hg => rfl); (case hr => first | (go_simp; done) | (go_simp; rfl)); intro gb430 hg w7 hbox hb; have n0_ := A0_ (Kd.V_below (Kd.V_elderB (by exact vm_ HO0_1.out) gb430 (Nat.le_of_eq hg.symm)) hb); have n1_ := A0_ (Kd.V_below (Kd.V_elderB (by exact vm_ HO1_1.out) gb430 (Nat.le_of_eq hg.symm)) hb); have n2_ := A0_ (blk_below (bm_ BK428.out) hb); have n3_ := A0_ (blk_below (bm_ BK429.out) hb); have n4_ := A0_ (below_step (by repeat (first | (with_reducible first | exact qm_ HB.out | apply qA_ | apply qN_ | apply qD_ | refine below_set ?_ GE428.out | refine below_set ?_ GE429.out) | exact HB.out)) hb); have n5_ := A0_ (hbox); have n6_ := A0_ ((by rw [hg]; exact (below_size (by repeat (first | (with_reducible first | exact qm_ HB.out | apply qA_ | apply qN_ | apply qD_ | refine below_set ?_ GE428.out | refine below_set ?_ GE429.out) | exact HB.out))) : w.heap.size ≤ gb430)); have n7_ := A0_ ((by rw [hg]; exact (below_size (by repeat (first | (with_reducible first | exact qm_ HB.out | apply qA_ | apply qN_ | apply qD_ | refine below_set ?_ GE428.out | refine below_set ?_ GE429.out) | exact HB.out))) : w.heap.size ≤ gb430)); have n8_ := A0_ ((by rw [hg]; exact Nat.ne_of_lt (blk_lt (bm_ BK428.out)) : gb428 ≠ gb430)); have n9_ := A0_ ((by rw [hg]; exact Nat.ne_of_gt (blk_lt (bm_ BK428.out)) : gb430 ≠ gb428)); have n10_ := A0_ ((by rw [hg]; exact Nat.ne_of_lt (blk_lt (bm_ BK429.out)) : gb429 ≠ gb430)); have n11_ := A0_ ((by rw [hg]; exact Nat.ne_of_gt (blk_lt (bm_ BK429.out)) : gb430 ≠ gb429)); clear HO0_1 HO1_1 BK428 BK429 HB; have HO0_1 := n0_; have HO1_1 := n1_; have BK428 := n2_; have BK429 := n3_; have HB := n4_; have BK430 := n5_; have GW430 := n6_; have GE430 := n7_; have NB428_430 := n8_; have NB430_428 := n9_; have NB429_430 := n10_; have NB430_429 := n11_; clear n0_ n1_ n2_ n3_ n4_ n5_ n6_ n7_ n8_ n9_ n10_ n11_ hb hbox hg))
 have n0_ := A0_ (Kd.V_drew HO0_1.out)
 have n1_ := A0_ (Kd.V_drew HO1_1.out)
 have n2_ := A0_ (blk_drew BK428.out)
 have n3_ := A0_ (blk_drew BK429.out)
 have n4_ := A0_ (blk_drew BK430.out)
 have n5_ := A0_ (below_drew1 HB.out)
 clear HO0_1 HO1_1 BK428 BK429 BK430 HB
 have HO0_1 := n0_
 have HO1_1 := n1_
 have BK428 := n2_
 have BK429 := n3_
 have BK430 := n4_
 have HB := n5_
 clear n0_ n1_ n2_ n3_ n4_ n5_
 refine start_ (n := 5) (S := fun w' => w'.cell? ⟨gb428, 0, none⟩ = some (.bool a0_0) ∧ w'.cell? ⟨gb428, 1, none⟩ = some (.slice A0_1 l0_1.length c0_1) ∧ w'.cell? ⟨gb428, 2, none⟩ = some (.int .i64 a0_2) ∧ w'.cell? ⟨gb429, 0, none⟩ = some (.bool a1_0) ∧ w'.cell? ⟨gb429, 1, none⟩ = some (.slice A1_1 l1_1.length c1_1) ∧ w'.cell? ⟨gb429, 2, none⟩ = some (.int .i64 a1_2)) (ds := []) #[false, false, false, false, false] (by kernel_rfl) rfl rfl ⟨bC_ BK428.out 0, bC_ BK428.out 1, bC_ BK428.out 2, bC_ BK429.out 0, bC_ BK429.out 1, bC_ BK429.out 2⟩ (fun hHeld => ?_)
 generalize w7.drew = w8 at HO0_1 HO1_1 BK428 BK429 BK430 HB hHeld ⊢
 refine take_ (i := 0) (N := some 5) (v := ?_) (a' := ?_) #[true, false, false, false, false] rfl rfl (by kernel_rfl) (fun _ _ _ h => h) (Or.inl ⟨by rfl, ?_⟩) hHeld ?_ ?_
 rotate_left
 ·rintro w' ⟨s0, s1, s2, s3, s4, s5⟩
  go_simp
  with_reducible rfl
 rotate_left
 ·simp only [Act.put, sp_, i64_w, i32_w]
  rfl
 refine take_ (i := 1) (N := some 6) (v := ?_) (a' := ?_) #[true, true, false, false, false] rfl rfl (by kernel_rfl) (fun _ _ _ h => h) (Or.inl ⟨by rfl, ?_⟩) hHeld ?_ ?_
 rotate_left
 ·rintro w' ⟨s0, s1, s2, s3, s4, s5⟩
  go_simp
  with_reducible rfl
 rotate_left
 ·simp only [Act.put, sp_, i64_w, i32_w]
  rfl
 refine one_ (i := 2) (N := some 7) #[true, true, true, false, false] rfl rfl (by kernel_rfl) (by decide) (fun K hK => ?_)
 refine goes_ Tryd.func41 (by kernel_rfl) rfl #[.agg #[.bool a1_0, .slice A1_1 l1_1.length c1_1, .int .i64 a1_2]] (by rfl) rfl rfl (by (try simp only [List.map_toArray, List.map_cons, List.map_nil]); first | done | rfl | (simp only [List.length_drop, List.length_take]; rfl)) ?_
 with_reducible refine (cutplaneref02_Neg.calls a1_0 (fun k_ => (((((P0_1_ k_ ∨ P1_1_ k_) ∨ w.heap.size ≤ k_) ∧ k_ ≠ gb428) ∧ k_ ≠ gb429) ∧ k_ ≠ gb430)) _ _ l1_1 a1_2 t431 t432 t435 _ ?side1 A3.out).mono ?_
 (case side1 => exact HO1_1.out)
 rintro e w9 ⟨v433, rfl, ho0, hb⟩
 refine ⟨_, rfl, ?_⟩
 have n0_ := A0_ (Kd.V_below (by exact vm_ HO0_1.out) hb)
 have n1_ := A0_ (Kd.V_below (by exact vm_ HO1_1.out) hb)
 have n2_ := A0_ (Kd.V_lower (Kd.V_mono (ok' := fun k_ => ((P0_1_ k_ ∨ P1_1_ k_) ∨ w.heap.size ≤ k_) ∧ k_ ≠ gb428 ∧ k_ ≠ gb429 ∧ k_ ≠ gb430) ho0 (fun k_ hk_ => ⟨Or.elim hk_ (fun hs_ => hs_.1.1.1) (fun hn_ => (.inr (Nat.le_trans (below_size (by repeat (first | (with_reducible first | exact qm_ HB.out | apply qA_ | apply qN_ | apply qD_ | refine below_set ?_ GE428.out | refine below_set ?_ GE429.out | refine below_set ?_ GE430.out) | exact HB.out))) hn_))), Or.elim hk_ (fun hs_ => hs_.1.1.2) (fun hn_ => (Kd.freshB (bm_ BK428.out) k_ hn_)), Or.elim hk_ (fun hs_ => hs_.1.2) (fun hn_ => (Kd.freshB (bm_ BK429.out) k_ hn_)), Or.elim hk_ (fun hs_ => hs_.2) (fun hn_ => (Kd.freshB (bm_ BK430.out) k_ hn_))⟩)) (below_size (by repeat (first | (with_reducible first | exact qm_ HB.out | apply qA_ | apply qN_ | apply qD_ | refine below_set ?_ GE428.out | refine below_set ?_ GE429.out | refine below_set ?_ GE430.out) | exact HB.out))))
 have n3_ := A0_ (blk_below (bm_ BK428.out) hb)
 have n4_ := A0_ (blk_below (bm_ BK429.out) hb)
 have n5_ := A0_ (blk_below (bm_ BK430.out) hb)
 have n6_ := A0_ (below_step (by repeat (first | (with_reducible first | exact qm_ HB.out | apply qA_ | apply qN_ | apply qD_ | refine below_set ?_ GE428.out | refine below_set ?_ GE429.out | refine below_set ?_ GE430.out) | exact HB.out)) hb)
 clear HO0_1 HO1_1 BK428 BK429 BK430 HB
 have HO0_1 := n0_
 have HO1_1 := n1_
 have HO434 := n2_
 have BK428 := n3_
 have BK429 := n4_
 have BK430 := n5_
 have HB := n6_
 clear n0_ n1_ n2_ n3_ n4_ n5_ n6_
 (try clear hb)
 (try clear ho0)
 obtain ⟨Ao10, co10, eo10⟩ := Kd.V_slice HO434.out
 (first | subst eo10 | (injection eo10 with f1_ f2_ f3_; have f4_ := f1_.symm; have f5_ := f3_.symm; clear f1_ f2_ f3_; subst f4_; subst f5_))
 refine hK.out _ _ ⟨bC_ BK428.out 0, bC_ BK428.out 1, bC_ BK428.out 2, bC_ BK429.out 0, bC_ BK429.out 1, bC_ BK429.out 2⟩ (fun hHeld => ?_)
 clear hK K
 refine norm_ (a' := ?_) ?_ ?_
 rotate_left
 ·show Act.put _ (some 7) _ = _
  simp only [Act.put, sp_, i64_w, i32_w]
  rfl
 refine one_ (i := 3) (N := some 8) #[true, true, true, true, false] rfl rfl (by kernel_rfl) (by decide) (fun K hK => ?_)
 refine goes_ Tryd.func40 (by kernel_rfl) rfl #[.agg #[.bool a0_0, .slice A0_1 l0_1.length c0_1, .int .i64 a0_2], .agg #[.bool t431, .slice Ao10 t432.length co10, .int .i64 t435]] (by rfl) rfl rfl (by (try simp only [List.map_toArray, List.map_cons, List.map_nil]); first | done | rfl | (simp only [List.length_drop, List.length_take]; rfl)) ?_
 with_reducible refine (cutplaneref02_Add.calls k a0_0 (fun k_ => (((((P0_1_ k_ ∨ P1_1_ k_) ∨ w.heap.size ≤ k_) ∧ k_ ≠ gb428) ∧ k_ ≠ gb429) ∧ k_ ≠ gb430)) _ _ l0_1 a0_2 t431 (fun k_ => (((P0_1_ k_ ∨ P1_1_ k_) ∨ w.heap.size ≤ k_) ∧ (k_ ≠ gb428 ∧ (k_ ≠ gb429 ∧ k_ ≠ gb430)))) _ _ t432 t435 t436 t437 t440 _ ?side1 ?side2 A4.out).mono ?_
 (case side1 => exact HO0_1.out)
 (case side2 => exact HO434.out)
 rintro e w11 ⟨v438, rfl, ho0, hb⟩
 refine ⟨_, rfl, ?_⟩
 have n0_ := A0_ (Kd.V_below (by exact vm_ HO0_1.out) hb)
 have n1_ := A0_ (Kd.V_below (by exact vm_ HO1_1.out) hb)
 have n2_ := A0_ (Kd.V_below (by exact vm_ HO434.out) hb)
 have n3_ := A0_ (Kd.V_lower (Kd.V_mono (ok' := fun k_ => ((P0_1_ k_ ∨ P1_1_ k_) ∨ w.heap.size ≤ k_) ∧ k_ ≠ gb428 ∧ k_ ≠ gb429 ∧ k_ ≠ gb430) ho0 (fun k_ hk_ => ⟨Or.elim hk_ (fun hs_ => Or.elim hs_ (fun hs_ => hs_.1.1.1) (fun hs_ => hs_.1)) (fun hn_ => (.inr (Nat.le_trans (below_size (by repeat (first | (with_reducible first | exact qm_ HB.out | apply qA_ | apply qN_ | apply qD_ | refine below_set ?_ GE428.out | refine below_set ?_ GE429.out | refine below_set ?_ GE430.out) | exact HB.out))) hn_))), Or.elim hk_ (fun hs_ => Or.elim hs_ (fun hs_ => hs_.1.1.2) (fun hs_ => hs_.2.1)) (fun hn_ => (Kd.freshB (bm_ BK428.out) k_ hn_)), Or.elim hk_ (fun hs_ => Or.elim hs_ (fun hs_ => hs_.1.2) (fun hs_ => hs_.2.2.1)) (fun hn_ => (Kd.freshB (bm_ BK429.out) k_ hn_)), Or.elim hk_ (fun hs_ => Or.elim hs_ (fun hs_ => hs_.2) (fun hs_ => hs_.2.2.2)) (fun hn_ => (Kd.freshB (bm_ BK430.out) k_ hn_))⟩)) (below_size (by repeat (first | (with_reducible first | exact qm_ HB.out | apply qA_ | apply qN_ | apply qD_ | refine below_set ?_ GE428.out | refine below_set ?_ GE429.out | refine below_set ?_ GE430.out) | exact HB.out))))
 have n4_ := A0_ (blk_below (bm_ BK428.out) hb)
 have n5_ := A0_ (blk_below (bm_ BK429.out) hb)
 have n6_ := A0_ (blk_below (bm_ BK430.out) hb)
 have n7_ := A0_ (below_step (by repeat (first | (with_reducible first | exact qm_ HB.out | apply qA_ | apply qN_ | apply qD_ | refine below_set ?_ GE428.out | refine below_set ?_ GE429.out | refine below_set ?_ GE430.out) | exact HB.out)) hb)
 clear HO0_1 HO1_1 HO434 BK428 BK429 BK430 HB
 have HO0_1 := n0_
 have HO1_1 := n1_
 have HO434 := n2_
 have HO439 := n3_
 have BK428 := n4_
 have BK429 := n5_
 have BK430 := n6_
 have HB := n7_
 clear n0_ n1_ n2_ n3_ n4_ n5_ n6_ n7_
 (try clear hb)
 (try clear ho0)
 obtain ⟨Ao13, co13, eo13⟩ := Kd.V_slice HO439.out
 (first | subst eo13 | (injection eo13 with f1_ f2_ f3_; have f4_ := f1_.symm; have f5_ := f3_.symm; clear f1_ f2_ f3_; subst f4_; subst f5_))
 refine hK.out _ _ ⟨bC_ BK428.out 0, bC_ BK428.out 1, bC_ BK428.out 2, bC_ BK429.out 0, bC_ BK429.out 1, bC_ BK429.out 2⟩ (fun hHeld => ?_)
 clear hK K
 refine norm_ (a' := ?_) ?_ ?_
 rotate_left
 ·show Act.put _ (some 8) _ = _
  simp only [Act.put, sp_, i64_w, i32_w]
  rfl
 refine one_ (i := 4) (N := none) #[true, true, true, true, true] rfl rfl (by kernel_rfl) (by decide) (fun K hK => ?_)
 have hs12 : w11.cell? ⟨gb430, 0, none⟩ = some (.bool false) := (blk_cell BK430.out 0).trans rfl
 have hfs12 := blk_frozen BK430.out 0
 have hns12_0 := NB428_430.out
 have hns12_1 := NB429_430.out
 have hms12_0 := NB430_428.out
 have hms12_1 := NB430_429.out
 have hs14 : w11.cell? ⟨gb430, 1, none⟩ = some (.slice none 0 0) := (blk_cell BK430.out 1).trans rfl
 have hfs14 := blk_frozen BK430.out 1
 have hns14_0 := NB428_430.out
 have hns14_1 := NB429_430.out
 have hms14_0 := NB430_428.out
 have hms14_1 := NB430_429.out
 have hs15 : w11.cell? ⟨gb430, 2, none⟩ = some (.int .i64 0) := (blk_cell BK430.out 2).trans rfl
 have hfs15 := blk_frozen BK430.out 2
 have hns15_0 := NB428_430.out
 have hns15_1 := NB429_430.out
 have hms15_0 := NB430_428.out
 have hms15_1 := NB430_429.out
 refine skip_ (w1 := ?_) (by rfl) rfl ?_ ?_
 rotate_left
 ·go_simp
  rfl
 refine hK.out _ _ ⟨((cell_far (p := ⟨gb430, _, none⟩) NB428_430.out _).trans (((cell_far (p := ⟨gb430, _, none⟩) NB428_430.out _).trans (((cell_far (p := ⟨gb430, _, none⟩) NB428_430.out _).trans (hHeld.1)))))), ((cell_far (p := ⟨gb430, _, none⟩) NB428_430.out _).trans (((cell_far (p := ⟨gb430, _, none⟩) NB428_430.out _).trans (((cell_far (p := ⟨gb430, _, none⟩) NB428_430.out _).trans (hHeld.2.1)))))), ((cell_far (p := ⟨gb430, _, none⟩) NB428_430.out _).trans (((cell_far (p := ⟨gb430, _, none⟩) NB428_430.out _).trans (((cell_far (p := ⟨gb430, _, none⟩) NB428_430.out _).trans (hHeld.2.2.1)))))), ((cell_far (p := ⟨gb430, _, none⟩) NB429_430.out _).trans (((cell_far (p := ⟨gb430, _, none⟩) NB429_430.out _).trans (((cell_far (p := ⟨gb430, _, none⟩) NB429_430.out _).trans (hHeld.2.2.2.1)))))), ((cell_far (p := ⟨gb430, _, none⟩) NB429_430.out _).trans (((cell_far (p := ⟨gb430, _, none⟩) NB429_430.out _).trans (((cell_far (p := ⟨gb430, _, none⟩) NB429_430.out _).trans (hHeld.2.2.2.2.1)))))), ((cell_far (p := ⟨gb430, _, none⟩) NB429_430.out _).trans (((cell_far (p := ⟨gb430, _, none⟩) NB429_430.out _).trans (((cell_far (p := ⟨gb430, _, none⟩) NB429_430.out _).trans (hHeld.2.2.2.2.2))))))⟩ (fun hHeld => ?_)
 clear hK K
 refine done_ (by kernel_rfl) ?_
 try go_wp2
 refine bodyPost_ret (results_cell_row rfl _ _ gb430 26 #[.bool t436, .slice Ao13 t437.length co13, .int .i64 t440] (0, 0) _ rfl (by (with_reducible repeat first | apply bN_ | apply bD_ | apply bA_); refine blk_put (cs := #[.bool t436, .slice Ao13 t437.length co13, .int .i64 0]) ?_ 2 _ rfl; (with_reducible repeat first | apply bN_ | apply bD_ | apply bA_); refine blk_put (cs := #[.bool t436, .slice none 0 0, .int .i64 0]) ?_ 1 _ rfl; (with_reducible repeat first | apply bN_ | apply bD_ | apply bA_); refine blk_put (cs := #[.bool false, .slice none 0 0, .int .i64 0]) ?_ 0 _ rfl; (with_reducible repeat first | apply bN_ | apply bD_ | apply bA_); exact BK430.out) Tryd.underlying26 rfl (by kernel_rfl)) rfl ?_
 exact ⟨_, by first | rfl | (simp [errW_none, errW_some] <;> rfl) | (simp [*, errW_none, errW_some] <;> rfl), by (with_reducible repeat (first | apply Kd.V_alloc | apply Kd.V_drewN | apply Kd.V_drew)); exact Kd.V_mono (Kd.V_far (p := ⟨gb430, 2, none⟩) (Kd.V_far (p := ⟨gb430, 1, none⟩) (Kd.V_far (p := ⟨gb430, 0, none⟩) (Kd.V_mono HO439.out (fun k_ hk => (⟨hk, hk.2.2.2⟩ : _ ∧ k_ ≠ gb430))) (fun _ hk => hk.2) (.bool t436)) (fun _ hk => hk.2) (.slice Ao13 t437.length co13)) (fun _ hk => hk.2) (.int .i64 t440)) (fun _ hk => hk.1.1), by repeat (first | (with_reducible first | exact qm_ HB.out | apply qA_ | apply qN_ | apply qD_ | refine below_set ?_ GE428.out | refine below_set ?_ GE429.out | refine below_set ?_ GE430.out) | exact HB.out)⟩
def cutplaneref02_Sign.f (a0_0 : Bool) (l0_1 : List Int) (a0_2 : Int) : Option (Int) := if (l0_1.length : Int) = 0 then (some 0) else (if a0_0 = true then (some (-1)) else (some 1))
set_option maxHeartbeats 2000000 in
set_option maxRecDepth 100000 in
theorem cutplaneref02_Sign.calls (a0_0 : Bool) (A0_1 : Option Addr) (c0_1 : Nat) (l0_1 : List Int) (a0_2 : Int) (r : Int) (w : World) (hr0_1 : Kd.C (Kd.int .u32) w A0_1 l0_1.length l0_1) (hc0_1 : l0_1.length ≤ c0_1) (h : cutplaneref02_Sign.f a0_0 l0_1 a0_2 = some r) :
  Calls Tryd.prog 38 #[.agg #[.bool a0_0, .slice A0_1 l0_1.length c0_1, .int .i64 a0_2]] w fun e w' => e = .returned (.int .i64 r) ∧ Below w.heap.size w w' := by
 have hu26 := Tryd.underlying26
 have HR0_1 := A0_ hr0_1
 have HC0_1 := A0_ hc0_1
 clear hr0_1 hc0_1
 have HB := A0_ (Below.refl w.heap.size w)
 have H : (if (l0_1.length : Int) = 0 then (some 0) else (if a0_0 = true then (some (-1)) else (some 1))) = some r := h
 clear h
 by_cases c2 : (l0_1.length : Int) = 0
 ·rw [if_pos c2] at H
  have c2b0 : ((l0_1.length : Int) == 0) = true := beq_iff_eq.mpr c2
  have c2b1 : ((l0_1.length : Int) != 0) = false := bne_eq_false_iff_eq.mpr c2
  clear c2
  obtain rfl := Option.some.inj H
  go_enter Tryd.func38, Tryd.ntmps38
  go_wp2_with (first | ((with_reducible refine gate_dst (N := 1) rfl ?_); refine box_event ?hg (N := 1) ?hd (cs := #[.bool a0_0, .slice A0_1 l0_1.length c0_1, .int .i64 a0_2]) (t := 26) ?hr ?_; (case hd => rfl); (case hg => rfl); (case hr => first | (go_simp; done) | (go_simp; rfl)); intro gb441 hg w3 hbox hb; have n0_ := A0_ (below_step (qm_ HB.out) hb); have n1_ := A0_ (hbox); have n2_ := A0_ ((by rw [hg]; exact (below_size (qm_ HB.out)) : w.heap.size ≤ gb441)); have n3_ := A0_ ((by rw [hg]; exact (below_size (qm_ HB.out)) : w.heap.size ≤ gb441)); clear HB; have HB := n0_; have BK441 := n1_; have GW441 := n2_; have GE441 := n3_; clear n0_ n1_ n2_ n3_ hb hbox hg; have hcz4 := bc3_ BK441.out; have hfz4 := bf3_ BK441.out))
  go_ret
  exact ⟨by first | rfl | (simp [errW_none, errW_some] <;> rfl) | (simp [*, errW_none, errW_some] <;> rfl), by repeat (first | (with_reducible first | exact qm_ HB.out | apply qA_ | apply qN_ | apply qD_ | refine below_set ?_ GE441.out) | exact HB.out)⟩
 ·rw [if_neg c2] at H
  have c2b0 : ((l0_1.length : Int) == 0) = false := beq_eq_false_iff_ne.mpr c2
  have c2b1 : ((l0_1.length : Int) != 0) = true := bne_iff_ne.mpr c2
  have c2b2 : ¬ (l0_1 = []) := fun h_ => c2 (by rw [h_]; rfl)
  by_cases c5 : a0_0 = true
  ·subst c5
   have H1 : (some (-1)) = some r := by rw [if_pos rfl] at H; exact H
   clear H
   have H := H1
   clear H1
   obtain rfl := Option.some.inj H
   go_enter Tryd.func38, Tryd.ntmps38
   go_wp2_with (first | ((with_reducible refine gate_dst (N := 1) rfl ?_); refine box_event ?hg (N := 1) ?hd (cs := #[.bool true, .slice A0_1 l0_1.length c0_1, .int .i64 a0_2]) (t := 26) ?hr ?_; (case hd => rfl); (case hg => rfl); (case hr => first | (go_simp; done) | (go_simp; rfl)); intro gb441 hg w6 hbox hb; have n0_ := A0_ (below_step (qm_ HB.out) hb); have n1_ := A0_ (hbox); have n2_ := A0_ ((by rw [hg]; exact (below_size (qm_ HB.out)) : w.heap.size ≤ gb441)); have n3_ := A0_ ((by rw [hg]; exact (below_size (qm_ HB.out)) : w.heap.size ≤ gb441)); clear HB; have HB := n0_; have BK441 := n1_; have GW441 := n2_; have GE441 := n3_; clear n0_ n1_ n2_ n3_ hb hbox hg; have hcz7 := bc3_ BK441.out; have hfz7 := bf3_ BK441.out))
   go_ret
   exact ⟨by first | rfl | (simp [errW_none, errW_some] <;> rfl) | (simp [*, errW_none, errW_some] <;> rfl), by repeat (first | (with_reducible first | exact qm_ HB.out | apply qA_ | apply qN_ | apply qD_ | refine below_set ?_ GE441.out) | exact HB.out)⟩
  ·replace c5 := Bool.eq_false_iff.mpr c5
   subst c5
   have H1 : (some 1) = some r := by rw [if_neg (show ¬ (false = true) by decide)] at H; exact H
   clear H
   have H := H1
   clear H1
   obtain rfl := Option.some.inj H
   go_enter Tryd.func38, Tryd.ntmps38
   go_wp2_with (first | ((with_reducible refine gate_dst (N := 1) rfl ?_); refine box_event ?hg (N := 1) ?hd (cs := #[.bool false, .slice A0_1 l0_1.length c0_1, .int .i64 a0_2]) (t := 26) ?hr ?_; (case hd => rfl); (case hg => rfl); (case hr => first | (go_simp; done) | (go_simp; rfl)); intro gb441 hg w8 hbox hb; have n0_ := A0_ (below_step (qm_ HB.out) hb); have n1_ := A0_ (hbox); have n2_ := A0_ ((by rw [hg]; exact (below_size (qm_ HB.out)) : w.heap.size ≤ gb441)); have n3_ := A0_ ((by rw [hg]; exact (below_size (qm_ HB.out)) : w.heap.size ≤ gb441)); clear HB; have HB := n0_; have BK441 := n1_; have GW441 := n2_; have GE441 := n3_; clear n0_ n1_ n2_ n3_ hb hbox hg; have hcz9 := bc3_ BK441.out; have hfz9 := bf3_ BK441.out))
   go_ret
   exact ⟨by first | rfl | (simp [errW_none, errW_some] <;> rfl) | (simp [*, errW_none, errW_some] <;> rfl), by repeat (first | (with_reducible first | exact qm_ HB.out | apply qA_ | apply qN_ | apply qD_ | refine below_set ?_ GE441.out) | exact HB.out)⟩
end Go.Proofs.YthiklmgdmaemgaaDoor.PA
end

section
namespace Go.Proofs.YthiklmgdmaemgaaDoor.PA
open Go.RowKit Go.Proofs.YthiklmgdmaemgaaDoorW.PrintWords Go.Proofs.YthiklmgdmaemgaaDoorW.PrintLast Go.Proofs.YthiklmgdmaemgaaDoorW.PrintMore
attribute [local go_sem] max2_int min2_int max_two min_two max_three min_three max_four min_four   -- for this text's walks alone
set_option linter.unusedVariables false
set_option linter.unusedSimpArgs false
def cutplaneref02_Top.f (k : Nat) (a0_0 : Bool) (l0_1 : List Int) (a0_2 : Int) : Option (Int) := if (l0_1.length : Int) = 0 then (some 0) else ((cutplaneref01_Len.f k l0_1).bind fun t443 => (some (wrap64 (a0_2 + t443))))
set_option maxHeartbeats 2000000 in
set_option maxRecDepth 100000 in
theorem cutplaneref02_Top.calls (k : Nat) (a0_0 : Bool) (A0_1 : Option Addr) (c0_1 : Nat) (l0_1 : List Int) (a0_2 : Int) (r : Int) (w : World) (hr0_1 : Kd.C (Kd.int .u32) w A0_1 l0_1.length l0_1) (hc0_1 : l0_1.length ≤ c0_1) (h : cutplaneref02_Top.f k a0_0 l0_1 a0_2 = some r) :
  Calls Tryd.prog 39 #[.agg #[.bool a0_0, .slice A0_1 l0_1.length c0_1, .int .i64 a0_2]] w fun e w' => e = .returned (.int .i64 r) ∧ Below w.heap.size w w' := by
 have hu26 := Tryd.underlying26
 have HR0_1 := A0_ hr0_1
 have HC0_1 := A0_ hc0_1
 clear hr0_1 hc0_1
 have HB := A0_ (Below.refl w.heap.size w)
 have H : (if (l0_1.length : Int) = 0 then (some 0) else ((cutplaneref01_Len.f k l0_1).bind fun t443 => (some (wrap64 (a0_2 + t443))))) = some r := h
 clear h
 by_cases c2 : (l0_1.length : Int) = 0
 ·rw [if_pos c2] at H
  have c2b0 : ((l0_1.length : Int) == 0) = true := beq_iff_eq.mpr c2
  have c2b1 : ((l0_1.length : Int) != 0) = false := bne_eq_false_iff_eq.mpr c2
  clear c2
  obtain rfl := Option.some.inj H
  go_enter Tryd.func39, Tryd.ntmps39
  go_wp2_with (first | ((with_reducible refine gate_dst (N := 1) rfl ?_); refine box_event ?hg (N := 1) ?hd (cs := #[.bool a0_0, .slice A0_1 l0_1.length c0_1, .int .i64 a0_2]) (t := 26) ?hr ?_; (case hd => rfl); (case hg => rfl); (case hr => first | (go_simp; done) | (go_simp; rfl)); intro gb442 hg w3 hbox hb; have n0_ := A0_ (below_step (qm_ HB.out) hb); have n1_ := A0_ (hbox); have n2_ := A0_ ((by rw [hg]; exact (below_size (qm_ HB.out)) : w.heap.size ≤ gb442)); have n3_ := A0_ ((by rw [hg]; exact (below_size (qm_ HB.out)) : w.heap.size ≤ gb442)); clear HB; have HB := n0_; have BK442 := n1_; have GW442 := n2_; have GE442 := n3_; clear n0_ n1_ n2_ n3_ hb hbox hg; have hcz4 := bc3_ BK442.out; have hfz4 := bf3_ BK442.out))
  repeat (go_quiet (first | ((with_reducible refine gate_dst (N := 1) rfl ?_); refine box_event ?hg (N := 1) ?hd (cs := #[.bool a0_0, .slice A0_1 l0_1.length c0_1, .int .i64 a0_2]) (t := 26) ?hr ?_; (case hd => rfl); (case hg => rfl); (case hr => first | (go_simp; done) | (go_simp; rfl)); intro gb442 hg w3 hbox hb; have n0_ := A0_ (below_step (qm_ HB.out) hb); have n1_ := A0_ (hbox); have n2_ := A0_ ((by rw [hg]; exact (below_size (qm_ HB.out)) : w.heap.size ≤ gb442)); have n3_ := A0_ ((by rw [hg]; exact (below_size (qm_ HB.out)) : w.heap.size ≤ gb442)); clear HB; have HB := n0_; have BK442 := n1_; have GW442 := n2_; have GE442 := n3_; clear n0_ n1_ n2_ n3_ hb hbox hg; have hcz4 := bc3_ BK442.out; have hfz4 := bf3_ BK442.out)); try go_wp2_with (first | ((with_reducible refine gate_dst (N := 1) rfl ?_); refine box_event ?hg (N := 1) ?hd (cs := #[.bool a0_0, .slice A0_1 l0_1.length c0_1, .int .i64 a0_2]) (t := 26) ?hr ?_; (case hd => rfl); (case hg => rfl); (case hr => first | (go_simp; done) | (go_simp; rfl)); intro gb442 hg w3 hbox hb; have n0_ := A0_ (below_step (qm_ HB.out) hb); have n1_ := A0_ (hbox); have n2_ := A0_ ((by rw [hg]; exact (below_size (qm_ HB.out)) : w.heap.size ≤ gb442)); have n3_ := A0_ ((by rw [hg]; exact (below_size (qm_ HB.out)) : w.heap.size ≤ gb442)); clear HB; have HB := n0_; have BK442 := n1_; have GW442 := n2_; have GE442 := n3_; clear n0_ n1_ n2_ n3_ hb hbox hg; have hcz4 := bc3_ BK442.out; have hfz4 := bf3_ BK442.out)))
  go_ret
  exact ⟨by first | rfl | (simp [errW_none, errW_some] <;> rfl) | (simp [*, errW_none, errW_some] <;> rfl), by repeat (first | (with_reducible first | exact qm_ HB.out | apply qA_ | apply qN_ | apply qD_ | refine below_set ?_ GE442.out) | exact HB.out)⟩
 ·rw [if_neg c2] at H
  have c2b0 : ((l0_1.length : Int) == 0) = false := beq_eq_false_iff_ne.mpr c2
  have c2b1 : ((l0_1.length : Int) != 0) = true := bne_iff_ne.mpr c2
  have c2b2 : ¬ (l0_1 = []) := fun h_ => c2 (by rw [h_]; rfl)
  replace H := Option.bind_eq_some_iff.mp H
  obtain ⟨t443, A50, H⟩ := H
  replace H : (some (wrap64 (a0_2 + t443))) = some r := H
  have A5 := A0_ A50
  clear A50
  obtain rfl := Option.some.inj H
  go_enter Tryd.func39, Tryd.ntmps39
  go_wp2_with (first | ((with_reducible refine gate_dst (N := 1) rfl ?_); refine box_event ?hg (N := 1) ?hd (cs := #[.bool a0_0, .slice A0_1 l0_1.length c0_1, .int .i64 a0_2]) (t := 26) ?hr ?_; (case hd => rfl); (case hg => rfl); (case hr => first | (go_simp; done) | (go_simp; rfl)); intro gb442 hg w6 hbox hb; have n0_ := A0_ (below_step (qm_ HB.out) hb); have n1_ := A0_ (hbox); have n2_ := A0_ ((by rw [hg]; exact (below_size (qm_ HB.out)) : w.heap.size ≤ gb442)); have n3_ := A0_ ((by rw [hg]; exact (below_size (qm_ HB.out)) : w.heap.size ≤ gb442)); clear HB; have HB := n0_; have BK442 := n1_; have GW442 := n2_; have GE442 := n3_; clear n0_ n1_ n2_ n3_ hb hbox hg; have hcz7 := bc3_ BK442.out; have hfz7 := bf3_ BK442.out) | (go_at_call 55; (with_reducible refine (cutplaneref01_Len.calls k _ _ l0_1 t443 _ ?side1 ?side2 A5.out).mono ?_); (case side1 => repeat (first | exact (Kd.C_below HR0_1.out HB.out) | (with_reducible refine Kd.C_alloc ?_ _) | (with_reducible refine Kd.C_drewN ?_ _) | (with_reducible refine Kd.C_drew ?_))); (case side2 => exact HC0_1.out); rintro e w' ⟨rfl, ⟨nd, rfl⟩⟩; (try first | exact ⟨rfl, _, World.drewN_drewN _ _ _⟩ | exact ⟨rfl, _, Eq.trans (World.drewN_drewN _ _ _) (congrArg (World.drewN _) (Nat.add_assoc _ _ _))⟩)))
  repeat (go_quiet (first | ((with_reducible refine gate_dst (N := 1) rfl ?_); refine box_event ?hg (N := 1) ?hd (cs := #[.bool a0_0, .slice A0_1 l0_1.length c0_1, .int .i64 a0_2]) (t := 26) ?hr ?_; (case hd => rfl); (case hg => rfl); (case hr => first | (go_simp; done) | (go_simp; rfl)); intro gb442 hg w6 hbox hb; have n0_ := A0_ (below_step (qm_ HB.out) hb); have n1_ := A0_ (hbox); have n2_ := A0_ ((by rw [hg]; exact (below_size (qm_ HB.out)) : w.heap.size ≤ gb442)); have n3_ := A0_ ((by rw [hg]; exact (below_size (qm_ HB.out)) : w.heap.size ≤ gb442)); clear HB; have HB := n0_; have BK442 := n1_; have GW442 := n2_; have GE442 := n3_; clear n0_ n1_ n2_ n3_ hb hbox hg; have hcz7 := bc3_ BK442.out; have hfz7 := bf3_ BK442.out) | (go_at_call 55; (with_reducible refine (cutplaneref01_Len.calls k _ _ l0_1 t443 _ ?side1 ?side2 A5.out).mono ?_); (case side1 => repeat (first | exact (Kd.C_below HR0_1.out HB.out) | (with_reducible refine Kd.C_alloc ?_ _) | (with_reducible refine Kd.C_drewN ?_ _) | (with_reducible refine Kd.C_drew ?_))); (case side2 => exact HC0_1.out); rintro e w' ⟨rfl, ⟨nd, rfl⟩⟩; (try first | exact ⟨rfl, _, World.drewN_drewN _ _ _⟩ | exact ⟨rfl, _, Eq.trans (World.drewN_drewN _ _ _) (congrArg (World.drewN _) (Nat.add_assoc _ _ _))⟩))); try go_wp2_with (first | ((with_reducible refine gate_dst (N := 1) rfl ?_); refine box_event ?hg (N := 1) ?hd (cs := #[.bool a0_0, .slice A0_1 l0_1.length c0_1, .int .i64 a0_2]) (t := 26) ?hr ?_; (case hd => rfl); (case hg => rfl); (case hr => first | (go_simp; done) | (go_simp; rfl)); intro gb442 hg w6 hbox hb; have n0_ := A0_ (below_step (qm_ HB.out) hb); have n1_ := A0_ (hbox); have n2_ := A0_ ((by rw [hg]; exact (below_size (qm_ HB.out)) : w.heap.size ≤ gb442)); have n3_ := A0_ ((by rw [hg]; exact (below_size (qm_ HB.out)) : w.heap.size ≤ gb442)); clear HB; have HB := n0_; have BK442 := n1_; have GW442 := n2_; have GE442 := n3_; clear n0_ n1_ n2_ n3_ hb hbox hg; have hcz7 := bc3_ BK442.out; have hfz7 := bf3_ BK442.out) | (go_at_call 55; (with_reducible refine (cutplaneref01_Len.calls k _ _ l0_1 t443 _ ?side1 ?side2 A5.out).mono ?_); (case side1 => repeat (first | exact (Kd.C_below HR0_1.out HB.out) | (with_reducible refine Kd.C_alloc ?_ _) | (with_reducible refine Kd.C_drewN ?_ _) | (with_reducible refine Kd.C_drew ?_))); (case side2 => exact HC0_1.out); rintro e w' ⟨rfl, ⟨nd, rfl⟩⟩; (try first | exact ⟨rfl, _, World.drewN_drewN _ _ _⟩ | exact ⟨rfl, _, Eq.trans (World.drewN_drewN _ _ _) (congrArg (World.drewN _) (Nat.add_assoc _ _ _))⟩))))
  go_ret
  exact ⟨by first | rfl | (simp [errW_none, errW_some] <;> rfl) | (simp [*, errW_none, errW_some] <;> rfl), by repeat (first | (with_reducible first | exact qm_ HB.out | apply qA_ | apply qN_ | apply qD_ | refine below_set ?_ GE442.out) | exact HB.out)⟩
end Go.Proofs.YthiklmgdmaemgaaDoor.PA
end
