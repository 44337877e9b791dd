/- Steps of Go functions that the law SpecialBoxes uses, told as plain Lean functions, each with the proof that its call comes to what it tells; words on memory; plain facts. No condition beyond those that each text names. -/
import Derived.Test.YtlgapmhjaaajfaaProg
import Derived.WalkMore
import Derived.Below
import Derived.Deep.Draws
import Derived.Deep.AppendLies
import Derived.Maps.AppendAt
import Derived.OwnWalk
import Derived.Laws.BytesArg
import Derived.Laws.MakeOwn
import Derived.Laws.OwnMore
import Derived.Deep.OwnRows
import Derived.Tactics
import Derived.Lib.ConvBytes
import Derived.Laws.Slices
import Derived.WalkKit
import Derived.KernelRfl
import Derived.RowKit3
import Derived.Deep.LoopGhost
import Derived.Deep.QuietTactic
import Derived.BigQuiet
import Derived.WideLaws
import Derived.Deep.DeepCutAuto
import Derived.Deep.CutBlock
import Derived.Deep.RegionHeld3
import Derived.Laws.Rows
import Derived.Lib.AppendStr
import Derived.ArgAppend
import Derived.Laws.IdiomCopy
import Derived.OrdersHeld
import Derived.Laws.BitsLemmas
import Derived.RowKit
import Derived.Laws.StructEq
import Derived.Test.YtlgapmhjaaajfaaSSpecialBoxes0
import Derived.Test.YtlgapmhjaaajfaaSSpecialBoxes1
import Derived.Test.YtlgapmhjaaajfaaSSpecialBoxes3
import Derived.Test.YtlgapmhjaaajfaaSSpecialBoxes4
section
namespace Go.Proofs.Ytlgapmhjaaajfaa.PA
open Go.RowKit Go.Proofs.YtlgapmhjaaajfaaW.PrintWords Go.Proofs.YtlgapmhjaaajfaaW.PrintLast Go.Proofs.YtlgapmhjaaajfaaW.PrintMore
attribute [local go_sem] max2_int min2_int max_two min_two max_three min_three max_four min_four   -- for this text's walks alone
set_option linter.unusedVariables false
set_option linter.unusedSimpArgs false
/-- a part of the number: what is not nought becomes a word of the size -/
def special_box_words.p (k : Nat) (f n : Int) (g : Bool) (size : Int) : Option Int := if g then (word_Neg.f k f (if n = 0 then 0 else size)).bind fun x => some x.1 else some (if n = 0 then 0 else size)
def special_box_words.f (k : Nat) (a0_0 : Int) (a0_1 : Bool) (a0_2 : Int) (a0_3 : Bool) (a1 a2 : Int) : Option (Int × Int) := (special_box_words.p k a1 a0_0 a0_1 a2).bind fun x => (special_box_words.p k a1 a0_2 a0_3 a2).bind fun y => some (x, y)
theorem special_box_words.mono_p (k : Nat) (f n : Int) (g : Bool) (size : Int) : LeO (special_box_words.p k f n g size) (special_box_words.p (k + 1) f n g size) := by
  unfold special_box_words.p
  exact LeO.ite (LeO.bind (word_Neg.mono _ _ _) (fun _ => LeO.refl _)) (LeO.refl _)
theorem special_box_words.mono : ∀ a0 a1 a2 a3 a4 a5 k, LeO (special_box_words.f k a0 a1 a2 a3 a4 a5) (special_box_words.f (k + 1) a0 a1 a2 a3 a4 a5) := by
  intro a0 a1 a2 a3 a4 a5 k
  unfold special_box_words.f
  exact LeO.bind (special_box_words.mono_p _ _ _ _ _) (fun _ => LeO.bind (special_box_words.mono_p _ _ _ _ _) (fun _ => LeO.refl _))
set_option maxHeartbeats 4000000 in
set_option maxRecDepth 100000 in
theorem special_box_words.calls (k : Nat) (a0_0 : Int) (a0_1 : Bool) (a0_2 : Int) (a0_3 : Bool) (a1 : Int) (a2 : Int) (r1 : Int) (r2 : Int) (w : World) (h : special_box_words.f k a0_0 a0_1 a0_2 a0_3 a1 a2 = some (r1, r2)) :
    Calls Try.prog 21 #[.agg #[.int .i64 a0_0, .bool a0_1, .int .i64 a0_2, .bool a0_3], .int .u8 a1, .int .u64 a2] w fun e w' => e = .returned (.agg #[.int .u64 r1, .int .u64 r2]) ∧ Below w.heap.size w w' := by
  have hix0 : ∀ w : World, (Instr.index 54 (.agg #[.int .i64 a0_0, .bool a0_1, .int .i64 a0_2, .bool a0_3]) (.int .i64 0)).run Try.prog w = .ok (.agg #[.int .i64 a0_0, .bool a0_1]) w := fun _ => by kernel_rfl
  have hix1 : ∀ w : World, (Instr.index 54 (.agg #[.int .i64 a0_0, .bool a0_1, .int .i64 a0_2, .bool a0_3]) (.int .i64 1)).run Try.prog w = .ok (.agg #[.int .i64 a0_2, .bool a0_3]) w := fun _ => by kernel_rfl
  have hia0 : ∀ (g : Nat) (w : World), (Instr.indexAt 87 (.pointer (some ⟨g, 0, none⟩)) (.int .i64 0)).run Try.prog w = .ok (.pointer (some ⟨g, 0, none⟩)) w := fun _ _ => by kernel_rfl
  have hia1 : ∀ (g : Nat) (w : World), (Instr.indexAt 87 (.pointer (some ⟨g, 0, none⟩)) (.int .i64 1)).run Try.prog w = .ok (.pointer (some ⟨g, 1, none⟩)) w := fun _ _ => by kernel_rfl
  have HB := Aside0.mk (Below.refl w.heap.size w)
  unfold special_box_words.f at h
  obtain ⟨p0, hp0, h⟩ := Option.bind_eq_some_iff.mp h
  obtain ⟨p1, hp1, h⟩ := Option.bind_eq_some_iff.mp h
  simp only [Option.some.injEq, Prod.mk.injEq] at h
  obtain ⟨rfl, rfl⟩ := h
  have HP0 := Aside0.mk hp0
  have HP1 := Aside0.mk hp1
  clear hp0 hp1
  go_enter Try.func21, Try.ntmps21
  go_wp2_with (first | ((with_reducible refine gate_dst (N := 3) rfl ?_); refine box_event ?hg (N := 3) ?hd (cs := #[.int .i64 a0_0, .bool a0_1, .int .i64 a0_2, .bool a0_3]) (t := 54) ?hr ?_; (case hd => rfl); (case hg => rfl); (case hr => first | (go_simp; done) | (go_simp; rfl)); intro gb3 hg w3 hbox hb;  have n0_ := Aside0.mk (below_step (by repeat (first | (with_reducible first | exact HB.out | apply below_alloc | apply pw_below_drewN | apply below_drew1) | exact HB.out)) hb); have n1_ := Aside0.mk hbox; have n2_ := Aside0.mk ((by rw [hg]; exact (below_size (by repeat (first | (with_reducible first | exact HB.out | apply below_alloc | apply pw_below_drewN | apply below_drew1) | exact HB.out)))) : w.heap.size ≤ gb3); clear HB; have HB := n0_; have BK3 := n1_; have GE3 := n2_; clear n0_ n1_ n2_; clear hb hbox hg; have hcz3_0 : w3.cell? ⟨gb3, 0, none⟩ = some (.int .i64 a0_0) := (blk_cell BK3.out 0).trans rfl; have hcz3_1 : w3.cell? ⟨gb3, 1, none⟩ = some (.bool a0_1) := (blk_cell BK3.out 1).trans rfl; have hcz3_2 : w3.cell? ⟨gb3, 2, none⟩ = some (.int .i64 a0_2) := (blk_cell BK3.out 2).trans rfl; have hcz3_3 : w3.cell? ⟨gb3, 3, none⟩ = some (.bool a0_3) := (blk_cell BK3.out 3).trans rfl) | ((with_reducible refine gate_dst (N := 6) rfl ?_); refine box_event ?hg (N := 6) ?hd (cs := #[.int .u64 0, .int .u64 0]) (t := 26) ?hr ?_; (case hd => rfl); (case hg => rfl); (case hr => first | (go_simp; done) | (go_simp; rfl)); intro gb6 hg w6 hbox hb; clear hcz3_0 hcz3_1 hcz3_2 hcz3_3; have nb_ := Aside0.mk (blk_below BK3.out hb); clear BK3; have BK3 := nb_; clear nb_;  have n0_ := Aside0.mk (below_step (by repeat (first | (with_reducible first | exact HB.out | apply below_alloc | apply pw_below_drewN | apply below_drew1) | exact HB.out)) hb); have n1_ := Aside0.mk hbox; have n2_ := Aside0.mk ((by rw [hg]; exact (below_size (by repeat (first | (with_reducible first | exact HB.out | apply below_alloc | apply pw_below_drewN | apply below_drew1) | exact HB.out)))) : w.heap.size ≤ gb6); clear HB; have HB := n0_; have BK6 := n1_; have GE6 := n2_; clear n0_ n1_ n2_; clear hb hbox hg; have hcz3_0 : w6.cell? ⟨gb3, 0, none⟩ = some (.int .i64 a0_0) := (blk_cell BK3.out 0).trans rfl; have hcz3_1 : w6.cell? ⟨gb3, 1, none⟩ = some (.bool a0_1) := (blk_cell BK3.out 1).trans rfl; have hcz3_2 : w6.cell? ⟨gb3, 2, none⟩ = some (.int .i64 a0_2) := (blk_cell BK3.out 2).trans rfl; have hcz3_3 : w6.cell? ⟨gb3, 3, none⟩ = some (.bool a0_3) := (blk_cell BK3.out 3).trans rfl) | ((with_reducible refine gate_dst (N := 7) rfl ?_); refine box_event ?hg (N := 7) ?hd (cs := #[.int .u64 0, .int .u64 0]) (t := 87) ?hr ?_; (case hd => rfl); (case hg => rfl); (case hr => first | (go_simp; done) | (go_simp; rfl)); intro gb7 hg w7 hbox hb; have LT6 := blk_lt BK6.out; clear hcz3_0 hcz3_1 hcz3_2 hcz3_3; have nb_ := Aside0.mk (blk_below BK3.out hb); clear BK3; have BK3 := nb_; clear nb_; have nb_ := Aside0.mk (blk_below BK6.out hb); clear BK6; have BK6 := nb_; clear nb_; have n0_ := Aside0.mk (below_step (by repeat (first | (with_reducible first | exact HB.out | apply below_alloc | apply pw_below_drewN | apply below_drew1) | exact HB.out)) hb); have n1_ := Aside0.mk hbox; have n2_ := Aside0.mk ((by rw [hg]; exact (below_size (by repeat (first | (with_reducible first | exact HB.out | apply below_alloc | apply pw_below_drewN | apply below_drew1) | exact HB.out)))) : w.heap.size ≤ gb7); clear HB; have HB := n0_; have BK7 := n1_; have GE7 := n2_; clear n0_ n1_ n2_; have NE67 := Aside0.mk ((by rw [hg]; exact Nat.ne_of_lt LT6) : gb6 ≠ gb7); clear LT6; clear hb hbox hg; have hcz3_0 : w7.cell? ⟨gb3, 0, none⟩ = some (.int .i64 a0_0) := (blk_cell BK3.out 0).trans rfl; have hcz3_1 : w7.cell? ⟨gb3, 1, none⟩ = some (.bool a0_1) := (blk_cell BK3.out 1).trans rfl; have hcz3_2 : w7.cell? ⟨gb3, 2, none⟩ = some (.int .i64 a0_2) := (blk_cell BK3.out 2).trans rfl; have hcz3_3 : w7.cell? ⟨gb3, 3, none⟩ = some (.bool a0_3) := (blk_cell BK3.out 3).trans rfl))
  clear hcz3_0 hcz3_1 hcz3_2 hcz3_3 BK3
  go_loopg [11] 2 (fun kq v11 w' => ∃ (i l0 l1 : Int), v11 = .int .i64 i ∧ Aside0 ((i = 0 ∧ kq = 2 ∧ l0 = 0 ∧ l1 = 0) ∨ (i = 1 ∧ kq = 1 ∧ l0 = p0 ∧ l1 = 0) ∨ (i = 2 ∧ kq = 0 ∧ l0 = p0 ∧ l1 = p1)) ∧ Aside0 (w'.heap[gb6]? = some (.cells #[.int .u64 0, .int .u64 0] 26 (0, 0))) ∧ Aside0 (w'.heap[gb7]? = some (.cells #[.int .u64 l0, .int .u64 l1] 87 (0, 0))) ∧ Aside0 (Below w.heap.size w w'))
  case atStart => exact ⟨0, 0, 0, rfl, ⟨.inl ⟨rfl, rfl, rfl, rfl⟩⟩, BK6, BK7, HB⟩
  case round =>
    clear BK6 BK7 HB
    obtain ⟨i, l0, l1, rfl, HI, BK6, BK7, HB⟩ := hrel
    rcases HI.out with ⟨rfl, rfl, rfl, rfl⟩ | ⟨rfl, rfl, rfl, rfl⟩ | ⟨rfl, rfl, rfl, rfl⟩
    · clear HI
      by_cases c : a0_0 = 0 <;> cases a0_1
      · have hz_ : (a0_0 != 0) = false := by rw [c]; rfl
        have H := HP0.out
        simp only [special_box_words.p, Bool.false_eq_true, if_true, if_false, c] at H
        have HX := Aside0.mk (Option.some.inj H)
        clear H
        have C_ := Aside0.mk c
        clear c
        go_upto_region 9 with (first | ((with_reducible refine gate_dst (N := 9) rfl ?_); refine box_event ?hg (N := 9) ?hd (cs := #[.int .i64 0, .bool false]) (t := 52) ?hr ?_; (case hd => rfl); (case hg => rfl); (case hr => first | (go_simp; done) | (go_simp; rfl)); intro gb9 hg w9 hbox hb; have LT7 := blk_lt BK7.out; have LT6 := blk_lt BK6.out; have nb_ := Aside0.mk (blk_below BK6.out hb); clear BK6; have BK6 := nb_; clear nb_; have nb_ := Aside0.mk (blk_below BK7.out hb); clear BK7; have BK7 := nb_; clear nb_; have n0_ := Aside0.mk (below_step (by repeat (first | (with_reducible first | exact HB.out | apply below_alloc | apply pw_below_drewN | apply below_drew1) | exact HB.out)) hb); have n1_ := Aside0.mk hbox; have n2_ := Aside0.mk ((by rw [hg]; exact (below_size (by repeat (first | (with_reducible first | exact HB.out | apply below_alloc | apply pw_below_drewN | apply below_drew1) | exact HB.out)))) : w.heap.size ≤ gb9); clear HB; have HB := n0_; have BK9 := n1_; have GE9 := n2_; clear n0_ n1_ n2_; have NE79 := Aside0.mk ((by rw [hg]; exact Nat.ne_of_lt LT7) : gb7 ≠ gb9); have NE69 := Aside0.mk ((by rw [hg]; exact Nat.ne_of_lt LT6) : gb6 ≠ gb9); clear LT6 LT7; clear hb hbox hg; have h97 := Ne.symm NE79.out; have h79 := NE79.out; have hcz9_0 : w9.cell? ⟨gb9, 0, none⟩ = some (.int .i64 0) := (blk_cell BK9.out 0).trans rfl; have hfz9_0 := blk_frozen BK9.out 0; have hcz9_1 : w9.cell? ⟨gb9, 1, none⟩ = some (.bool false) := (blk_cell BK9.out 1).trans rfl; have hfz9_1 := blk_frozen BK9.out 1;have hcz7_0 : w9.cell? ⟨gb7, 0, none⟩ = some (.int .u64 0) := (blk_cell BK7.out 0).trans rfl; have hfz7_0 := blk_frozen BK7.out 0; have hcz7_1 : w9.cell? ⟨gb7, 1, none⟩ = some (.int .u64 0) := (blk_cell BK7.out 1).trans rfl; have hfz7_1 := blk_frozen BK7.out 1))
        have f7_ := (blk_far (blk_far BK7.out (p := ⟨gb9, 0, none⟩) NE79.out (.int .i64 a0_0)) (p := ⟨gb9, 1, none⟩) NE79.out (.bool false))
        have f6_ := (blk_far (blk_far BK6.out (p := ⟨gb9, 0, none⟩) NE69.out (.int .i64 a0_0)) (p := ⟨gb9, 1, none⟩) NE69.out (.bool false))
        have fb_ := (below_set (below_set HB.out GE9.out (j := 0) (v := .int .i64 a0_0)) GE9.out (j := 1) (v := .bool false))
        go_wp2
        go_roundg 1
        case measure => omega
        case rel => exact ⟨1, _, _, rfl, ⟨.inr (.inl ⟨rfl, rfl, rfl, rfl⟩)⟩, ⟨f6_⟩, ⟨by rw [← HX.out]; exact f7_⟩, ⟨fb_⟩⟩
      · have hz_ : (a0_0 != 0) = false := by rw [c]; rfl
        have H := HP0.out
        simp only [special_box_words.p, Bool.false_eq_true, if_true, if_false, c] at H
        obtain ⟨⟨x_, xe_⟩, AX_, HX_⟩ := Option.bind_eq_some_iff.mp H
        have HX := Aside0.mk (Option.some.inj HX_)
        have AX := Aside0.mk AX_
        clear AX_ HX_ H
        have C_ := Aside0.mk c
        clear c
        go_upto_region 9 with (first | ((with_reducible refine gate_dst (N := 9) rfl ?_); refine box_event ?hg (N := 9) ?hd (cs := #[.int .i64 0, .bool false]) (t := 52) ?hr ?_; (case hd => rfl); (case hg => rfl); (case hr => first | (go_simp; done) | (go_simp; rfl)); intro gb9 hg w9 hbox hb; have LT7 := blk_lt BK7.out; have LT6 := blk_lt BK6.out; have nb_ := Aside0.mk (blk_below BK6.out hb); clear BK6; have BK6 := nb_; clear nb_; have nb_ := Aside0.mk (blk_below BK7.out hb); clear BK7; have BK7 := nb_; clear nb_; have n0_ := Aside0.mk (below_step (by repeat (first | (with_reducible first | exact HB.out | apply below_alloc | apply pw_below_drewN | apply below_drew1) | exact HB.out)) hb); have n1_ := Aside0.mk hbox; have n2_ := Aside0.mk ((by rw [hg]; exact (below_size (by repeat (first | (with_reducible first | exact HB.out | apply below_alloc | apply pw_below_drewN | apply below_drew1) | exact HB.out)))) : w.heap.size ≤ gb9); clear HB; have HB := n0_; have BK9 := n1_; have GE9 := n2_; clear n0_ n1_ n2_; have NE79 := Aside0.mk ((by rw [hg]; exact Nat.ne_of_lt LT7) : gb7 ≠ gb9); have NE69 := Aside0.mk ((by rw [hg]; exact Nat.ne_of_lt LT6) : gb6 ≠ gb9); clear LT6 LT7; clear hb hbox hg; have h97 := Ne.symm NE79.out; have h79 := NE79.out; have hcz9_0 : w9.cell? ⟨gb9, 0, none⟩ = some (.int .i64 0) := (blk_cell BK9.out 0).trans rfl; have hfz9_0 := blk_frozen BK9.out 0; have hcz9_1 : w9.cell? ⟨gb9, 1, none⟩ = some (.bool false) := (blk_cell BK9.out 1).trans rfl; have hfz9_1 := blk_frozen BK9.out 1;have hcz7_0 : w9.cell? ⟨gb7, 0, none⟩ = some (.int .u64 0) := (blk_cell BK7.out 0).trans rfl; have hfz7_0 := blk_frozen BK7.out 0; have hcz7_1 : w9.cell? ⟨gb7, 1, none⟩ = some (.int .u64 0) := (blk_cell BK7.out 1).trans rfl; have hfz7_1 := blk_frozen BK7.out 1) | (go_at_call 42; (with_reducible refine (word_Neg.calls k a1 0 x_ xe_ _ AX.out).mono ?_); rintro e wn ⟨rfl, hb⟩; have n7_ := Aside0.mk (blk_below (blk_far (blk_far BK7.out (p := ⟨gb9, 0, none⟩) NE79.out (.int .i64 a0_0)) (p := ⟨gb9, 1, none⟩) NE79.out (.bool true)) hb); have n6_ := Aside0.mk (blk_below (blk_far (blk_far BK6.out (p := ⟨gb9, 0, none⟩) NE69.out (.int .i64 a0_0)) (p := ⟨gb9, 1, none⟩) NE69.out (.bool true)) hb); have n1_ := Aside0.mk (below_step (below_set (below_set HB.out GE9.out (j := 0) (v := .int .i64 a0_0)) GE9.out (j := 1) (v := .bool true)) hb); clear BK7 BK6 HB; have BK7 := n7_; have BK6 := n6_; have HB := n1_; clear n1_ n6_ n7_ hb; clear hcz7_0 hfz7_0 hcz7_1 hfz7_1 hcz9_0 hfz9_0 hcz9_1 hfz9_1; have hcz7_0 : wn.cell? ⟨gb7, 0, none⟩ = some (.int .u64 0) := (blk_cell BK7.out 0).trans rfl; have hfz7_0 := blk_frozen BK7.out 0))
        have f7_ := (blk_set BK7.out 0 (.int .u64 x_))
        have f6_ := (blk_far BK6.out (p := ⟨gb7, 0, none⟩) NE67.out (.int .u64 x_))
        have fb_ := (below_set HB.out GE7.out (j := 0) (v := .int .u64 x_))
        have ex_ := HX.out
        clear HX
        subst ex_
        go_wp2
        go_roundg 1
        case measure => omega
        case rel => exact ⟨1, _, _, rfl, ⟨.inr (.inl ⟨rfl, rfl, rfl, rfl⟩)⟩, ⟨f6_⟩, ⟨f7_⟩, ⟨fb_⟩⟩
      · have hz_ : (a0_0 != 0) = true := bne_iff_ne.mpr c
        have H := HP0.out
        simp only [special_box_words.p, Bool.false_eq_true, if_true, if_false, c] at H
        have HX := Aside0.mk (Option.some.inj H)
        clear H
        have C_ := Aside0.mk c
        clear c
        go_upto_region 9 with (first | ((with_reducible refine gate_dst (N := 9) rfl ?_); refine box_event ?hg (N := 9) ?hd (cs := #[.int .i64 0, .bool false]) (t := 52) ?hr ?_; (case hd => rfl); (case hg => rfl); (case hr => first | (go_simp; done) | (go_simp; rfl)); intro gb9 hg w9 hbox hb; have LT7 := blk_lt BK7.out; have LT6 := blk_lt BK6.out; have nb_ := Aside0.mk (blk_below BK6.out hb); clear BK6; have BK6 := nb_; clear nb_; have nb_ := Aside0.mk (blk_below BK7.out hb); clear BK7; have BK7 := nb_; clear nb_; have n0_ := Aside0.mk (below_step (by repeat (first | (with_reducible first | exact HB.out | apply below_alloc | apply pw_below_drewN | apply below_drew1) | exact HB.out)) hb); have n1_ := Aside0.mk hbox; have n2_ := Aside0.mk ((by rw [hg]; exact (below_size (by repeat (first | (with_reducible first | exact HB.out | apply below_alloc | apply pw_below_drewN | apply below_drew1) | exact HB.out)))) : w.heap.size ≤ gb9); clear HB; have HB := n0_; have BK9 := n1_; have GE9 := n2_; clear n0_ n1_ n2_; have NE79 := Aside0.mk ((by rw [hg]; exact Nat.ne_of_lt LT7) : gb7 ≠ gb9); have NE69 := Aside0.mk ((by rw [hg]; exact Nat.ne_of_lt LT6) : gb6 ≠ gb9); clear LT6 LT7; clear hb hbox hg; have h97 := Ne.symm NE79.out; have h79 := NE79.out; have hcz9_0 : w9.cell? ⟨gb9, 0, none⟩ = some (.int .i64 0) := (blk_cell BK9.out 0).trans rfl; have hfz9_0 := blk_frozen BK9.out 0; have hcz9_1 : w9.cell? ⟨gb9, 1, none⟩ = some (.bool false) := (blk_cell BK9.out 1).trans rfl; have hfz9_1 := blk_frozen BK9.out 1;have hcz7_0 : w9.cell? ⟨gb7, 0, none⟩ = some (.int .u64 0) := (blk_cell BK7.out 0).trans rfl; have hfz7_0 := blk_frozen BK7.out 0; have hcz7_1 : w9.cell? ⟨gb7, 1, none⟩ = some (.int .u64 0) := (blk_cell BK7.out 1).trans rfl; have hfz7_1 := blk_frozen BK7.out 1))
        have f7_ := (blk_set (blk_far (blk_far BK7.out (p := ⟨gb9, 0, none⟩) NE79.out (.int .i64 a0_0)) (p := ⟨gb9, 1, none⟩) NE79.out (.bool false)) 0 (.int .u64 a2))
        have f6_ := (blk_far (blk_far (blk_far BK6.out (p := ⟨gb9, 0, none⟩) NE69.out (.int .i64 a0_0)) (p := ⟨gb9, 1, none⟩) NE69.out (.bool false)) (p := ⟨gb7, 0, none⟩) NE67.out (.int .u64 a2))
        have fb_ := (below_set (below_set (below_set HB.out GE9.out (j := 0) (v := .int .i64 a0_0)) GE9.out (j := 1) (v := .bool false)) GE7.out (j := 0) (v := .int .u64 a2))
        go_wp2
        go_roundg 1
        case measure => omega
        case rel => exact ⟨1, _, _, rfl, ⟨.inr (.inl ⟨rfl, rfl, rfl, rfl⟩)⟩, ⟨f6_⟩, ⟨by rw [← HX.out]; exact f7_⟩, ⟨fb_⟩⟩
      · have hz_ : (a0_0 != 0) = true := bne_iff_ne.mpr c
        have H := HP0.out
        simp only [special_box_words.p, Bool.false_eq_true, if_true, if_false, c] at H
        obtain ⟨⟨x_, xe_⟩, AX_, HX_⟩ := Option.bind_eq_some_iff.mp H
        have HX := Aside0.mk (Option.some.inj HX_)
        have AX := Aside0.mk AX_
        clear AX_ HX_ H
        have C_ := Aside0.mk c
        clear c
        go_upto_region 9 with (first | ((with_reducible refine gate_dst (N := 9) rfl ?_); refine box_event ?hg (N := 9) ?hd (cs := #[.int .i64 0, .bool false]) (t := 52) ?hr ?_; (case hd => rfl); (case hg => rfl); (case hr => first | (go_simp; done) | (go_simp; rfl)); intro gb9 hg w9 hbox hb; have LT7 := blk_lt BK7.out; have LT6 := blk_lt BK6.out; have nb_ := Aside0.mk (blk_below BK6.out hb); clear BK6; have BK6 := nb_; clear nb_; have nb_ := Aside0.mk (blk_below BK7.out hb); clear BK7; have BK7 := nb_; clear nb_; have n0_ := Aside0.mk (below_step (by repeat (first | (with_reducible first | exact HB.out | apply below_alloc | apply pw_below_drewN | apply below_drew1) | exact HB.out)) hb); have n1_ := Aside0.mk hbox; have n2_ := Aside0.mk ((by rw [hg]; exact (below_size (by repeat (first | (with_reducible first | exact HB.out | apply below_alloc | apply pw_below_drewN | apply below_drew1) | exact HB.out)))) : w.heap.size ≤ gb9); clear HB; have HB := n0_; have BK9 := n1_; have GE9 := n2_; clear n0_ n1_ n2_; have NE79 := Aside0.mk ((by rw [hg]; exact Nat.ne_of_lt LT7) : gb7 ≠ gb9); have NE69 := Aside0.mk ((by rw [hg]; exact Nat.ne_of_lt LT6) : gb6 ≠ gb9); clear LT6 LT7; clear hb hbox hg; have h97 := Ne.symm NE79.out; have h79 := NE79.out; have hcz9_0 : w9.cell? ⟨gb9, 0, none⟩ = some (.int .i64 0) := (blk_cell BK9.out 0).trans rfl; have hfz9_0 := blk_frozen BK9.out 0; have hcz9_1 : w9.cell? ⟨gb9, 1, none⟩ = some (.bool false) := (blk_cell BK9.out 1).trans rfl; have hfz9_1 := blk_frozen BK9.out 1;have hcz7_0 : w9.cell? ⟨gb7, 0, none⟩ = some (.int .u64 0) := (blk_cell BK7.out 0).trans rfl; have hfz7_0 := blk_frozen BK7.out 0; have hcz7_1 : w9.cell? ⟨gb7, 1, none⟩ = some (.int .u64 0) := (blk_cell BK7.out 1).trans rfl; have hfz7_1 := blk_frozen BK7.out 1) | (go_at_call 42; (with_reducible refine (word_Neg.calls k a1 a2 x_ xe_ _ AX.out).mono ?_); rintro e wn ⟨rfl, hb⟩; have n7_ := Aside0.mk (blk_below (blk_set (blk_far (blk_far BK7.out (p := ⟨gb9, 0, none⟩) NE79.out (.int .i64 a0_0)) (p := ⟨gb9, 1, none⟩) NE79.out (.bool true)) 0 (.int .u64 a2)) hb); have n6_ := Aside0.mk (blk_below (blk_far (blk_far (blk_far BK6.out (p := ⟨gb9, 0, none⟩) NE69.out (.int .i64 a0_0)) (p := ⟨gb9, 1, none⟩) NE69.out (.bool true)) (p := ⟨gb7, 0, none⟩) NE67.out (.int .u64 a2)) hb); have n1_ := Aside0.mk (below_step (below_set (below_set (below_set HB.out GE9.out (j := 0) (v := .int .i64 a0_0)) GE9.out (j := 1) (v := .bool true)) GE7.out (j := 0) (v := .int .u64 a2)) hb); clear BK7 BK6 HB; have BK7 := n7_; have BK6 := n6_; have HB := n1_; clear n1_ n6_ n7_ hb; clear hcz7_0 hfz7_0 hcz7_1 hfz7_1 hcz9_0 hfz9_0 hcz9_1 hfz9_1; have hcz7_0 : wn.cell? ⟨gb7, 0, none⟩ = some (.int .u64 a2) := (blk_cell BK7.out 0).trans rfl; have hfz7_0 := blk_frozen BK7.out 0))
        have f7_ := (blk_set BK7.out 0 (.int .u64 x_))
        have f6_ := (blk_far BK6.out (p := ⟨gb7, 0, none⟩) NE67.out (.int .u64 x_))
        have fb_ := (below_set HB.out GE7.out (j := 0) (v := .int .u64 x_))
        have ex_ := HX.out
        clear HX
        subst ex_
        go_wp2
        go_roundg 1
        case measure => omega
        case rel => exact ⟨1, _, _, rfl, ⟨.inr (.inl ⟨rfl, rfl, rfl, rfl⟩)⟩, ⟨f6_⟩, ⟨f7_⟩, ⟨fb_⟩⟩
    · clear HI
      by_cases c : a0_2 = 0 <;> cases a0_3
      · have hz_ : (a0_2 != 0) = false := by rw [c]; rfl
        have H := HP1.out
        simp only [special_box_words.p, Bool.false_eq_true, if_true, if_false, c] at H
        have HX := Aside0.mk (Option.some.inj H)
        clear H
        have C_ := Aside0.mk c
        clear c
        go_upto_region 9 with (first | ((with_reducible refine gate_dst (N := 9) rfl ?_); refine box_event ?hg (N := 9) ?hd (cs := #[.int .i64 0, .bool false]) (t := 52) ?hr ?_; (case hd => rfl); (case hg => rfl); (case hr => first | (go_simp; done) | (go_simp; rfl)); intro gb9 hg w9 hbox hb; have LT7 := blk_lt BK7.out; have LT6 := blk_lt BK6.out; have nb_ := Aside0.mk (blk_below BK6.out hb); clear BK6; have BK6 := nb_; clear nb_; have nb_ := Aside0.mk (blk_below BK7.out hb); clear BK7; have BK7 := nb_; clear nb_; have n0_ := Aside0.mk (below_step (by repeat (first | (with_reducible first | exact HB.out | apply below_alloc | apply pw_below_drewN | apply below_drew1) | exact HB.out)) hb); have n1_ := Aside0.mk hbox; have n2_ := Aside0.mk ((by rw [hg]; exact (below_size (by repeat (first | (with_reducible first | exact HB.out | apply below_alloc | apply pw_below_drewN | apply below_drew1) | exact HB.out)))) : w.heap.size ≤ gb9); clear HB; have HB := n0_; have BK9 := n1_; have GE9 := n2_; clear n0_ n1_ n2_; have NE79 := Aside0.mk ((by rw [hg]; exact Nat.ne_of_lt LT7) : gb7 ≠ gb9); have NE69 := Aside0.mk ((by rw [hg]; exact Nat.ne_of_lt LT6) : gb6 ≠ gb9); clear LT6 LT7; clear hb hbox hg; have h97 := Ne.symm NE79.out; have h79 := NE79.out; have hcz9_0 : w9.cell? ⟨gb9, 0, none⟩ = some (.int .i64 0) := (blk_cell BK9.out 0).trans rfl; have hfz9_0 := blk_frozen BK9.out 0; have hcz9_1 : w9.cell? ⟨gb9, 1, none⟩ = some (.bool false) := (blk_cell BK9.out 1).trans rfl; have hfz9_1 := blk_frozen BK9.out 1;have hcz7_0 : w9.cell? ⟨gb7, 0, none⟩ = some (.int .u64 l0) := (blk_cell BK7.out 0).trans rfl; have hfz7_0 := blk_frozen BK7.out 0; have hcz7_1 : w9.cell? ⟨gb7, 1, none⟩ = some (.int .u64 0) := (blk_cell BK7.out 1).trans rfl; have hfz7_1 := blk_frozen BK7.out 1))
        have f7_ := (blk_far (blk_far BK7.out (p := ⟨gb9, 0, none⟩) NE79.out (.int .i64 a0_2)) (p := ⟨gb9, 1, none⟩) NE79.out (.bool false))
        have f6_ := (blk_far (blk_far BK6.out (p := ⟨gb9, 0, none⟩) NE69.out (.int .i64 a0_2)) (p := ⟨gb9, 1, none⟩) NE69.out (.bool false))
        have fb_ := (below_set (below_set HB.out GE9.out (j := 0) (v := .int .i64 a0_2)) GE9.out (j := 1) (v := .bool false))
        go_wp2
        go_roundg 0
        case measure => omega
        case rel => exact ⟨2, _, _, rfl, ⟨.inr (.inr ⟨rfl, rfl, rfl, rfl⟩)⟩, ⟨f6_⟩, ⟨by rw [← HX.out]; exact f7_⟩, ⟨fb_⟩⟩
      · have hz_ : (a0_2 != 0) = false := by rw [c]; rfl
        have H := HP1.out
        simp only [special_box_words.p, Bool.false_eq_true, if_true, if_false, c] at H
        obtain ⟨⟨x_, xe_⟩, AX_, HX_⟩ := Option.bind_eq_some_iff.mp H
        have HX := Aside0.mk (Option.some.inj HX_)
        have AX := Aside0.mk AX_
        clear AX_ HX_ H
        have C_ := Aside0.mk c
        clear c
        go_upto_region 9 with (first | ((with_reducible refine gate_dst (N := 9) rfl ?_); refine box_event ?hg (N := 9) ?hd (cs := #[.int .i64 0, .bool false]) (t := 52) ?hr ?_; (case hd => rfl); (case hg => rfl); (case hr => first | (go_simp; done) | (go_simp; rfl)); intro gb9 hg w9 hbox hb; have LT7 := blk_lt BK7.out; have LT6 := blk_lt BK6.out; have nb_ := Aside0.mk (blk_below BK6.out hb); clear BK6; have BK6 := nb_; clear nb_; have nb_ := Aside0.mk (blk_below BK7.out hb); clear BK7; have BK7 := nb_; clear nb_; have n0_ := Aside0.mk (below_step (by repeat (first | (with_reducible first | exact HB.out | apply below_alloc | apply pw_below_drewN | apply below_drew1) | exact HB.out)) hb); have n1_ := Aside0.mk hbox; have n2_ := Aside0.mk ((by rw [hg]; exact (below_size (by repeat (first | (with_reducible first | exact HB.out | apply below_alloc | apply pw_below_drewN | apply below_drew1) | exact HB.out)))) : w.heap.size ≤ gb9); clear HB; have HB := n0_; have BK9 := n1_; have GE9 := n2_; clear n0_ n1_ n2_; have NE79 := Aside0.mk ((by rw [hg]; exact Nat.ne_of_lt LT7) : gb7 ≠ gb9); have NE69 := Aside0.mk ((by rw [hg]; exact Nat.ne_of_lt LT6) : gb6 ≠ gb9); clear LT6 LT7; clear hb hbox hg; have h97 := Ne.symm NE79.out; have h79 := NE79.out; have hcz9_0 : w9.cell? ⟨gb9, 0, none⟩ = some (.int .i64 0) := (blk_cell BK9.out 0).trans rfl; have hfz9_0 := blk_frozen BK9.out 0; have hcz9_1 : w9.cell? ⟨gb9, 1, none⟩ = some (.bool false) := (blk_cell BK9.out 1).trans rfl; have hfz9_1 := blk_frozen BK9.out 1;have hcz7_0 : w9.cell? ⟨gb7, 0, none⟩ = some (.int .u64 l0) := (blk_cell BK7.out 0).trans rfl; have hfz7_0 := blk_frozen BK7.out 0; have hcz7_1 : w9.cell? ⟨gb7, 1, none⟩ = some (.int .u64 0) := (blk_cell BK7.out 1).trans rfl; have hfz7_1 := blk_frozen BK7.out 1) | (go_at_call 42; (with_reducible refine (word_Neg.calls k a1 0 x_ xe_ _ AX.out).mono ?_); rintro e wn ⟨rfl, hb⟩; have n7_ := Aside0.mk (blk_below (blk_far (blk_far BK7.out (p := ⟨gb9, 0, none⟩) NE79.out (.int .i64 a0_2)) (p := ⟨gb9, 1, none⟩) NE79.out (.bool true)) hb); have n6_ := Aside0.mk (blk_below (blk_far (blk_far BK6.out (p := ⟨gb9, 0, none⟩) NE69.out (.int .i64 a0_2)) (p := ⟨gb9, 1, none⟩) NE69.out (.bool true)) hb); have n1_ := Aside0.mk (below_step (below_set (below_set HB.out GE9.out (j := 0) (v := .int .i64 a0_2)) GE9.out (j := 1) (v := .bool true)) hb); clear BK7 BK6 HB; have BK7 := n7_; have BK6 := n6_; have HB := n1_; clear n1_ n6_ n7_ hb; clear hcz7_0 hfz7_0 hcz7_1 hfz7_1 hcz9_0 hfz9_0 hcz9_1 hfz9_1; have hcz7_1 : wn.cell? ⟨gb7, 1, none⟩ = some (.int .u64 0) := (blk_cell BK7.out 1).trans rfl; have hfz7_1 := blk_frozen BK7.out 1))
        have f7_ := (blk_set BK7.out 1 (.int .u64 x_))
        have f6_ := (blk_far BK6.out (p := ⟨gb7, 1, none⟩) NE67.out (.int .u64 x_))
        have fb_ := (below_set HB.out GE7.out (j := 1) (v := .int .u64 x_))
        have ex_ := HX.out
        clear HX
        subst ex_
        go_wp2
        go_roundg 0
        case measure => omega
        case rel => exact ⟨2, _, _, rfl, ⟨.inr (.inr ⟨rfl, rfl, rfl, rfl⟩)⟩, ⟨f6_⟩, ⟨f7_⟩, ⟨fb_⟩⟩
      · have hz_ : (a0_2 != 0) = true := bne_iff_ne.mpr c
        have H := HP1.out
        simp only [special_box_words.p, Bool.false_eq_true, if_true, if_false, c] at H
        have HX := Aside0.mk (Option.some.inj H)
        clear H
        have C_ := Aside0.mk c
        clear c
        go_upto_region 9 with (first | ((with_reducible refine gate_dst (N := 9) rfl ?_); refine box_event ?hg (N := 9) ?hd (cs := #[.int .i64 0, .bool false]) (t := 52) ?hr ?_; (case hd => rfl); (case hg => rfl); (case hr => first | (go_simp; done) | (go_simp; rfl)); intro gb9 hg w9 hbox hb; have LT7 := blk_lt BK7.out; have LT6 := blk_lt BK6.out; have nb_ := Aside0.mk (blk_below BK6.out hb); clear BK6; have BK6 := nb_; clear nb_; have nb_ := Aside0.mk (blk_below BK7.out hb); clear BK7; have BK7 := nb_; clear nb_; have n0_ := Aside0.mk (below_step (by repeat (first | (with_reducible first | exact HB.out | apply below_alloc | apply pw_below_drewN | apply below_drew1) | exact HB.out)) hb); have n1_ := Aside0.mk hbox; have n2_ := Aside0.mk ((by rw [hg]; exact (below_size (by repeat (first | (with_reducible first | exact HB.out | apply below_alloc | apply pw_below_drewN | apply below_drew1) | exact HB.out)))) : w.heap.size ≤ gb9); clear HB; have HB := n0_; have BK9 := n1_; have GE9 := n2_; clear n0_ n1_ n2_; have NE79 := Aside0.mk ((by rw [hg]; exact Nat.ne_of_lt LT7) : gb7 ≠ gb9); have NE69 := Aside0.mk ((by rw [hg]; exact Nat.ne_of_lt LT6) : gb6 ≠ gb9); clear LT6 LT7; clear hb hbox hg; have h97 := Ne.symm NE79.out; have h79 := NE79.out; have hcz9_0 : w9.cell? ⟨gb9, 0, none⟩ = some (.int .i64 0) := (blk_cell BK9.out 0).trans rfl; have hfz9_0 := blk_frozen BK9.out 0; have hcz9_1 : w9.cell? ⟨gb9, 1, none⟩ = some (.bool false) := (blk_cell BK9.out 1).trans rfl; have hfz9_1 := blk_frozen BK9.out 1;have hcz7_0 : w9.cell? ⟨gb7, 0, none⟩ = some (.int .u64 l0) := (blk_cell BK7.out 0).trans rfl; have hfz7_0 := blk_frozen BK7.out 0; have hcz7_1 : w9.cell? ⟨gb7, 1, none⟩ = some (.int .u64 0) := (blk_cell BK7.out 1).trans rfl; have hfz7_1 := blk_frozen BK7.out 1))
        have f7_ := (blk_set (blk_far (blk_far BK7.out (p := ⟨gb9, 0, none⟩) NE79.out (.int .i64 a0_2)) (p := ⟨gb9, 1, none⟩) NE79.out (.bool false)) 1 (.int .u64 a2))
        have f6_ := (blk_far (blk_far (blk_far BK6.out (p := ⟨gb9, 0, none⟩) NE69.out (.int .i64 a0_2)) (p := ⟨gb9, 1, none⟩) NE69.out (.bool false)) (p := ⟨gb7, 1, none⟩) NE67.out (.int .u64 a2))
        have fb_ := (below_set (below_set (below_set HB.out GE9.out (j := 0) (v := .int .i64 a0_2)) GE9.out (j := 1) (v := .bool false)) GE7.out (j := 1) (v := .int .u64 a2))
        go_wp2
        go_roundg 0
        case measure => omega
        case rel => exact ⟨2, _, _, rfl, ⟨.inr (.inr ⟨rfl, rfl, rfl, rfl⟩)⟩, ⟨f6_⟩, ⟨by rw [← HX.out]; exact f7_⟩, ⟨fb_⟩⟩
      · have hz_ : (a0_2 != 0) = true := bne_iff_ne.mpr c
        have H := HP1.out
        simp only [special_box_words.p, Bool.false_eq_true, if_true, if_false, c] at H
        obtain ⟨⟨x_, xe_⟩, AX_, HX_⟩ := Option.bind_eq_some_iff.mp H
        have HX := Aside0.mk (Option.some.inj HX_)
        have AX := Aside0.mk AX_
        clear AX_ HX_ H
        have C_ := Aside0.mk c
        clear c
        go_upto_region 9 with (first | ((with_reducible refine gate_dst (N := 9) rfl ?_); refine box_event ?hg (N := 9) ?hd (cs := #[.int .i64 0, .bool false]) (t := 52) ?hr ?_; (case hd => rfl); (case hg => rfl); (case hr => first | (go_simp; done) | (go_simp; rfl)); intro gb9 hg w9 hbox hb; have LT7 := blk_lt BK7.out; have LT6 := blk_lt BK6.out; have nb_ := Aside0.mk (blk_below BK6.out hb); clear BK6; have BK6 := nb_; clear nb_; have nb_ := Aside0.mk (blk_below BK7.out hb); clear BK7; have BK7 := nb_; clear nb_; have n0_ := Aside0.mk (below_step (by repeat (first | (with_reducible first | exact HB.out | apply below_alloc | apply pw_below_drewN | apply below_drew1) | exact HB.out)) hb); have n1_ := Aside0.mk hbox; have n2_ := Aside0.mk ((by rw [hg]; exact (below_size (by repeat (first | (with_reducible first | exact HB.out | apply below_alloc | apply pw_below_drewN | apply below_drew1) | exact HB.out)))) : w.heap.size ≤ gb9); clear HB; have HB := n0_; have BK9 := n1_; have GE9 := n2_; clear n0_ n1_ n2_; have NE79 := Aside0.mk ((by rw [hg]; exact Nat.ne_of_lt LT7) : gb7 ≠ gb9); have NE69 := Aside0.mk ((by rw [hg]; exact Nat.ne_of_lt LT6) : gb6 ≠ gb9); clear LT6 LT7; clear hb hbox hg; have h97 := Ne.symm NE79.out; have h79 := NE79.out; have hcz9_0 : w9.cell? ⟨gb9, 0, none⟩ = some (.int .i64 0) := (blk_cell BK9.out 0).trans rfl; have hfz9_0 := blk_frozen BK9.out 0; have hcz9_1 : w9.cell? ⟨gb9, 1, none⟩ = some (.bool false) := (blk_cell BK9.out 1).trans rfl; have hfz9_1 := blk_frozen BK9.out 1;have hcz7_0 : w9.cell? ⟨gb7, 0, none⟩ = some (.int .u64 l0) := (blk_cell BK7.out 0).trans rfl; have hfz7_0 := blk_frozen BK7.out 0; have hcz7_1 : w9.cell? ⟨gb7, 1, none⟩ = some (.int .u64 0) := (blk_cell BK7.out 1).trans rfl; have hfz7_1 := blk_frozen BK7.out 1) | (go_at_call 42; (with_reducible refine (word_Neg.calls k a1 a2 x_ xe_ _ AX.out).mono ?_); rintro e wn ⟨rfl, hb⟩; have n7_ := Aside0.mk (blk_below (blk_set (blk_far (blk_far BK7.out (p := ⟨gb9, 0, none⟩) NE79.out (.int .i64 a0_2)) (p := ⟨gb9, 1, none⟩) NE79.out (.bool true)) 1 (.int .u64 a2)) hb); have n6_ := Aside0.mk (blk_below (blk_far (blk_far (blk_far BK6.out (p := ⟨gb9, 0, none⟩) NE69.out (.int .i64 a0_2)) (p := ⟨gb9, 1, none⟩) NE69.out (.bool true)) (p := ⟨gb7, 1, none⟩) NE67.out (.int .u64 a2)) hb); have n1_ := Aside0.mk (below_step (below_set (below_set (below_set HB.out GE9.out (j := 0) (v := .int .i64 a0_2)) GE9.out (j := 1) (v := .bool true)) GE7.out (j := 1) (v := .int .u64 a2)) hb); clear BK7 BK6 HB; have BK7 := n7_; have BK6 := n6_; have HB := n1_; clear n1_ n6_ n7_ hb; clear hcz7_0 hfz7_0 hcz7_1 hfz7_1 hcz9_0 hfz9_0 hcz9_1 hfz9_1; have hcz7_1 : wn.cell? ⟨gb7, 1, none⟩ = some (.int .u64 a2) := (blk_cell BK7.out 1).trans rfl; have hfz7_1 := blk_frozen BK7.out 1))
        have f7_ := (blk_set BK7.out 1 (.int .u64 x_))
        have f6_ := (blk_far BK6.out (p := ⟨gb7, 1, none⟩) NE67.out (.int .u64 x_))
        have fb_ := (below_set HB.out GE7.out (j := 1) (v := .int .u64 x_))
        have ex_ := HX.out
        clear HX
        subst ex_
        go_wp2
        go_roundg 0
        case measure => omega
        case rel => exact ⟨2, _, _, rfl, ⟨.inr (.inr ⟨rfl, rfl, rfl, rfl⟩)⟩, ⟨f6_⟩, ⟨f7_⟩, ⟨fb_⟩⟩
    · clear HI
      have hcz7_0 : wr.cell? ⟨gb7, 0, none⟩ = some (.int .u64 l0) := (blk_cell BK7.out 0).trans rfl
      have hfz7_0 := blk_frozen BK7.out 0
      have hcz7_1 : wr.cell? ⟨gb7, 1, none⟩ = some (.int .u64 l1) := (blk_cell BK7.out 1).trans rfl
      have hfz7_1 := blk_frozen BK7.out 1
      have hcz6_0 : wr.cell? ⟨gb6, 0, none⟩ = some (.int .u64 0) := (blk_cell BK6.out 0).trans rfl
      have hfz6_0 := blk_frozen BK6.out 0
      have hcz6_1 : wr.cell? ⟨gb6, 1, none⟩ = some (.int .u64 0) := (blk_cell BK6.out 1).trans rfl
      have hfz6_1 := blk_frozen BK6.out 1
      go_wp2
      refine bodyPost_ret (v := .agg #[.int .u64 l0, .int .u64 l1]) ?_ rfl ⟨rfl, below_set (below_set HB.out GE6.out) GE6.out⟩
      simp [results, Try.results21, go_sem, hcz6_0, hcz6_1]
end Go.Proofs.Ytlgapmhjaaajfaa.PA
end
