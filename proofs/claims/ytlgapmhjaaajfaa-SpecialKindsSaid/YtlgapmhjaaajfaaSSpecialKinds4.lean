/- Steps of Go functions that the law SpecialKinds uses, told as plain Lean functions, each with the proof that its call comes to what it tells; words on memory; plain facts. No condition beyond those that each text names. -/
import Derived.Test.YtlgapmhjaaajfaaProg
import Derived.WalkMore
import Derived.Below
import Derived.Deep.Draws
import Derived.Deep.AppendLies
import Derived.Maps.AppendAt
import Derived.OwnWalk
import Derived.Laws.BytesArg
import Derived.Laws.MakeOwn
import Derived.Laws.OwnMore
import Derived.Deep.OwnRows
import Derived.Tactics
import Derived.Lib.ConvBytes
import Derived.Laws.Slices
import Derived.WalkKit
import Derived.KernelRfl
import Derived.RowKit3
import Derived.Deep.LoopGhost
import Derived.Deep.QuietTactic
import Derived.BigQuiet
import Derived.WideLaws
import Derived.Deep.DeepCutAuto
import Derived.Deep.CutBlock
import Derived.Deep.RegionHeld3
import Derived.Laws.Rows
import Derived.Lib.AppendStr
import Derived.ArgAppend
import Derived.Laws.IdiomCopy
import Derived.OrdersHeld
import Derived.Laws.BitsLemmas
import Derived.RowKit
import Derived.Laws.StructEq
import Derived.Test.YtlgapmhjaaajfaaSSpecialKinds0
import Derived.Test.YtlgapmhjaaajfaaSSpecialKinds1
import Derived.Test.YtlgapmhjaaajfaaSSpecialKinds2
import Derived.Test.YtlgapmhjaaajfaaSSpecialKinds3
section
namespace Go.Proofs.Ytlgapmhjaaajfaa.PA
open Go.RowKit Go.Proofs.YtlgapmhjaaajfaaW.PrintWords Go.Proofs.YtlgapmhjaaajfaaW.PrintLast Go.Proofs.YtlgapmhjaaajfaaW.PrintMore
attribute [local go_sem] max2_int min2_int max_two min_two max_three min_three max_four min_four   -- for this text's walks alone
set_option linter.unusedVariables false
set_option linter.unusedSimpArgs false
/-- a part of the number: what is not nought becomes a word of the size -/
def special_box_words.p (k : Nat) (f n : Int) (g : Bool) (size : Int) : Option Int := if g then (word_Neg.f k f (if n = 0 then 0 else size)).bind fun x => some x.1 else some (if n = 0 then 0 else size)
def special_box_words.f (k : Nat) (a0_0 : Int) (a0_1 : Bool) (a0_2 : Int) (a0_3 : Bool) (a1 a2 : Int) : Option (Int × Int) := (special_box_words.p k a1 a0_0 a0_1 a2).bind fun x => (special_box_words.p k a1 a0_2 a0_3 a2).bind fun y => some (x, y)
theorem special_box_words.mono_p (k : Nat) (f n : Int) (g : Bool) (size : Int) : LeO (special_box_words.p k f n g size) (special_box_words.p (k + 1) f n g size) := by
 unfold special_box_words.p
 exact LeO.ite (LeO.bind (word_Neg.mono _ _ _) (fun _ => LeO.refl _)) (LeO.refl _)
theorem special_box_words.mono : ∀ a0 a1 a2 a3 a4 a5 k, LeO (special_box_words.f k a0 a1 a2 a3 a4 a5) (special_box_words.f (k + 1) a0 a1 a2 a3 a4 a5) := by
 intro a0 a1 a2 a3 a4 a5 k
 unfold special_box_words.f
 exact LeO.bind (special_box_words.mono_p _ _ _ _ _) (fun _ => LeO.bind (special_box_words.mono_p _ _ _ _ _) (fun _ => LeO.refl _))
set_option maxHeartbeats 4000000 in
set_option maxRecDepth 100000 in
theorem special_box_words.calls (k : Nat) (a0_0 : Int) (a0_1 : Bool) (a0_2 : Int) (a0_3 : Bool) (a1 : Int) (a2 : Int) (r1 : Int) (r2 : Int) (w : World) (h : special_box_words.f k a0_0 a0_1 a0_2 a0_3 a1 a2 = some (r1, r2)) :
  Calls Try.prog 21 #[.agg #[.int .i64 a0_0, .bool a0_1, .int .i64 a0_2, .bool a0_3], .int .u8 a1, .int .u64 a2] w fun e w' => e = .returned (.agg #[.int .u64 r1, .int .u64 r2]) ∧ Below w.heap.size w w' := by
 have hix0 : ∀ w : World, (Instr.index 54 (.agg #[.int .i64 a0_0, .bool a0_1, .int .i64 a0_2, .bool a0_3]) (.int .i64 0)).run Try.prog w = .ok (.agg #[.int .i64 a0_0, .bool a0_1]) w := fun _ => by kernel_rfl
 have hix1 : ∀ w : World, (Instr.index 54 (.agg #[.int .i64 a0_0, .bool a0_1, .int .i64 a0_2, .bool a0_3]) (.int .i64 1)).run Try.prog w = .ok (.agg #[.int .i64 a0_2, .bool a0_3]) w := fun _ => by kernel_rfl
 have hia0 : ∀ (g : Nat) (w : World), (Instr.indexAt 87 (.pointer (some ⟨g, 0, none⟩)) (.int .i64 0)).run Try.prog w = .ok (.pointer (some ⟨g, 0, none⟩)) w := fun _ _ => by kernel_rfl
 have hia1 : ∀ (g : Nat) (w : World), (Instr.indexAt 87 (.pointer (some ⟨g, 0, none⟩)) (.int .i64 1)).run Try.prog w = .ok (.pointer (some ⟨g, 1, none⟩)) w := fun _ _ => by kernel_rfl
 have HB := A0_ (Below.refl w.heap.size w)
 unfold special_box_words.f at h
 obtain ⟨p0, hp0, h⟩ := Option.bind_eq_some_iff.mp h
 obtain ⟨p1, hp1, h⟩ := Option.bind_eq_some_iff.mp h
 simp only [Option.some.injEq, Prod.mk.injEq] at h
 obtain ⟨rfl, rfl⟩ := h
 have HP0 := A0_ hp0
 have HP1 := A0_ hp1
 clear hp0 hp1
 go_enter Try.func21, Try.ntmps21
 go_wp2_with (first | ((with_reducible refine gate_dst (N := 3) rfl ?_); refine box_event ?hg (N := 3) ?hd (cs := #[.int .i64 a0_0, .bool a0_1, .int .i64 a0_2, .bool a0_3]) (t := 54) ?hr ?_; (case hd => rfl); (case hg => rfl); (case hr => first | (go_simp; done) | (go_simp; rfl)); intro gb3 hg w3 hbox hb;  have n0_ := A0_ (below_step (qm_ HB.out) hb); have n1_ := A0_ hbox; have n2_ := A0_ ((by rw [hg]; exact (below_size (qm_ HB.out))) : w.heap.size ≤ gb3); clear HB; have HB := n0_; have BK3 := n1_; have GE3 := n2_; clear n0_ n1_ n2_; clear hb hbox hg; have hcz3 := bc4_ BK3.out) | ((with_reducible refine gate_dst (N := 6) rfl ?_); refine box_event ?hg (N := 6) ?hd (cs := #[.int .u64 0, .int .u64 0]) (t := 26) ?hr ?_; (case hd => rfl); (case hg => rfl); (case hr => first | (go_simp; done) | (go_simp; rfl)); intro gb6 hg w6 hbox hb; clear hcz3; have nb_ := A0_ (blk_below BK3.out hb); clear BK3; have BK3 := nb_; clear nb_;  have n0_ := A0_ (below_step (qm_ HB.out) hb); have n1_ := A0_ hbox; have n2_ := A0_ ((by rw [hg]; exact (below_size (qm_ HB.out))) : w.heap.size ≤ gb6); clear HB; have HB := n0_; have BK6 := n1_; have GE6 := n2_; clear n0_ n1_ n2_; clear hb hbox hg; have hcz3 := bc4_ BK3.out) | ((with_reducible refine gate_dst (N := 7) rfl ?_); refine box_event ?hg (N := 7) ?hd (cs := #[.int .u64 0, .int .u64 0]) (t := 87) ?hr ?_; (case hd => rfl); (case hg => rfl); (case hr => first | (go_simp; done) | (go_simp; rfl)); intro gb7 hg w7 hbox hb; have LT6 := blk_lt BK6.out; clear hcz3; have nb_ := A0_ (blk_below BK3.out hb); clear BK3; have BK3 := nb_; clear nb_; have nb_ := A0_ (blk_below BK6.out hb); clear BK6; have BK6 := nb_; clear nb_; have n0_ := A0_ (below_step (qm_ HB.out) hb); have n1_ := A0_ hbox; have n2_ := A0_ ((by rw [hg]; exact (below_size (qm_ HB.out))) : w.heap.size ≤ gb7); clear HB; have HB := n0_; have BK7 := n1_; have GE7 := n2_; clear n0_ n1_ n2_; have NE67 := A0_ ((by rw [hg]; exact Nat.ne_of_lt LT6) : gb6 ≠ gb7); clear LT6; clear hb hbox hg; have hcz3 := bc4_ BK3.out))
 clear hcz3 BK3
 go_loopg [11] 2 (fun kq v11 w' => ∃ (i l0 l1 : Int), v11 = .int .i64 i ∧ Aside0 ((i = 0 ∧ kq = 2 ∧ l0 = 0 ∧ l1 = 0) ∨ (i = 1 ∧ kq = 1 ∧ l0 = p0 ∧ l1 = 0) ∨ (i = 2 ∧ kq = 0 ∧ l0 = p0 ∧ l1 = p1)) ∧ Aside0 (w'.heap[gb6]? = some (.cells #[.int .u64 0, .int .u64 0] 26 (0, 0))) ∧ Aside0 (w'.heap[gb7]? = some (.cells #[.int .u64 l0, .int .u64 l1] 87 (0, 0))) ∧ Aside0 (Below w.heap.size w w'))
 case atStart => exact ⟨0, 0, 0, rfl, ⟨.inl ⟨rfl, rfl, rfl, rfl⟩⟩, BK6, BK7, HB⟩
 case round =>
  clear BK6 BK7 HB
  obtain ⟨i, l0, l1, rfl, HI, BK6, BK7, HB⟩ := hrel
  rcases HI.out with ⟨rfl, rfl, rfl, rfl⟩ | ⟨rfl, rfl, rfl, rfl⟩ | ⟨rfl, rfl, rfl, rfl⟩
  ·clear HI
   by_cases c : a0_0 = 0 <;> cases a0_1
   ·have hz_ : (a0_0 != 0) = false := by rw [c]; rfl
    have H := HP0.out
    simp only [special_box_words.p, Bool.false_eq_true, if_true, if_false, c] at H
    have HX := A0_ (Option.some.inj H)
    clear H
    have C_ := A0_ c
    clear c
    go_upto_region 9 with (first | ((with_reducible refine gate_dst (N := 9) rfl ?_); refine box_event ?hg (N := 9) ?hd (cs := #[.int .i64 0, .bool false]) (t := 52) ?hr ?_; (case hd => rfl); (case hg => rfl); (case hr => first | (go_simp; done) | (go_simp; rfl)); intro gb9 hg w9 hbox hb; have LT7 := blk_lt BK7.out; have LT6 := blk_lt BK6.out; have nb_ := A0_ (blk_below BK6.out hb); clear BK6; have BK6 := nb_; clear nb_; have nb_ := A0_ (blk_below BK7.out hb); clear BK7; have BK7 := nb_; clear nb_; have n0_ := A0_ (below_step (qm_ HB.out) hb); have n1_ := A0_ hbox; have n2_ := A0_ ((by rw [hg]; exact (below_size (qm_ HB.out))) : w.heap.size ≤ gb9); clear HB; have HB := n0_; have BK9 := n1_; have GE9 := n2_; clear n0_ n1_ n2_; have NE79 := A0_ ((by rw [hg]; exact Nat.ne_of_lt LT7) : gb7 ≠ gb9); have NE69 := A0_ ((by rw [hg]; exact Nat.ne_of_lt LT6) : gb6 ≠ gb9); clear LT6 LT7; clear hb hbox hg; have h97 := Ne.symm NE79.out; have h79 := NE79.out; have hcz9_0 : w9.cell? ⟨gb9, 0, none⟩ = some (.int .i64 0) := (blk_cell BK9.out 0).trans rfl; have hfz9_0 := blk_frozen BK9.out 0; have hcz9_1 : w9.cell? ⟨gb9, 1, none⟩ = some (.bool false) := (blk_cell BK9.out 1).trans rfl; have hfz9_1 := blk_frozen BK9.out 1;have hcz7_0 : w9.cell? ⟨gb7, 0, none⟩ = some (.int .u64 0) := (blk_cell BK7.out 0).trans rfl; have hfz7_0 := blk_frozen BK7.out 0; have hcz7_1 : w9.cell? ⟨gb7, 1, none⟩ = some (.int .u64 0) := (blk_cell BK7.out 1).trans rfl; have hfz7_1 := blk_frozen BK7.out 1))
    have f7_ := (blk_far (blk_far BK7.out (p := ⟨gb9, 0, none⟩) NE79.out (.int .i64 a0_0)) (p := ⟨gb9, 1, none⟩) NE79.out (.bool false))
    have f6_ := (blk_far (blk_far BK6.out (p := ⟨gb9, 0, none⟩) NE69.out (.int .i64 a0_0)) (p := ⟨gb9, 1, none⟩) NE69.out (.bool false))
    have fb_ := (below_set (below_set HB.out GE9.out (j := 0) (v := .int .i64 a0_0)) GE9.out (j := 1) (v := .bool false))
    go_wp2
    go_roundg 1
    case measure => omega
    case rel => exact ⟨1, _, _, rfl, ⟨.inr (.inl ⟨rfl, rfl, rfl, rfl⟩)⟩, ⟨f6_⟩, ⟨by rw [← HX.out]; exact f7_⟩, ⟨fb_⟩⟩
   ·have hz_ : (a0_0 != 0) = false := by rw [c]; rfl
    have H := HP0.out
    simp only [special_box_words.p, Bool.false_eq_true, if_true, if_false, c] at H
    obtain ⟨⟨x_, xe_⟩, AX_, HX_⟩ := Option.bind_eq_some_iff.mp H
    have HX := A0_ (Option.some.inj HX_)
    have AX := A0_ AX_
    clear AX_ HX_ H
    have C_ := A0_ c
    clear c
    go_upto_region 9 with (first | ((with_reducible refine gate_dst (N := 9) rfl ?_); refine box_event ?hg (N := 9) ?hd (cs := #[.int .i64 0, .bool false]) (t := 52) ?hr ?_; (case hd => rfl); (case hg => rfl); (case hr => first | (go_simp; done) | (go_simp; rfl)); intro gb9 hg w9 hbox hb; have LT7 := blk_lt BK7.out; have LT6 := blk_lt BK6.out; have nb_ := A0_ (blk_below BK6.out hb); clear BK6; have BK6 := nb_; clear nb_; have nb_ := A0_ (blk_below BK7.out hb); clear BK7; have BK7 := nb_; clear nb_; have n0_ := A0_ (below_step (qm_ HB.out) hb); have n1_ := A0_ hbox; have n2_ := A0_ ((by rw [hg]; exact (below_size (qm_ HB.out))) : w.heap.size ≤ gb9); clear HB; have HB := n0_; have BK9 := n1_; have GE9 := n2_; clear n0_ n1_ n2_; have NE79 := A0_ ((by rw [hg]; exact Nat.ne_of_lt LT7) : gb7 ≠ gb9); have NE69 := A0_ ((by rw [hg]; exact Nat.ne_of_lt LT6) : gb6 ≠ gb9); clear LT6 LT7; clear hb hbox hg; have h97 := Ne.symm NE79.out; have h79 := NE79.out; have hcz9_0 : w9.cell? ⟨gb9, 0, none⟩ = some (.int .i64 0) := (blk_cell BK9.out 0).trans rfl; have hfz9_0 := blk_frozen BK9.out 0; have hcz9_1 : w9.cell? ⟨gb9, 1, none⟩ = some (.bool false) := (blk_cell BK9.out 1).trans rfl; have hfz9_1 := blk_frozen BK9.out 1;have hcz7_0 : w9.cell? ⟨gb7, 0, none⟩ = some (.int .u64 0) := (blk_cell BK7.out 0).trans rfl; have hfz7_0 := blk_frozen BK7.out 0; have hcz7_1 : w9.cell? ⟨gb7, 1, none⟩ = some (.int .u64 0) := (blk_cell BK7.out 1).trans rfl; have hfz7_1 := blk_frozen BK7.out 1) | (go_at_call 42; (with_reducible refine (word_Neg.calls k a1 0 x_ xe_ _ AX.out).mono ?_); rintro e wn ⟨rfl, hb⟩; have n7_ := A0_ (blk_below (blk_far (blk_far BK7.out (p := ⟨gb9, 0, none⟩) NE79.out (.int .i64 a0_0)) (p := ⟨gb9, 1, none⟩) NE79.out (.bool true)) hb); have n6_ := A0_ (blk_below (blk_far (blk_far BK6.out (p := ⟨gb9, 0, none⟩) NE69.out (.int .i64 a0_0)) (p := ⟨gb9, 1, none⟩) NE69.out (.bool true)) hb); have n1_ := A0_ (below_step (below_set (below_set HB.out GE9.out (j := 0) (v := .int .i64 a0_0)) GE9.out (j := 1) (v := .bool true)) hb); clear BK7 BK6 HB; have BK7 := n7_; have BK6 := n6_; have HB := n1_; clear n1_ n6_ n7_ hb; clear hcz7_0 hfz7_0 hcz7_1 hfz7_1 hcz9_0 hfz9_0 hcz9_1 hfz9_1; have hcz7_0 : wn.cell? ⟨gb7, 0, none⟩ = some (.int .u64 0) := (blk_cell BK7.out 0).trans rfl; have hfz7_0 := blk_frozen BK7.out 0))
    have f7_ := (blk_set BK7.out 0 (.int .u64 x_))
    have f6_ := (blk_far BK6.out (p := ⟨gb7, 0, none⟩) NE67.out (.int .u64 x_))
    have fb_ := (below_set HB.out GE7.out (j := 0) (v := .int .u64 x_))
    have ex_ := HX.out
    clear HX
    subst ex_
    go_wp2
    go_roundg 1
    case measure => omega
    case rel => exact ⟨1, _, _, rfl, ⟨.inr (.inl ⟨rfl, rfl, rfl, rfl⟩)⟩, ⟨f6_⟩, ⟨f7_⟩, ⟨fb_⟩⟩
   ·have hz_ : (a0_0 != 0) = true := bne_iff_ne.mpr c
    have H := HP0.out
    simp only [special_box_words.p, Bool.false_eq_true, if_true, if_false, c] at H
    have HX := A0_ (Option.some.inj H)
    clear H
    have C_ := A0_ c
    clear c
    go_upto_region 9 with (first | ((with_reducible refine gate_dst (N := 9) rfl ?_); refine box_event ?hg (N := 9) ?hd (cs := #[.int .i64 0, .bool false]) (t := 52) ?hr ?_; (case hd => rfl); (case hg => rfl); (case hr => first | (go_simp; done) | (go_simp; rfl)); intro gb9 hg w9 hbox hb; have LT7 := blk_lt BK7.out; have LT6 := blk_lt BK6.out; have nb_ := A0_ (blk_below BK6.out hb); clear BK6; have BK6 := nb_; clear nb_; have nb_ := A0_ (blk_below BK7.out hb); clear BK7; have BK7 := nb_; clear nb_; have n0_ := A0_ (below_step (qm_ HB.out) hb); have n1_ := A0_ hbox; have n2_ := A0_ ((by rw [hg]; exact (below_size (qm_ HB.out))) : w.heap.size ≤ gb9); clear HB; have HB := n0_; have BK9 := n1_; have GE9 := n2_; clear n0_ n1_ n2_; have NE79 := A0_ ((by rw [hg]; exact Nat.ne_of_lt LT7) : gb7 ≠ gb9); have NE69 := A0_ ((by rw [hg]; exact Nat.ne_of_lt LT6) : gb6 ≠ gb9); clear LT6 LT7; clear hb hbox hg; have h97 := Ne.symm NE79.out; have h79 := NE79.out; have hcz9_0 : w9.cell? ⟨gb9, 0, none⟩ = some (.int .i64 0) := (blk_cell BK9.out 0).trans rfl; have hfz9_0 := blk_frozen BK9.out 0; have hcz9_1 : w9.cell? ⟨gb9, 1, none⟩ = some (.bool false) := (blk_cell BK9.out 1).trans rfl; have hfz9_1 := blk_frozen BK9.out 1;have hcz7_0 : w9.cell? ⟨gb7, 0, none⟩ = some (.int .u64 0) := (blk_cell BK7.out 0).trans rfl; have hfz7_0 := blk_frozen BK7.out 0; have hcz7_1 : w9.cell? ⟨gb7, 1, none⟩ = some (.int .u64 0) := (blk_cell BK7.out 1).trans rfl; have hfz7_1 := blk_frozen BK7.out 1))
    have f7_ := (blk_set (blk_far (blk_far BK7.out (p := ⟨gb9, 0, none⟩) NE79.out (.int .i64 a0_0)) (p := ⟨gb9, 1, none⟩) NE79.out (.bool false)) 0 (.int .u64 a2))
    have f6_ := (blk_far (blk_far (blk_far BK6.out (p := ⟨gb9, 0, none⟩) NE69.out (.int .i64 a0_0)) (p := ⟨gb9, 1, none⟩) NE69.out (.bool false)) (p := ⟨gb7, 0, none⟩) NE67.out (.int .u64 a2))
    have fb_ := (below_set (below_set (below_set HB.out GE9.out (j := 0) (v := .int .i64 a0_0)) GE9.out (j := 1) (v := .bool false)) GE7.out (j := 0) (v := .int .u64 a2))
    go_wp2
    go_roundg 1
    case measure => omega
    case rel => exact ⟨1, _, _, rfl, ⟨.inr (.inl ⟨rfl, rfl, rfl, rfl⟩)⟩, ⟨f6_⟩, ⟨by rw [← HX.out]; exact f7_⟩, ⟨fb_⟩⟩
   ·have hz_ : (a0_0 != 0) = true := bne_iff_ne.mpr c
    have H := HP0.out
    simp only [special_box_words.p, Bool.false_eq_true, if_true, if_false, c] at H
    obtain ⟨⟨x_, xe_⟩, AX_, HX_⟩ := Option.bind_eq_some_iff.mp H
    have HX := A0_ (Option.some.inj HX_)
    have AX := A0_ AX_
    clear AX_ HX_ H
    have C_ := A0_ c
    clear c
    go_upto_region 9 with (first | ((with_reducible refine gate_dst (N := 9) rfl ?_); refine box_event ?hg (N := 9) ?hd (cs := #[.int .i64 0, .bool false]) (t := 52) ?hr ?_; (case hd => rfl); (case hg => rfl); (case hr => first | (go_simp; done) | (go_simp; rfl)); intro gb9 hg w9 hbox hb; have LT7 := blk_lt BK7.out; have LT6 := blk_lt BK6.out; have nb_ := A0_ (blk_below BK6.out hb); clear BK6; have BK6 := nb_; clear nb_; have nb_ := A0_ (blk_below BK7.out hb); clear BK7; have BK7 := nb_; clear nb_; have n0_ := A0_ (below_step (qm_ HB.out) hb); have n1_ := A0_ hbox; have n2_ := A0_ ((by rw [hg]; exact (below_size (qm_ HB.out))) : w.heap.size ≤ gb9); clear HB; have HB := n0_; have BK9 := n1_; have GE9 := n2_; clear n0_ n1_ n2_; have NE79 := A0_ ((by rw [hg]; exact Nat.ne_of_lt LT7) : gb7 ≠ gb9); have NE69 := A0_ ((by rw [hg]; exact Nat.ne_of_lt LT6) : gb6 ≠ gb9); clear LT6 LT7; clear hb hbox hg; have h97 := Ne.symm NE79.out; have h79 := NE79.out; have hcz9_0 : w9.cell? ⟨gb9, 0, none⟩ = some (.int .i64 0) := (blk_cell BK9.out 0).trans rfl; have hfz9_0 := blk_frozen BK9.out 0; have hcz9_1 : w9.cell? ⟨gb9, 1, none⟩ = some (.bool false) := (blk_cell BK9.out 1).trans rfl; have hfz9_1 := blk_frozen BK9.out 1;have hcz7_0 : w9.cell? ⟨gb7, 0, none⟩ = some (.int .u64 0) := (blk_cell BK7.out 0).trans rfl; have hfz7_0 := blk_frozen BK7.out 0; have hcz7_1 : w9.cell? ⟨gb7, 1, none⟩ = some (.int .u64 0) := (blk_cell BK7.out 1).trans rfl; have hfz7_1 := blk_frozen BK7.out 1) | (go_at_call 42; (with_reducible refine (word_Neg.calls k a1 a2 x_ xe_ _ AX.out).mono ?_); rintro e wn ⟨rfl, hb⟩; have n7_ := A0_ (blk_below (blk_set (blk_far (blk_far BK7.out (p := ⟨gb9, 0, none⟩) NE79.out (.int .i64 a0_0)) (p := ⟨gb9, 1, none⟩) NE79.out (.bool true)) 0 (.int .u64 a2)) hb); have n6_ := A0_ (blk_below (blk_far (blk_far (blk_far BK6.out (p := ⟨gb9, 0, none⟩) NE69.out (.int .i64 a0_0)) (p := ⟨gb9, 1, none⟩) NE69.out (.bool true)) (p := ⟨gb7, 0, none⟩) NE67.out (.int .u64 a2)) hb); have n1_ := A0_ (below_step (below_set (below_set (below_set HB.out GE9.out (j := 0) (v := .int .i64 a0_0)) GE9.out (j := 1) (v := .bool true)) GE7.out (j := 0) (v := .int .u64 a2)) hb); clear BK7 BK6 HB; have BK7 := n7_; have BK6 := n6_; have HB := n1_; clear n1_ n6_ n7_ hb; clear hcz7_0 hfz7_0 hcz7_1 hfz7_1 hcz9_0 hfz9_0 hcz9_1 hfz9_1; have hcz7_0 : wn.cell? ⟨gb7, 0, none⟩ = some (.int .u64 a2) := (blk_cell BK7.out 0).trans rfl; have hfz7_0 := blk_frozen BK7.out 0))
    have f7_ := (blk_set BK7.out 0 (.int .u64 x_))
    have f6_ := (blk_far BK6.out (p := ⟨gb7, 0, none⟩) NE67.out (.int .u64 x_))
    have fb_ := (below_set HB.out GE7.out (j := 0) (v := .int .u64 x_))
    have ex_ := HX.out
    clear HX
    subst ex_
    go_wp2
    go_roundg 1
    case measure => omega
    case rel => exact ⟨1, _, _, rfl, ⟨.inr (.inl ⟨rfl, rfl, rfl, rfl⟩)⟩, ⟨f6_⟩, ⟨f7_⟩, ⟨fb_⟩⟩
  ·clear HI
   by_cases c : a0_2 = 0 <;> cases a0_3
   ·have hz_ : (a0_2 != 0) = false := by rw [c]; rfl
    have H := HP1.out
    simp only [special_box_words.p, Bool.false_eq_true, if_true, if_false, c] at H
    have HX := A0_ (Option.some.inj H)
    clear H
    have C_ := A0_ c
    clear c
    go_upto_region 9 with (first | ((with_reducible refine gate_dst (N := 9) rfl ?_); refine box_event ?hg (N := 9) ?hd (cs := #[.int .i64 0, .bool false]) (t := 52) ?hr ?_; (case hd => rfl); (case hg => rfl); (case hr => first | (go_simp; done) | (go_simp; rfl)); intro gb9 hg w9 hbox hb; have LT7 := blk_lt BK7.out; have LT6 := blk_lt BK6.out; have nb_ := A0_ (blk_below BK6.out hb); clear BK6; have BK6 := nb_; clear nb_; have nb_ := A0_ (blk_below BK7.out hb); clear BK7; have BK7 := nb_; clear nb_; have n0_ := A0_ (below_step (qm_ HB.out) hb); have n1_ := A0_ hbox; have n2_ := A0_ ((by rw [hg]; exact (below_size (qm_ HB.out))) : w.heap.size ≤ gb9); clear HB; have HB := n0_; have BK9 := n1_; have GE9 := n2_; clear n0_ n1_ n2_; have NE79 := A0_ ((by rw [hg]; exact Nat.ne_of_lt LT7) : gb7 ≠ gb9); have NE69 := A0_ ((by rw [hg]; exact Nat.ne_of_lt LT6) : gb6 ≠ gb9); clear LT6 LT7; clear hb hbox hg; have h97 := Ne.symm NE79.out; have h79 := NE79.out; have hcz9_0 : w9.cell? ⟨gb9, 0, none⟩ = some (.int .i64 0) := (blk_cell BK9.out 0).trans rfl; have hfz9_0 := blk_frozen BK9.out 0; have hcz9_1 : w9.cell? ⟨gb9, 1, none⟩ = some (.bool false) := (blk_cell BK9.out 1).trans rfl; have hfz9_1 := blk_frozen BK9.out 1;have hcz7_0 : w9.cell? ⟨gb7, 0, none⟩ = some (.int .u64 l0) := (blk_cell BK7.out 0).trans rfl; have hfz7_0 := blk_frozen BK7.out 0; have hcz7_1 : w9.cell? ⟨gb7, 1, none⟩ = some (.int .u64 0) := (blk_cell BK7.out 1).trans rfl; have hfz7_1 := blk_frozen BK7.out 1))
    have f7_ := (blk_far (blk_far BK7.out (p := ⟨gb9, 0, none⟩) NE79.out (.int .i64 a0_2)) (p := ⟨gb9, 1, none⟩) NE79.out (.bool false))
    have f6_ := (blk_far (blk_far BK6.out (p := ⟨gb9, 0, none⟩) NE69.out (.int .i64 a0_2)) (p := ⟨gb9, 1, none⟩) NE69.out (.bool false))
    have fb_ := (below_set (below_set HB.out GE9.out (j := 0) (v := .int .i64 a0_2)) GE9.out (j := 1) (v := .bool false))
    go_wp2
    go_roundg 0
    case measure => omega
    case rel => exact ⟨2, _, _, rfl, ⟨.inr (.inr ⟨rfl, rfl, rfl, rfl⟩)⟩, ⟨f6_⟩, ⟨by rw [← HX.out]; exact f7_⟩, ⟨fb_⟩⟩
   ·have hz_ : (a0_2 != 0) = false := by rw [c]; rfl
    have H := HP1.out
    simp only [special_box_words.p, Bool.false_eq_true, if_true, if_false, c] at H
    obtain ⟨⟨x_, xe_⟩, AX_, HX_⟩ := Option.bind_eq_some_iff.mp H
    have HX := A0_ (Option.some.inj HX_)
    have AX := A0_ AX_
    clear AX_ HX_ H
    have C_ := A0_ c
    clear c
    go_upto_region 9 with (first | ((with_reducible refine gate_dst (N := 9) rfl ?_); refine box_event ?hg (N := 9) ?hd (cs := #[.int .i64 0, .bool false]) (t := 52) ?hr ?_; (case hd => rfl); (case hg => rfl); (case hr => first | (go_simp; done) | (go_simp; rfl)); intro gb9 hg w9 hbox hb; have LT7 := blk_lt BK7.out; have LT6 := blk_lt BK6.out; have nb_ := A0_ (blk_below BK6.out hb); clear BK6; have BK6 := nb_; clear nb_; have nb_ := A0_ (blk_below BK7.out hb); clear BK7; have BK7 := nb_; clear nb_; have n0_ := A0_ (below_step (qm_ HB.out) hb); have n1_ := A0_ hbox; have n2_ := A0_ ((by rw [hg]; exact (below_size (qm_ HB.out))) : w.heap.size ≤ gb9); clear HB; have HB := n0_; have BK9 := n1_; have GE9 := n2_; clear n0_ n1_ n2_; have NE79 := A0_ ((by rw [hg]; exact Nat.ne_of_lt LT7) : gb7 ≠ gb9); have NE69 := A0_ ((by rw [hg]; exact Nat.ne_of_lt LT6) : gb6 ≠ gb9); clear LT6 LT7; clear hb hbox hg; have h97 := Ne.symm NE79.out; have h79 := NE79.out; have hcz9_0 : w9.cell? ⟨gb9, 0, none⟩ = some (.int .i64 0) := (blk_cell BK9.out 0).trans rfl; have hfz9_0 := blk_frozen BK9.out 0; have hcz9_1 : w9.cell? ⟨gb9, 1, none⟩ = some (.bool false) := (blk_cell BK9.out 1).trans rfl; have hfz9_1 := blk_frozen BK9.out 1;have hcz7_0 : w9.cell? ⟨gb7, 0, none⟩ = some (.int .u64 l0) := (blk_cell BK7.out 0).trans rfl; have hfz7_0 := blk_frozen BK7.out 0; have hcz7_1 : w9.cell? ⟨gb7, 1, none⟩ = some (.int .u64 0) := (blk_cell BK7.out 1).trans rfl; have hfz7_1 := blk_frozen BK7.out 1) | (go_at_call 42; (with_reducible refine (word_Neg.calls k a1 0 x_ xe_ _ AX.out).mono ?_); rintro e wn ⟨rfl, hb⟩; have n7_ := A0_ (blk_below (blk_far (blk_far BK7.out (p := ⟨gb9, 0, none⟩) NE79.out (.int .i64 a0_2)) (p := ⟨gb9, 1, none⟩) NE79.out (.bool true)) hb); have n6_ := A0_ (blk_below (blk_far (blk_far BK6.out (p := ⟨gb9, 0, none⟩) NE69.out (.int .i64 a0_2)) (p := ⟨gb9, 1, none⟩) NE69.out (.bool true)) hb); have n1_ := A0_ (below_step (below_set (below_set HB.out GE9.out (j := 0) (v := .int .i64 a0_2)) GE9.out (j := 1) (v := .bool true)) hb); clear BK7 BK6 HB; have BK7 := n7_; have BK6 := n6_; have HB := n1_; clear n1_ n6_ n7_ hb; clear hcz7_0 hfz7_0 hcz7_1 hfz7_1 hcz9_0 hfz9_0 hcz9_1 hfz9_1; have hcz7_1 : wn.cell? ⟨gb7, 1, none⟩ = some (.int .u64 0) := (blk_cell BK7.out 1).trans rfl; have hfz7_1 := blk_frozen BK7.out 1))
    have f7_ := (blk_set BK7.out 1 (.int .u64 x_))
    have f6_ := (blk_far BK6.out (p := ⟨gb7, 1, none⟩) NE67.out (.int .u64 x_))
    have fb_ := (below_set HB.out GE7.out (j := 1) (v := .int .u64 x_))
    have ex_ := HX.out
    clear HX
    subst ex_
    go_wp2
    go_roundg 0
    case measure => omega
    case rel => exact ⟨2, _, _, rfl, ⟨.inr (.inr ⟨rfl, rfl, rfl, rfl⟩)⟩, ⟨f6_⟩, ⟨f7_⟩, ⟨fb_⟩⟩
   ·have hz_ : (a0_2 != 0) = true := bne_iff_ne.mpr c
    have H := HP1.out
    simp only [special_box_words.p, Bool.false_eq_true, if_true, if_false, c] at H
    have HX := A0_ (Option.some.inj H)
    clear H
    have C_ := A0_ c
    clear c
    go_upto_region 9 with (first | ((with_reducible refine gate_dst (N := 9) rfl ?_); refine box_event ?hg (N := 9) ?hd (cs := #[.int .i64 0, .bool false]) (t := 52) ?hr ?_; (case hd => rfl); (case hg => rfl); (case hr => first | (go_simp; done) | (go_simp; rfl)); intro gb9 hg w9 hbox hb; have LT7 := blk_lt BK7.out; have LT6 := blk_lt BK6.out; have nb_ := A0_ (blk_below BK6.out hb); clear BK6; have BK6 := nb_; clear nb_; have nb_ := A0_ (blk_below BK7.out hb); clear BK7; have BK7 := nb_; clear nb_; have n0_ := A0_ (below_step (qm_ HB.out) hb); have n1_ := A0_ hbox; have n2_ := A0_ ((by rw [hg]; exact (below_size (qm_ HB.out))) : w.heap.size ≤ gb9); clear HB; have HB := n0_; have BK9 := n1_; have GE9 := n2_; clear n0_ n1_ n2_; have NE79 := A0_ ((by rw [hg]; exact Nat.ne_of_lt LT7) : gb7 ≠ gb9); have NE69 := A0_ ((by rw [hg]; exact Nat.ne_of_lt LT6) : gb6 ≠ gb9); clear LT6 LT7; clear hb hbox hg; have h97 := Ne.symm NE79.out; have h79 := NE79.out; have hcz9_0 : w9.cell? ⟨gb9, 0, none⟩ = some (.int .i64 0) := (blk_cell BK9.out 0).trans rfl; have hfz9_0 := blk_frozen BK9.out 0; have hcz9_1 : w9.cell? ⟨gb9, 1, none⟩ = some (.bool false) := (blk_cell BK9.out 1).trans rfl; have hfz9_1 := blk_frozen BK9.out 1;have hcz7_0 : w9.cell? ⟨gb7, 0, none⟩ = some (.int .u64 l0) := (blk_cell BK7.out 0).trans rfl; have hfz7_0 := blk_frozen BK7.out 0; have hcz7_1 : w9.cell? ⟨gb7, 1, none⟩ = some (.int .u64 0) := (blk_cell BK7.out 1).trans rfl; have hfz7_1 := blk_frozen BK7.out 1))
    have f7_ := (blk_set (blk_far (blk_far BK7.out (p := ⟨gb9, 0, none⟩) NE79.out (.int .i64 a0_2)) (p := ⟨gb9, 1, none⟩) NE79.out (.bool false)) 1 (.int .u64 a2))
    have f6_ := (blk_far (blk_far (blk_far BK6.out (p := ⟨gb9, 0, none⟩) NE69.out (.int .i64 a0_2)) (p := ⟨gb9, 1, none⟩) NE69.out (.bool false)) (p := ⟨gb7, 1, none⟩) NE67.out (.int .u64 a2))
    have fb_ := (below_set (below_set (below_set HB.out GE9.out (j := 0) (v := .int .i64 a0_2)) GE9.out (j := 1) (v := .bool false)) GE7.out (j := 1) (v := .int .u64 a2))
    go_wp2
    go_roundg 0
    case measure => omega
    case rel => exact ⟨2, _, _, rfl, ⟨.inr (.inr ⟨rfl, rfl, rfl, rfl⟩)⟩, ⟨f6_⟩, ⟨by rw [← HX.out]; exact f7_⟩, ⟨fb_⟩⟩
   ·have hz_ : (a0_2 != 0) = true := bne_iff_ne.mpr c
    have H := HP1.out
    simp only [special_box_words.p, Bool.false_eq_true, if_true, if_false, c] at H
    obtain ⟨⟨x_, xe_⟩, AX_, HX_⟩ := Option.bind_eq_some_iff.mp H
    have HX := A0_ (Option.some.inj HX_)
    have AX := A0_ AX_
    clear AX_ HX_ H
    have C_ := A0_ c
    clear c
    go_upto_region 9 with (first | ((with_reducible refine gate_dst (N := 9) rfl ?_); refine box_event ?hg (N := 9) ?hd (cs := #[.int .i64 0, .bool false]) (t := 52) ?hr ?_; (case hd => rfl); (case hg => rfl); (case hr => first | (go_simp; done) | (go_simp; rfl)); intro gb9 hg w9 hbox hb; have LT7 := blk_lt BK7.out; have LT6 := blk_lt BK6.out; have nb_ := A0_ (blk_below BK6.out hb); clear BK6; have BK6 := nb_; clear nb_; have nb_ := A0_ (blk_below BK7.out hb); clear BK7; have BK7 := nb_; clear nb_; have n0_ := A0_ (below_step (qm_ HB.out) hb); have n1_ := A0_ hbox; have n2_ := A0_ ((by rw [hg]; exact (below_size (qm_ HB.out))) : w.heap.size ≤ gb9); clear HB; have HB := n0_; have BK9 := n1_; have GE9 := n2_; clear n0_ n1_ n2_; have NE79 := A0_ ((by rw [hg]; exact Nat.ne_of_lt LT7) : gb7 ≠ gb9); have NE69 := A0_ ((by rw [hg]; exact Nat.ne_of_lt LT6) : gb6 ≠ gb9); clear LT6 LT7; clear hb hbox hg; have h97 := Ne.symm NE79.out; have h79 := NE79.out; have hcz9_0 : w9.cell? ⟨gb9, 0, none⟩ = some (.int .i64 0) := (blk_cell BK9.out 0).trans rfl; have hfz9_0 := blk_frozen BK9.out 0; have hcz9_1 : w9.cell? ⟨gb9, 1, none⟩ = some (.bool false) := (blk_cell BK9.out 1).trans rfl; have hfz9_1 := blk_frozen BK9.out 1;have hcz7_0 : w9.cell? ⟨gb7, 0, none⟩ = some (.int .u64 l0) := (blk_cell BK7.out 0).trans rfl; have hfz7_0 := blk_frozen BK7.out 0; have hcz7_1 : w9.cell? ⟨gb7, 1, none⟩ = some (.int .u64 0) := (blk_cell BK7.out 1).trans rfl; have hfz7_1 := blk_frozen BK7.out 1) | (go_at_call 42; (with_reducible refine (word_Neg.calls k a1 a2 x_ xe_ _ AX.out).mono ?_); rintro e wn ⟨rfl, hb⟩; have n7_ := A0_ (blk_below (blk_set (blk_far (blk_far BK7.out (p := ⟨gb9, 0, none⟩) NE79.out (.int .i64 a0_2)) (p := ⟨gb9, 1, none⟩) NE79.out (.bool true)) 1 (.int .u64 a2)) hb); have n6_ := A0_ (blk_below (blk_far (blk_far (blk_far BK6.out (p := ⟨gb9, 0, none⟩) NE69.out (.int .i64 a0_2)) (p := ⟨gb9, 1, none⟩) NE69.out (.bool true)) (p := ⟨gb7, 1, none⟩) NE67.out (.int .u64 a2)) hb); have n1_ := A0_ (below_step (below_set (below_set (below_set HB.out GE9.out (j := 0) (v := .int .i64 a0_2)) GE9.out (j := 1) (v := .bool true)) GE7.out (j := 1) (v := .int .u64 a2)) hb); clear BK7 BK6 HB; have BK7 := n7_; have BK6 := n6_; have HB := n1_; clear n1_ n6_ n7_ hb; clear hcz7_0 hfz7_0 hcz7_1 hfz7_1 hcz9_0 hfz9_0 hcz9_1 hfz9_1; have hcz7_1 : wn.cell? ⟨gb7, 1, none⟩ = some (.int .u64 a2) := (blk_cell BK7.out 1).trans rfl; have hfz7_1 := blk_frozen BK7.out 1))
    have f7_ := (blk_set BK7.out 1 (.int .u64 x_))
    have f6_ := (blk_far BK6.out (p := ⟨gb7, 1, none⟩) NE67.out (.int .u64 x_))
    have fb_ := (below_set HB.out GE7.out (j := 1) (v := .int .u64 x_))
    have ex_ := HX.out
    clear HX
    subst ex_
    go_wp2
    go_roundg 0
    case measure => omega
    case rel => exact ⟨2, _, _, rfl, ⟨.inr (.inr ⟨rfl, rfl, rfl, rfl⟩)⟩, ⟨f6_⟩, ⟨f7_⟩, ⟨fb_⟩⟩
  ·clear HI
   have hcz7_0 : wr.cell? ⟨gb7, 0, none⟩ = some (.int .u64 l0) := (blk_cell BK7.out 0).trans rfl
   have hfz7_0 := blk_frozen BK7.out 0
   have hcz7_1 : wr.cell? ⟨gb7, 1, none⟩ = some (.int .u64 l1) := (blk_cell BK7.out 1).trans rfl
   have hfz7_1 := blk_frozen BK7.out 1
   have hcz6_0 : wr.cell? ⟨gb6, 0, none⟩ = some (.int .u64 0) := (blk_cell BK6.out 0).trans rfl
   have hfz6_0 := blk_frozen BK6.out 0
   have hcz6_1 : wr.cell? ⟨gb6, 1, none⟩ = some (.int .u64 0) := (blk_cell BK6.out 1).trans rfl
   have hfz6_1 := blk_frozen BK6.out 1
   go_wp2
   refine bodyPost_ret (v := .agg #[.int .u64 l0, .int .u64 l1]) ?_ rfl ⟨rfl, below_set (below_set HB.out GE6.out) GE6.out⟩
   simp [results, Try.results21, go_sem, hcz6_0, hcz6_1]
end Go.Proofs.Ytlgapmhjaaajfaa.PA
end

section
namespace Go.Proofs.Ytlgapmhjaaajfaa.PA
open Go.RowKit Go.Proofs.YtlgapmhjaaajfaaW.PrintWords Go.Proofs.YtlgapmhjaaajfaaW.PrintLast Go.Proofs.YtlgapmhjaaajfaaW.PrintMore
attribute [local go_sem] max2_int min2_int max_two min_two max_three min_three max_four min_four   -- for this text's walks alone
set_option linter.unusedVariables false
set_option linter.unusedSimpArgs false
mutual
def special_Mul.j0 : Nat → Int → Int → Int → Int → Int → Bool → Int → Int → Int → Int → Option (Int × Int × Int × Int × Bool × Int)
 | 0, _, _, _, _, _, _, _, _, _, _ => none
 | k + 1, x0, x1, x13, x14, x15, x42, x250000, x250001, x251000, x251001 => if x42 = true then (some (0, 0, 0, 0, false, 0)) else (if x13 = 4 then (special_Mul.j1 k x0 x1 x13 x14 x15 true x250000 x250001 x251000 x251001) else (special_Mul.j1 k x0 x1 x13 x14 x15 (x14 == 4) x250000 x250001 x251000 x251001))
def special_Mul.j1 : Nat → Int → Int → Int → Int → Int → Bool → Int → Int → Int → Int → Option (Int × Int × Int × Int × Bool × Int)
 | 0, _, _, _, _, _, _, _, _, _, _ => none
 | k + 1, x0, x1, x13, x14, x15, x50, x250000, x250001, x251000, x251001 => if x50 = true then ((special_none.f k x0 0).bind fun bt263 => (some (bt263.1, bt263.2.1, bt263.2.2.1, bt263.2.2.2, true, 0))) else (if x13 = 1 then ((special_none.f k x0 1).bind fun bt267 => (some (bt267.1, bt267.2.1, bt267.2.2.1, bt267.2.2.2, true, 0))) else (if x14 = 1 then ((special_none.f k x0 1).bind fun bt271 => (some (bt271.1, bt271.2.1, bt271.2.2.1, bt271.2.2.2, true, 0))) else ((special_boxOf.f k x0 x250000 x250001 x13).bind fun bt275 => ((special_boxOf.f k x0 x251000 x251001 x14).bind fun bt279 => ((special_box_times.f bt275.1 bt275.2.1 bt275.2.2.1 bt275.2.2.2 bt279.1 bt279.2.1 bt279.2.2.1 bt279.2.2.2 x1).bind fun bt283 => ((special_box_words.f k bt283.1 bt283.2.1 bt283.2.2.1 bt283.2.2.2 x0 x15).bind fun bt288 => (some (bt288.1, bt288.2, 0, 0, true, 0))))))))
end
def special_Mul.f (k : Nat) (a0 : Int) (a1 : Int) (a2_0 : Int) (a2_1 : Int) (a3_0 : Int) (a3_1 : Int) : Option (Int × Int × Int × Int × Bool × Int) := (special_open.f k a0 a1 (([(⟨a2_0, a2_1⟩ : S26), (⟨a3_0, a3_1⟩ : S26)] : List (S26)))).bind fun bt255 => (if bt255.2 = 0 then (if 0 < (bt255.1.length : Int) then (if 1 < (bt255.1.length : Int) then ((word_Inf.f k a0 false).bind fun bt261 => (if (rd bt255.1 0) ≤ 2 then (special_Mul.j0 k a0 a1 (rd bt255.1 0) (rd bt255.1 1) bt261.1 (decide ((rd bt255.1 1) ≤ 2)) a2_0 a2_1 a3_0 a3_1) else (special_Mul.j0 k a0 a1 (rd bt255.1 0) (rd bt255.1 1) bt261.1 false a2_0 a2_1 a3_0 a3_1))) else (none)) else (none)) else (some (0, 0, 0, 0, false, bt255.2)))
theorem special_Mul.mono_l : ∀ k, (∀ y0 y1 y2 y3 y4 y5 y6 y7 y8 y9, LeO (special_Mul.j0 k y0 y1 y2 y3 y4 y5 y6 y7 y8 y9) (special_Mul.j0 (k + 1) y0 y1 y2 y3 y4 y5 y6 y7 y8 y9)) ∧ (∀ y0 y1 y2 y3 y4 y5 y6 y7 y8 y9, LeO (special_Mul.j1 k y0 y1 y2 y3 y4 y5 y6 y7 y8 y9) (special_Mul.j1 (k + 1) y0 y1 y2 y3 y4 y5 y6 y7 y8 y9))
 | 0 => ⟨fun _ _ _ _ _ _ _ _ _ _ r h => by simp [special_Mul.j0] at h, fun _ _ _ _ _ _ _ _ _ _ r h => by simp [special_Mul.j1] at h⟩
 | k + 1 => by
  obtain ⟨ih0, ih1⟩ := special_Mul.mono_l k
  refine ⟨?_, ?_⟩
  ·intro y0 y1 y2 y3 y4 y5 y6 y7 y8 y9
   unfold special_Mul.j0
   repeat' first
   | (with_reducible exact ih0 _ _ _ _ _ _ _ _ _ _)
   | (with_reducible exact ih1 _ _ _ _ _ _ _ _ _ _)
   | (with_reducible exact special_boxOf.mono _ _ _ _ _)
   | (with_reducible exact special_box_words.mono _ _ _ _ _ _ _)
   | (with_reducible exact special_none.mono _ _ _)
   | (with_reducible exact special_open.mono _ _ _ _)
   | (with_reducible exact word_Inf.mono _ _ _)
   | (with_reducible exact LeO.refl _)
   | (with_reducible exact LeO.none _)
   | (with_reducible refine LeO.ite ?_ ?_)
   | (with_reducible refine LeO.bind ?_ (fun _ => ?_))
   | exact ih0 _ _ _ _ _ _ _ _ _ _
   | exact ih1 _ _ _ _ _ _ _ _ _ _
   | exact special_boxOf.mono _ _ _ _ _
   | exact special_box_words.mono _ _ _ _ _ _ _
   | exact special_none.mono _ _ _
   | exact special_open.mono _ _ _ _
   | exact word_Inf.mono _ _ _
   | exact LeO.none _
   | refine LeO.ite ?_ ?_
   | refine LeO.bind ?_ (fun _ => ?_)
  ·intro y0 y1 y2 y3 y4 y5 y6 y7 y8 y9
   unfold special_Mul.j1
   repeat' first
   | (with_reducible exact ih0 _ _ _ _ _ _ _ _ _ _)
   | (with_reducible exact ih1 _ _ _ _ _ _ _ _ _ _)
   | (with_reducible exact special_boxOf.mono _ _ _ _ _)
   | (with_reducible exact special_box_words.mono _ _ _ _ _ _ _)
   | (with_reducible exact special_none.mono _ _ _)
   | (with_reducible exact special_open.mono _ _ _ _)
   | (with_reducible exact word_Inf.mono _ _ _)
   | (with_reducible exact LeO.refl _)
   | (with_reducible exact LeO.none _)
   | (with_reducible refine LeO.ite ?_ ?_)
   | (with_reducible refine LeO.bind ?_ (fun _ => ?_))
   | exact ih0 _ _ _ _ _ _ _ _ _ _
   | exact ih1 _ _ _ _ _ _ _ _ _ _
   | exact special_boxOf.mono _ _ _ _ _
   | exact special_box_words.mono _ _ _ _ _ _ _
   | exact special_none.mono _ _ _
   | exact special_open.mono _ _ _ _
   | exact word_Inf.mono _ _ _
   | exact LeO.none _
   | refine LeO.ite ?_ ?_
   | refine LeO.bind ?_ (fun _ => ?_)
theorem special_Mul.mono : ∀ a0 a1 a2 a3 a4 a5 k, LeO (special_Mul.f k a0 a1 a2 a3 a4 a5) (special_Mul.f (k + 1) a0 a1 a2 a3 a4 a5) := by
 intro a0 a1 a2 a3 a4 a5 k
 obtain ⟨ih0, ih1⟩ := special_Mul.mono_l k
 unfold special_Mul.f
 repeat' first
   | (with_reducible exact ih0 _ _ _ _ _ _ _ _ _ _)
   | (with_reducible exact ih1 _ _ _ _ _ _ _ _ _ _)
   | (with_reducible exact special_boxOf.mono _ _ _ _ _)
   | (with_reducible exact special_box_words.mono _ _ _ _ _ _ _)
   | (with_reducible exact special_none.mono _ _ _)
   | (with_reducible exact special_open.mono _ _ _ _)
   | (with_reducible exact word_Inf.mono _ _ _)
   | (with_reducible exact LeO.refl _)
   | (with_reducible exact LeO.none _)
   | (with_reducible refine LeO.ite ?_ ?_)
   | (with_reducible refine LeO.bind ?_ (fun _ => ?_))
   | exact ih0 _ _ _ _ _ _ _ _ _ _
   | exact ih1 _ _ _ _ _ _ _ _ _ _
   | exact special_boxOf.mono _ _ _ _ _
   | exact special_box_words.mono _ _ _ _ _ _ _
   | exact special_none.mono _ _ _
   | exact special_open.mono _ _ _ _
   | exact word_Inf.mono _ _ _
   | exact LeO.none _
   | refine LeO.ite ?_ ?_
   | refine LeO.bind ?_ (fun _ => ?_)
def special_Mul.T4 : Bool × List (List Nat × List Nat) := (true, [([], []), ([0], [0]), ([1], [1]), ([], []), ([3], [3]), ([4], [4]), ([2, 0, 1, 2], [2]), ([5, 6, 0, 1, 2, 3, 4, 5, 6], [5])])
def special_Mul.B4 : List Nat := [0, 1, 3, 0, 8, 24, 7, 127]
theorem special_Mul.tab4 : rtab .any (opsOf Try.f6 4) = special_Mul.T4 := by kernel_rfl
theorem special_Mul.bits4 : waitsOk special_Mul.T4.2 special_Mul.B4 = true := by kernel_rfl
def special_Mul.T12 : Bool × List (List Nat × List Nat) := (true, [([], []), ([], []), ([], []), ([0, 1, 2], [0, 1, 2]), ([], []), ([], []), ([], []), ([4, 5, 6, 3], [4, 5, 6]), ([], []), ([3, 7, 8, 7], [3, 7, 8]), ([], []), ([10, 9, 9, 0, 1, 2, 3, 4, 5, 6, 7, 8, 9, 10], [9, 10])])
def special_Mul.B12 : List Nat := [0, 0, 0, 7, 0, 0, 0, 127, 0, 511, 0, 2047]
theorem special_Mul.tab12 : rtab .any (opsOf Try.f6 12) = special_Mul.T12 := by kernel_rfl
theorem special_Mul.bits12 : waitsOk special_Mul.T12.2 special_Mul.B12 = true := by kernel_rfl
set_option maxHeartbeats 2000000 in
set_option maxRecDepth 100000 in
theorem special_Mul.calls (k : Nat) (a0 : Int) (a1 : Int) (a2_0 : Int) (a2_1 : Int) (a3_0 : Int) (a3_1 : Int) (r1 : Int) (r2 : Int) (r3 : Int) (r4 : Int) (r5 : Bool) (r6 : Int) (w : World) (h : special_Mul.f k a0 a1 a2_0 a2_1 a3_0 a3_1 = some (r1, r2, r3, r4, r5, r6)) :
  Calls Try.prog 6 #[.int .u8 a0, .int .u8 a1, .agg #[.int .u64 a2_0, .int .u64 a2_1], .agg #[.int .u64 a3_0, .int .u64 a3_1]] w fun e w' => e = .returned (.tuple #[.agg #[.int .u64 r1, .int .u64 r2, .int .u8 r3, .int .u8 r4], .bool r5, .int .i64 r6]) ∧ Below w.heap.size w w' := by
 have hu26 := Try.underlying26
 have hu29 := Try.underlying29
 have hu54 := Try.underlying54
 have HB := A0_ (Below.refl w.heap.size w)
 have H : ((special_open.f k a0 a1 (([(⟨a2_0, a2_1⟩ : S26), (⟨a3_0, a3_1⟩ : S26)] : List (S26)))).bind fun bt255 => (if bt255.2 = 0 then (if 0 < (bt255.1.length : Int) then (if 1 < (bt255.1.length : Int) then ((word_Inf.f k a0 false).bind fun bt261 => (if (rd bt255.1 0) ≤ 2 then (special_Mul.j0 k a0 a1 (rd bt255.1 0) (rd bt255.1 1) bt261.1 (decide ((rd bt255.1 1) ≤ 2)) a2_0 a2_1 a3_0 a3_1) else (special_Mul.j0 k a0 a1 (rd bt255.1 0) (rd bt255.1 1) bt261.1 false a2_0 a2_1 a3_0 a3_1))) else (none)) else (none)) else (some (0, 0, 0, 0, false, bt255.2)))) = some (r1, r2, r3, r4, r5, r6) := h
 clear h
 obtain ⟨y252, hy252⟩ : ∃ y_ : List (S26), y_ = (([(⟨a2_0, a2_1⟩ : S26), (⟨a3_0, a3_1⟩ : S26)] : List (S26))) := ⟨_, rfl⟩
 replace H : ((special_open.f k a0 a1 y252).bind fun bt255 => (if bt255.2 = 0 then (if 0 < (bt255.1.length : Int) then (if 1 < (bt255.1.length : Int) then ((word_Inf.f k a0 false).bind fun bt261 => (if (rd bt255.1 0) ≤ 2 then (special_Mul.j0 k a0 a1 (rd bt255.1 0) (rd bt255.1 1) bt261.1 (decide ((rd bt255.1 1) ≤ 2)) a2_0 a2_1 a3_0 a3_1) else (special_Mul.j0 k a0 a1 (rd bt255.1 0) (rd bt255.1 1) bt261.1 false a2_0 a2_1 a3_0 a3_1))) else (none)) else (none)) else (some (0, 0, 0, 0, false, bt255.2)))) = some (r1, r2, r3, r4, r5, r6) := by first | (rw [hy252]; with_reducible exact H) | (have H2_ := (Option.bind_some _ _).symm.trans H; rw [hy252]; with_reducible exact H2_) | (have H2_ := (Option.bind_some _ _).symm.trans H; with_reducible exact H2_) | with_reducible exact H | (rw [hy252]; exact H) | exact H
 have Ny252 := A0_ hy252
 clear hy252
 replace H := Option.bind_eq_some_iff.mp H
 obtain ⟨⟨t255, t256⟩, A50, H⟩ := H
 replace H : (if t256 = 0 then (if 0 < (t255.length : Int) then (if 1 < (t255.length : Int) then ((word_Inf.f k a0 false).bind fun bt261 => (if (rd t255 0) ≤ 2 then (special_Mul.j0 k a0 a1 (rd t255 0) (rd t255 1) bt261.1 (decide ((rd t255 1) ≤ 2)) a2_0 a2_1 a3_0 a3_1) else (special_Mul.j0 k a0 a1 (rd t255 0) (rd t255 1) bt261.1 false a2_0 a2_1 a3_0 a3_1))) else (none)) else (none)) else (some (0, 0, 0, 0, false, t256))) = some (r1, r2, r3, r4, r5, r6) := H
 have A5 := A0_ A50
 clear A50
 by_cases c6 : t256 = 0
 ·rw [if_pos c6] at H
  have c6b0 : (t256 == 0) = true := beq_iff_eq.mpr c6
  have c6b1 : (t256 != 0) = false := bne_eq_false_iff_eq.mpr c6
  clear c6
  by_cases c7 : 0 < (t255.length : Int)
  ·rw [if_pos c7] at H
   have c7b0 : decide (0 < (t255.length : Int)) = true := decide_eq_true c7
   have c7b1 : decide (0 < t255.length) = true := decide_eq_true (by omega)
   clear c7
   by_cases c8 : 1 < (t255.length : Int)
   ·rw [if_pos c8] at H
    have c8b0 : decide (1 < (t255.length : Int)) = true := decide_eq_true c8
    have c8b1 : decide (1 < t255.length) = true := decide_eq_true (by omega)
    clear c8
    replace H := Option.bind_eq_some_iff.mp H
    obtain ⟨⟨t261, t262⟩, A90, H⟩ := H
    replace H : (if (rd t255 0) ≤ 2 then (special_Mul.j0 k a0 a1 (rd t255 0) (rd t255 1) t261 (decide ((rd t255 1) ≤ 2)) a2_0 a2_1 a3_0 a3_1) else (special_Mul.j0 k a0 a1 (rd t255 0) (rd t255 1) t261 false a2_0 a2_1 a3_0 a3_1)) = some (r1, r2, r3, r4, r5, r6) := H
    have A9 := A0_ A90
    clear A90
    have HC10 := A0_ H
    clear H
    go_enter Try.func6, Try.ntmps6
    try go_wp2_with (first | ((with_reducible refine gate_dst (N := 6) rfl ?_); refine box_event ?hg (N := 6) ?hd (cs := #[.int .u64 a2_0, .int .u64 a2_1]) (t := 26) ?hr ?_; (case hd => rfl); (case hg => rfl); (case hr => first | (go_simp; done) | (go_simp; rfl)); intro gb249 hg w11 hbox hb; have n0_ := A0_ (below_step (qm_ HB.out) hb); have n1_ := A0_ (hbox); have n2_ := A0_ ((by rw [hg]; exact (below_size (qm_ HB.out)) : w.heap.size ≤ gb249)); have n3_ := A0_ ((by rw [hg]; exact (below_size (qm_ HB.out)) : w.heap.size ≤ gb249)); clear HB; have HB := n0_; have BK249 := n1_; have GW249 := n2_; have GE249 := n3_; clear n0_ n1_ n2_ n3_; clear hb hbox hg) | ((with_reducible refine gate_dst (N := 7) rfl ?_); refine box_event ?hg (N := 7) ?hd (cs := #[.int .u64 a3_0, .int .u64 a3_1]) (t := 26) ?hr ?_; (case hd => rfl); (case hg => rfl); (case hr => first | (go_simp; done) | (go_simp; rfl)); intro gb250 hg w12 hbox hb; have n0_ := A0_ (blk_below (bm_ BK249.out) hb); have n1_ := A0_ (below_step (by repeat (first | (with_reducible first | exact qm_ HB.out | apply qA_ | apply qN_ | apply qD_ | refine below_set ?_ GE249.out) | exact HB.out)) hb); have n2_ := A0_ (hbox); have n3_ := A0_ ((by rw [hg]; exact (below_size (by repeat (first | (with_reducible first | exact qm_ HB.out | apply qA_ | apply qN_ | apply qD_ | refine below_set ?_ GE249.out) | exact HB.out))) : w.heap.size ≤ gb250)); have n4_ := A0_ ((by rw [hg]; exact (below_size (by repeat (first | (with_reducible first | exact qm_ HB.out | apply qA_ | apply qN_ | apply qD_ | refine below_set ?_ GE249.out) | exact HB.out))) : w.heap.size ≤ gb250)); have n5_ := A0_ ((by rw [hg]; exact Nat.ne_of_lt (blk_lt (bm_ BK249.out)) : gb249 ≠ gb250)); have n6_ := A0_ ((by rw [hg]; exact Nat.ne_of_gt (blk_lt (bm_ BK249.out)) : gb250 ≠ gb249)); clear BK249; clear HB; have BK249 := n0_; have HB := n1_; have BK250 := n2_; have GW250 := n3_; have GE250 := n4_; have NB249_250 := n5_; have NB250_249 := n6_; clear n0_ n1_ n2_ n3_ n4_ n5_ n6_; clear hb hbox hg) | ((with_reducible refine gate_dst (N := 8) rfl ?_); refine box_event ?hg (N := 8) ?hd (cs := #[.int .u64 0, .int .u64 0, .int .u8 0, .int .u8 0]) (t := 29) ?hr ?_; (case hd => rfl); (case hg => rfl); (case hr => first | (go_simp; done) | (go_simp; rfl)); intro gb251 hg w13 hbox hb; have n0_ := A0_ (blk_below (bm_ BK249.out) hb); have n1_ := A0_ (blk_below (bm_ BK250.out) hb); have n2_ := A0_ (below_step (by repeat (first | (with_reducible first | exact qm_ HB.out | apply qA_ | apply qN_ | apply qD_ | refine below_set ?_ GE249.out | refine below_set ?_ GE250.out) | exact HB.out)) hb); have n3_ := A0_ (hbox); have n4_ := A0_ ((by rw [hg]; exact (below_size (by repeat (first | (with_reducible first | exact qm_ HB.out | apply qA_ | apply qN_ | apply qD_ | refine below_set ?_ GE249.out | refine below_set ?_ GE250.out) | exact HB.out))) : w.heap.size ≤ gb251)); have n5_ := A0_ ((by rw [hg]; exact (below_size (by repeat (first | (with_reducible first | exact qm_ HB.out | apply qA_ | apply qN_ | apply qD_ | refine below_set ?_ GE249.out | refine below_set ?_ GE250.out) | exact HB.out))) : w.heap.size ≤ gb251)); have n6_ := A0_ ((by rw [hg]; exact Nat.ne_of_lt (blk_lt (bm_ BK249.out)) : gb249 ≠ gb251)); have n7_ := A0_ ((by rw [hg]; exact Nat.ne_of_gt (blk_lt (bm_ BK249.out)) : gb251 ≠ gb249)); have n8_ := A0_ ((by rw [hg]; exact Nat.ne_of_lt (blk_lt (bm_ BK250.out)) : gb250 ≠ gb251)); have n9_ := A0_ ((by rw [hg]; exact Nat.ne_of_gt (blk_lt (bm_ BK250.out)) : gb251 ≠ gb250)); clear BK249; clear BK250; clear HB; have BK249 := n0_; have BK250 := n1_; have HB := n2_; have BK251 := n3_; have GW251 := n4_; have GE251 := n5_; have NB249_251 := n6_; have NB251_249 := n7_; have NB250_251 := n8_; have NB251_250 := n9_; clear n0_ n1_ n2_ n3_ n4_ n5_ n6_ n7_ n8_ n9_; clear hb hbox hg; have hnb14 := NB249_250.out; have hnc14 := NB250_249.out; have hnb15 := NB249_251.out; have hnc15 := NB251_249.out; have hcz16 := bc2_ BK249.out; have hfz16 := bf2_ BK249.out; have hnb17 := NB250_251.out; have hnc17 := NB251_250.out; have hcz18 := bc2_ BK250.out; have hfz18 := bf2_ BK250.out) | ((with_reducible refine gate_dst (N := 23) rfl ?_); refine Kd.R_lit k26 _ 26 ?hg (N := 23) ?hd (xs := ([(⟨a2_0, a2_1⟩ : S26), (⟨a3_0, a3_1⟩ : S26)] : List (S26))) (inner := [.int .u64 a2_0, .int .u64 a2_1, .int .u64 a3_0, .int .u64 a3_1]) (ok := fun _ => True) (okp := fun _ => True) ?hr ?hp (fun _ hk => hk) trivial (Below.refl _ _) (Nat.le_refl _) (by simp) ?_; (case hd => rfl); (case hg => rfl); (case hr => first | (go_simp; done) | (go_simp; rfl)); (case hp => exact (Reps.c2 (show Kd.M k26 _ _ _ (⟨a2_0, a2_1⟩ : S26) [.int .u64 a2_0, .int .u64 a2_1] from (k26_mkM _ _ _ (⟨a2_0, a2_1⟩ : S26) )) (Reps.c2 (show Kd.M k26 _ _ _ (⟨a3_0, a3_1⟩ : S26) [.int .u64 a3_0, .int .u64 a3_1] from (k26_mkM _ _ _ (⟨a3_0, a3_1⟩ : S26) )) (Reps.none _ _)))); intro v253 w19 ho20 hb hg_ hnew_; clear hg_ hnew_; (first | rw [← Ny252.out] at ho20 | (simp only [Int.reduceToNat] at ho20; rw [← Ny252.out] at ho20)); have n0_ := A0_ (Kd.R_lower (Kd.R_newB (Kd.R_newB ho20 (bm_ BK249.out)) (bm_ BK250.out)) (below_size (by repeat (first | (with_reducible first | exact qm_ HB.out | apply qA_ | apply qN_ | apply qD_ | refine below_set ?_ GE249.out | refine below_set ?_ GE250.out | refine below_set ?_ GE251.out) | exact HB.out)))); have n1_ := A0_ (blk_below (bm_ BK249.out) hb); have n2_ := A0_ (blk_below (bm_ BK250.out) hb); have n3_ := A0_ (blk_below (bm_ BK251.out) hb); have n4_ := A0_ (below_step (by repeat (first | (with_reducible first | exact qm_ HB.out | apply qA_ | apply qN_ | apply qD_ | refine below_set ?_ GE249.out | refine below_set ?_ GE250.out | refine below_set ?_ GE251.out) | exact HB.out)) hb); clear BK249; clear BK250; clear BK251; clear HB; have HO254 := n0_; have BK249 := n1_; have BK250 := n2_; have BK251 := n3_; have HB := n4_; clear n0_ n1_ n2_ n3_ n4_; clear hb ho20; obtain ⟨Ao21, co21, eo21⟩ := Kd.R_slice HO254.out; subst eo21) | ((with_reducible refine gate_callee (f := 16) rfl ?_); refine goesL_ (some 24) rfl rfl Try.func16 (by kernel_rfl) rfl #[.int .u8 a0, .int .u8 a1, .slice Ao21 y252.length co21] rfl (by (try simp only [List.map_toArray, List.map_cons, List.map_nil]); first | done | rfl | (simp only [List.length_drop, List.length_take]; rfl)) ?_; (with_reducible refine (special_open.calls k a0 a1 _ _ y252 t255 t256 _ ?side1 ?side2 A5.out).mono ?_); (case side1 => repeat (first | exact (Kd.R_reads' HO254.out).2.2 | (with_reducible refine Kd.C_alloc ?_ _) | (with_reducible refine Kd.C_drewN ?_ _) | (with_reducible refine Kd.C_drew ?_))); (case side2 => exact (Kd.R_reads' HO254.out).2.1); rintro e w22 ⟨v257, rfl, ho0, hb⟩; refine ⟨_, rfl, ?_⟩; have n0_ := A0_ (Kd.R_below (by exact rm_ HO254.out) hb); have n1_ := A0_ (Kd.R_lower ho0 (below_size (by repeat (first | (with_reducible first | exact qm_ HB.out | apply qA_ | apply qN_ | apply qD_ | refine below_set ?_ GE249.out | refine below_set ?_ GE250.out | refine below_set ?_ GE251.out) | exact HB.out)))); have n2_ := A0_ (blk_below (bm_ BK249.out) hb); have n3_ := A0_ (blk_below (bm_ BK250.out) hb); have n4_ := A0_ (blk_below (bm_ BK251.out) hb); have n5_ := A0_ (below_step (by repeat (first | (with_reducible first | exact qm_ HB.out | apply qA_ | apply qN_ | apply qD_ | refine below_set ?_ GE249.out | refine below_set ?_ GE250.out | refine below_set ?_ GE251.out) | exact HB.out)) hb); clear HO254; clear BK249; clear BK250; clear BK251; clear HB; have HO254 := n0_; have HO258 := n1_; have BK249 := n2_; have BK250 := n3_; have BK251 := n4_; have HB := n5_; clear n0_ n1_ n2_ n3_ n4_ n5_; (try clear hb); (try clear hb2); (try clear hk); (try clear hi); (try clear ho0)))
    have n0_ := A0_ (Kd.R_drew HO254.out)
    have n1_ := A0_ (Kd.R_drew HO258.out)
    have n2_ := A0_ (blk_drew BK249.out)
    have n3_ := A0_ (blk_drew BK250.out)
    have n4_ := A0_ (blk_drew BK251.out)
    have n5_ := A0_ (below_drew1 HB.out)
    clear HO254
    clear HO258
    clear BK249
    clear BK250
    clear BK251
    clear HB
    have HO254 := n0_
    have HO258 := n1_
    have BK249 := n2_
    have BK250 := n3_
    have BK251 := n4_
    have HB := n5_
    clear n0_ n1_ n2_ n3_ n4_ n5_
    obtain ⟨Ao24, co24, eo24⟩ := Kd.R_slice HO258.out
    (first | subst eo24 | (injection eo24 with f1_ f2_ f3_; have f4_ := f1_.symm; have f5_ := f3_.symm; clear f1_ f2_ f3_; subst f4_; subst f5_))
    have p259 : 0 ≤ (0 : Int) := (by omega)
    have q259 : 0 < (t255.length : Int) := of_decide_eq_true (by first | (with_reducible assumption) | assumption)
    obtain ⟨ad259, e259, hx259_0⟩ := Kd.at_int (Kd.R_reads' HO258.out).2.2 0 p259 q259
    cases e259
    have qi259 : (0 < t255.length) = True := eq_true (by omega)
    (try rw [show ((0 : Int)).toNat = 0 from rfl] at hx259_0)
    (try rw [Addr.add_zero'] at hx259_0)
    replace p259 := eq_true p259
    replace q259 := eq_true q259
    have p260 : 0 ≤ (1 : Int) := (by omega)
    have q260 : 1 < (t255.length : Int) := of_decide_eq_true (by first | (with_reducible assumption) | assumption)
    obtain ⟨ad260, e260, hx260_0⟩ := Kd.at_int (Kd.R_reads' HO258.out).2.2 1 p260 q260
    obtain rfl : ad259 = ad260 := (by injection e260)
    (try simp only [show (1 : Int).toNat = 1 from rfl, Nat.reduceMul, Nat.reduceEqDiff, Go.Addr.add, ↓reduceIte] at hx260_0)
    have qi260 : (1 < t255.length) = True := eq_true (by omega)
    (try rw [show ((1 : Int)).toNat = 1 from rfl] at hx260_0)
    replace p260 := eq_true p260
    replace q260 := eq_true q260
    refine start_ (n := 8) (S := fun w' => w'.cell? ad259 = some (.int .u8 (rd t255 0)) ∧ w'.cell? ⟨ad259.block, ad259.off + 1, none⟩ = some (.int .u8 (rd t255 1))) (ds := []) #[false, false, false, false, false, false, false, false] (by kernel_rfl) rfl rfl ⟨hx259_0, hx260_0⟩ (fun hHeld => ?_); refine with_tabW special_Mul.tab4 special_Mul.bits4 (fun HT_ HW_ => ?_)
    generalize w22.drew = w23 at HO254 HO258 BK249 BK250 BK251 HB hx259_0 hx260_0 hHeld ⊢
    refine pure_ (i := 0) (N := some 31) (v := ?_) (a' := ?_) #[true, false, false, false, false, false, false, false] rfl rfl (any_of HT_.out (by kernel_rfl)) (fun _ _ _ h => h) (Or.inl ⟨by rfl, ?_⟩) ?_ ?_
    rotate_left
    ·intro w'
     go_simp
     with_reducible rfl
    rotate_left
    ·simp only [Act.put, List.setIfInBounds_toArray, List.set_cons_zero, List.set_cons_succ, i64_w, i32_w]
     rfl
    refine pure_ (i := 1) (N := some 32) (v := ?_) (a' := ?_) #[true, true, false, false, false, false, false, false] rfl rfl (any_of HT_.out (by kernel_rfl)) (fun _ _ _ h => h) (Or.inl ⟨by rfl, ?_⟩) ?_ ?_
    rotate_left
    ·intro w'
     go_simp
     with_reducible rfl
    rotate_left
    ·simp only [Act.put, List.setIfInBounds_toArray, List.set_cons_zero, List.set_cons_succ, i64_w, i32_w]
     rfl
    refine pure_ (i := 3) (N := some 34) (v := ?_) (a' := ?_) #[true, true, false, true, false, false, false, false] rfl rfl (any_of HT_.out (by kernel_rfl)) (fun _ _ _ h => h) (Or.inl ⟨by rfl, ?_⟩) ?_ ?_
    rotate_left
    ·intro w'
     go_simp
     with_reducible rfl
    rotate_left
    ·simp only [Act.put, List.setIfInBounds_toArray, List.set_cons_zero, List.set_cons_succ, i64_w, i32_w]
     rfl
    refine pure_ (i := 4) (N := some 35) (v := ?_) (a' := ?_) #[true, true, false, true, true, false, false, false] rfl rfl (any_of HT_.out (by kernel_rfl)) (fun _ _ _ h => h) (Or.inl ⟨by rfl, ?_⟩) ?_ ?_
    rotate_left
    ·intro w'
     go_simp
     with_reducible rfl
    rotate_left
    ·simp only [Act.put, List.setIfInBounds_toArray, List.set_cons_zero, List.set_cons_succ, i64_w, i32_w]
     rfl
    refine take_ (i := 2) (N := some 33) (v := ?_) (a' := ?_) #[true, true, true, true, true, false, false, false] rfl rfl (take_ofW HT_.out HW_.out (by kernel_rfl)) (fun _ _ _ h => h) (Or.inl ⟨by rfl, ?_⟩) hHeld ?_ ?_
    rotate_left
    ·rintro w' ⟨s0, s1⟩
     go_simp
     with_reducible rfl
    rotate_left
    ·simp only [Act.put, List.setIfInBounds_toArray, List.set_cons_zero, List.set_cons_succ, i64_w, i32_w]
     rfl
    refine pure_ (i := 6) (N := some 13) (v := ?_) (a' := ?_) #[true, true, true, true, true, false, true, false] rfl rfl (any_of HT_.out (by kernel_rfl)) (fun _ _ _ h => h) (Or.inl ⟨by rfl, ?_⟩) ?_ ?_
    rotate_left
    ·intro w'
     go_simp
     with_reducible rfl
    rotate_left
    ·simp only [Act.put, List.setIfInBounds_toArray, List.set_cons_zero, List.set_cons_succ, i64_w, i32_w]
     rfl
    refine take_ (i := 5) (N := some 36) (v := ?_) (a' := ?_) #[true, true, true, true, true, true, true, false] rfl rfl (take_ofW HT_.out HW_.out (by kernel_rfl)) (fun _ _ _ h => h) (Or.inl ⟨by rfl, ?_⟩) hHeld ?_ ?_
    rotate_left
    ·rintro w' ⟨s0, s1⟩
     go_simp
     with_reducible rfl
    rotate_left
    ·simp only [Act.put, List.setIfInBounds_toArray, List.set_cons_zero, List.set_cons_succ, i64_w, i32_w]
     rfl
    refine pure_ (i := 7) (N := some 14) (v := ?_) (a' := ?_) #[true, true, true, true, true, true, true, true] rfl rfl (any_of HT_.out (by kernel_rfl)) (fun _ _ _ h => h) (Or.inl ⟨by rfl, ?_⟩) ?_ ?_
    rotate_left
    ·intro w'
     go_simp
     with_reducible rfl
    rotate_left
    ·simp only [Act.put, List.setIfInBounds_toArray, List.set_cons_zero, List.set_cons_succ, i64_w, i32_w]
     rfl
    refine done_ (done_of HT_.out (by kernel_rfl)) ?_
    go_upto_region 6 with (first | ((with_reducible refine gate_callee (f := 17) rfl ?_); refine goesL_ (some 39) rfl rfl Try.func17 (by kernel_rfl) rfl #[.int .u8 a0, .bool false] rfl (by (try simp only [List.map_toArray, List.map_cons, List.map_nil]); first | done | rfl | (simp only [List.length_drop, List.length_take]; rfl)) ?_; (with_reducible refine (word_Inf.calls k a0 false t261 t262 _ A9.out).mono ?_); rintro e w25 ⟨rfl, hb⟩; refine ⟨_, rfl, ?_⟩; have n0_ := A0_ (Kd.R_below (by exact rm_ HO254.out) hb); have n1_ := A0_ (Kd.R_below (by exact rm_ HO258.out) hb); have n2_ := A0_ (blk_below (bm_ BK249.out) hb); have n3_ := A0_ (blk_below (bm_ BK250.out) hb); have n4_ := A0_ (blk_below (bm_ BK251.out) hb); have n5_ := A0_ (below_step (by repeat (first | (with_reducible first | exact qm_ HB.out | apply qA_ | apply qN_ | apply qD_ | refine below_set ?_ GE249.out | refine below_set ?_ GE250.out | refine below_set ?_ GE251.out) | exact HB.out)) hb); clear HO254; clear HO258; clear BK249; clear BK250; clear BK251; clear HB; have HO254 := n0_; have HO258 := n1_; have BK249 := n2_; have BK250 := n3_; have BK251 := n4_; have HB := n5_; clear n0_ n1_ n2_ n3_ n4_ n5_; (try clear hb); (try clear hb2); (try clear hk); (try clear hi)))
    (try simp only [Act.put, List.setIfInBounds_toArray, List.set_cons_zero, List.set_cons_succ])
    go_cut [42] (fun v42 wc => ∃ (kq : Nat) (x42_9 : Bool), v42 = .bool x42_9 ∧ Aside0 (special_Mul.j0 kq a0 a1 (rd t255 0) (rd t255 1) t261 x42_9 a2_0 a2_1 a3_0 a3_1 = some (r1, r2, r3, r4, r5, r6)) ∧ Aside0 (kq ≤ k) ∧ Aside0 (wc.heap[gb249]? = some (.cells #[.int .u64 a2_0, .int .u64 a2_1] 26 (0, 0))) ∧ Aside0 (wc.heap[gb250]? = some (.cells #[.int .u64 a3_0, .int .u64 a3_1] 26 (0, 0))) ∧ Aside0 (wc.heap[gb251]? = some (.cells #[.int .u64 0, .int .u64 0, .int .u8 0, .int .u8 0] 29 (0, 0))) ∧ Aside0 (Below w.heap.size w wc))
    case first =>
     have H := HC10.out
     clear HC10
     by_cases c26 : (rd t255 0) ≤ 2
     ·rw [if_pos c26] at H
      have c26b0 : decide ((rd t255 0) ≤ 2) = true := decide_eq_true c26
      clear c26
      (first | rw [c26b0] | (simp only [i64_w, i32_w]; rw [c26b0]) | skip)
      have H' := A0_ H
      clear H
      go_wp2
      go_meet
      case rel => exact ⟨_, (decide ((rd t255 1) ≤ 2)), (by first | rfl | (simp; done) | (simp [*]; done)), H', ⟨by first | omega | exact Nat.le_refl _⟩, ⟨bm_ BK249.out⟩, ⟨bm_ BK250.out⟩, ⟨bm_ BK251.out⟩, ⟨by repeat (first | (with_reducible first | exact qm_ HB.out | apply qA_ | apply qN_ | apply qD_ | refine below_set ?_ GE249.out | refine below_set ?_ GE250.out | refine below_set ?_ GE251.out) | exact HB.out)⟩⟩
     ·rw [if_neg c26] at H
      have c26b0 : decide ((rd t255 0) ≤ 2) = false := decide_eq_false c26
      clear c26
      (first | rw [c26b0] | (simp only [i64_w, i32_w]; rw [c26b0]) | skip)
      have H' := A0_ H
      clear H
      go_wp2
      go_meet
      case rel => exact ⟨_, (false), (by first | rfl | (simp; done) | (simp [*]; done)), H', ⟨by first | omega | exact Nat.le_refl _⟩, ⟨bm_ BK249.out⟩, ⟨bm_ BK250.out⟩, ⟨bm_ BK251.out⟩, ⟨by repeat (first | (with_reducible first | exact qm_ HB.out | apply qA_ | apply qN_ | apply qD_ | refine below_set ?_ GE249.out | refine below_set ?_ GE250.out | refine below_set ?_ GE251.out) | exact HB.out)⟩⟩
    case rest =>
     clear HC10
     try clear c1
     try clear c2
     try clear p2
     try clear q2
     try clear hx2
     try clear qi2
     try clear c6
     try clear c6b0
     try clear c6b1
     try clear c7
     try clear c7b0
     try clear c7b1
     try clear c8
     try clear c8b0
     try clear c8b1
     try clear c14
     try clear c15
     try clear c16
     try clear c17
     try clear p25
     try clear q25
     try clear hx25
     try clear qi25
     try clear c26
     try clear c26b0
     try clear p26
     try clear q26
     try clear hx26
     try clear qi26
     try clear hcz16
     try clear hcz18
     try clear hfz16
     try clear hfz18
     try clear hx259_0
     try clear hx260_0
     try clear p259
     try clear p260
     try clear q259
     try clear q260
     obtain ⟨kq, x42_9, rfl, HA, HJ9, BK249, BK250, BK251, HB⟩ := hcut
     cases kq with
     | zero => exact absurd HA.out (by simp [special_Mul.j0])
     | succ kj9 =>
      have H := HA.out
      clear HA
      simp only [special_Mul.j0] at H
      by_cases c27 : x42_9 = true
      ·subst c27
       have H1 : (some (0, 0, 0, 0, false, 0)) = some (r1, r2, r3, r4, r5, r6) := by rw [if_pos rfl] at H; exact H
       clear H
       have H := H1
       clear H1
       simp only [Option.some.injEq, Prod.mk.injEq] at H
       obtain ⟨rfl, rfl, rfl, rfl, rfl, rfl⟩ := H
       have hnb28 := NB251_249.out
       have hnc28 := NB249_251.out
       have hnb29 := NB251_250.out
       have hnc29 := NB250_251.out
       have hcz30 := bc4_ BK251.out
       have hfz30 := bf4_ BK251.out
       go_wp2
       refine bodyPost_ret (results_ctt rfl _ _ gb251 29 #[.int .u64 0, .int .u64 0, .int .u8 0, .int .u8 0] (0, 0) _ rfl (by (with_reducible repeat first | apply bN_ | apply bD_ | apply bA_); refine blk_put (cs := #[.int .u64 0, .int .u64 0, .int .u8 0, .int .u8 0]) ?_ 3 _ rfl; (with_reducible repeat first | apply bN_ | apply bD_ | apply bA_); refine blk_put (cs := #[.int .u64 0, .int .u64 0, .int .u8 0, .int .u8 0]) ?_ 2 _ rfl; (with_reducible repeat first | apply bN_ | apply bD_ | apply bA_); refine blk_put (cs := #[.int .u64 0, .int .u64 0, .int .u8 0, .int .u8 0]) ?_ 1 _ rfl; (with_reducible repeat first | apply bN_ | apply bD_ | apply bA_); refine blk_put (cs := #[.int .u64 0, .int .u64 0, .int .u8 0, .int .u8 0]) ?_ 0 _ rfl; (with_reducible repeat first | apply bN_ | apply bD_ | apply bA_); exact BK251.out) Try.underlying29 rfl (by kernel_rfl)) rfl ?_
       exact ⟨by first | rfl | (simp [errW_none, errW_some] <;> rfl) | (simp [*, errW_none, errW_some] <;> rfl), by repeat (first | (with_reducible first | exact qm_ HB.out | apply qA_ | apply qN_ | apply qD_ | refine below_set ?_ GE249.out | refine below_set ?_ GE250.out | refine below_set ?_ GE251.out) | exact HB.out)⟩
      ·replace c27 := Bool.eq_false_iff.mpr c27
       subst c27
       have H1 : (if (rd t255 0) = 4 then (special_Mul.j1 kj9 a0 a1 (rd t255 0) (rd t255 1) t261 true a2_0 a2_1 a3_0 a3_1) else (special_Mul.j1 kj9 a0 a1 (rd t255 0) (rd t255 1) t261 ((rd t255 1) == 4) a2_0 a2_1 a3_0 a3_1)) = some (r1, r2, r3, r4, r5, r6) := by rw [if_neg (show ¬ (false = true) by decide)] at H; exact H
       clear H
       have H := H1
       clear H1
       have HC31 := A0_ H
       clear H
       go_upto_region 8 with (fail)
       go_cut [50] (fun v50 wc => ∃ (kq : Nat) (x50_30 : Bool), v50 = .bool x50_30 ∧ Aside0 (special_Mul.j1 kq a0 a1 (rd t255 0) (rd t255 1) t261 x50_30 a2_0 a2_1 a3_0 a3_1 = some (r1, r2, r3, r4, r5, r6)) ∧ Aside0 (kq ≤ kj9) ∧ Aside0 (wc.heap[gb249]? = some (.cells #[.int .u64 a2_0, .int .u64 a2_1] 26 (0, 0))) ∧ Aside0 (wc.heap[gb250]? = some (.cells #[.int .u64 a3_0, .int .u64 a3_1] 26 (0, 0))) ∧ Aside0 (wc.heap[gb251]? = some (.cells #[.int .u64 0, .int .u64 0, .int .u8 0, .int .u8 0] 29 (0, 0))) ∧ Aside0 (Below w.heap.size w wc))
       case first =>
        have H := HC31.out
        clear HC31
        by_cases c32 : (rd t255 0) = 4
        ·rw [if_pos c32] at H
         have c32b0 : ((rd t255 0) == 4) = true := beq_iff_eq.mpr c32
         have c32b1 : ((rd t255 0) != 4) = false := bne_eq_false_iff_eq.mpr c32
         clear c32
         (first | rw [c32b0] | (simp only [i64_w, i32_w]; rw [c32b0]) | skip)
         have H' := A0_ H
         clear H
         go_wp2
         go_meet
         case rel => exact ⟨_, (true), (by first | rfl | (simp; done) | (simp [*]; done)), H', ⟨by have := HJ9.out; first | omega | exact Nat.le_refl _⟩, ⟨bm_ BK249.out⟩, ⟨bm_ BK250.out⟩, ⟨bm_ BK251.out⟩, ⟨by repeat (first | (with_reducible first | exact qm_ HB.out | apply qA_ | apply qN_ | apply qD_ | refine below_set ?_ GE249.out | refine below_set ?_ GE250.out | refine below_set ?_ GE251.out) | exact HB.out)⟩⟩
        ·rw [if_neg c32] at H
         have c32b0 : ((rd t255 0) == 4) = false := beq_eq_false_iff_ne.mpr c32
         have c32b1 : ((rd t255 0) != 4) = true := bne_iff_ne.mpr c32
         (first | rw [c32b0] | (simp only [i64_w, i32_w]; rw [c32b0]) | skip)
         have H' := A0_ H
         clear H
         go_wp2
         go_meet
         case rel => exact ⟨_, (((rd t255 1) == 4)), (by first | rfl | (simp; done) | (simp [*]; done)), H', ⟨by have := HJ9.out; first | omega | exact Nat.le_refl _⟩, ⟨bm_ BK249.out⟩, ⟨bm_ BK250.out⟩, ⟨bm_ BK251.out⟩, ⟨by repeat (first | (with_reducible first | exact qm_ HB.out | apply qA_ | apply qN_ | apply qD_ | refine below_set ?_ GE249.out | refine below_set ?_ GE250.out | refine below_set ?_ GE251.out) | exact HB.out)⟩⟩
       case rest =>
        clear HC31
        try clear c1
        try clear c2
        try clear p2
        try clear q2
        try clear hx2
        try clear qi2
        try clear c3
        try clear c6
        try clear c6b0
        try clear c6b1
        try clear c7
        try clear c7b0
        try clear c7b1
        try clear c8
        try clear c8b0
        try clear c8b1
        try clear c14
        try clear c15
        try clear c16
        try clear c17
        try clear p25
        try clear q25
        try clear hx25
        try clear qi25
        try clear c26
        try clear c26b0
        try clear p26
        try clear q26
        try clear hx26
        try clear qi26
        try clear c27
        try clear c28
        try clear c29
        try clear c32
        try clear c32b0
        try clear c32b1
        try clear hcz16
        try clear hcz18
        try clear hcz30
        try clear hfz16
        try clear hfz18
        try clear hfz30
        try clear hx259_0
        try clear hx260_0
        try clear p2
        try clear p25
        try clear p259
        try clear p26
        try clear p260
        try clear q2
        try clear q25
        try clear q259
        try clear q26
        try clear q260
        obtain ⟨kq, x50_30, rfl, HA, HJ30, BK249, BK250, BK251, HB⟩ := hcut
        cases kq with
        | zero => exact absurd HA.out (by simp [special_Mul.j1])
        | succ kj30 =>
         have H := HA.out
         clear HA
         simp only [special_Mul.j1] at H
         by_cases c33 : x50_30 = true
         ·subst c33
          have H1 : ((special_none.f kj30 a0 0).bind fun bt263 => (some (bt263.1, bt263.2.1, bt263.2.2.1, bt263.2.2.2, true, 0))) = some (r1, r2, r3, r4, r5, r6) := by rw [if_pos rfl] at H; exact H
          clear H
          have H := H1
          clear H1
          replace H := Option.bind_eq_some_iff.mp H
          obtain ⟨⟨t263, t264, t265, t266⟩, A340, H⟩ := H
          replace H : (some (t263, t264, t265, t266, true, 0)) = some (r1, r2, r3, r4, r5, r6) := H
          have A34 := A0_ A340
          clear A340
          simp only [Option.some.injEq, Prod.mk.injEq] at H
          obtain ⟨rfl, rfl, rfl, rfl, rfl, rfl⟩ := H
          go_wp2_with (first | ((with_reducible refine gate_callee (f := 18) rfl ?_); refine goesL_ (some 58) rfl rfl Try.func18 (by kernel_rfl) rfl #[.int .u8 a0, .int .u8 0] rfl (by (try simp only [List.map_toArray, List.map_cons, List.map_nil]); first | done | rfl | (simp only [List.length_drop, List.length_take]; rfl)) ?_; (with_reducible refine (special_none.calls kj30 a0 0 t263 t264 t265 t266 _ A34.out).mono ?_); rintro e w35 ⟨rfl, hb⟩; refine ⟨_, rfl, ?_⟩; have n0_ := A0_ (blk_below (bm_ BK249.out) hb); have n1_ := A0_ (blk_below (bm_ BK250.out) hb); have n2_ := A0_ (blk_below (bm_ BK251.out) hb); have n3_ := A0_ (below_step (by repeat (first | (with_reducible first | exact qm_ HB.out | apply qA_ | apply qN_ | apply qD_ | refine below_set ?_ GE249.out | refine below_set ?_ GE250.out | refine below_set ?_ GE251.out) | exact HB.out)) hb); clear BK249; clear BK250; clear BK251; clear HB; have BK249 := n0_; have BK250 := n1_; have BK251 := n2_; have HB := n3_; clear n0_ n1_ n2_ n3_; (try clear hb); (try clear hb2); (try clear hk); (try clear hi); have hnb36 := NB251_249.out; have hnc36 := NB249_251.out; have hnb37 := NB251_250.out; have hnc37 := NB250_251.out; have hcz38 := bc4_ BK251.out; have hfz38 := bf4_ BK251.out))
          refine bodyPost_ret (results_ctt rfl _ _ gb251 29 #[.int .u64 t263, .int .u64 t264, .int .u8 t265, .int .u8 t266] (0, 0) _ rfl (by (with_reducible repeat first | apply bN_ | apply bD_ | apply bA_); refine blk_put (cs := #[.int .u64 t263, .int .u64 t264, .int .u8 t265, .int .u8 0]) ?_ 3 _ rfl; (with_reducible repeat first | apply bN_ | apply bD_ | apply bA_); refine blk_put (cs := #[.int .u64 t263, .int .u64 t264, .int .u8 0, .int .u8 0]) ?_ 2 _ rfl; (with_reducible repeat first | apply bN_ | apply bD_ | apply bA_); refine blk_put (cs := #[.int .u64 t263, .int .u64 0, .int .u8 0, .int .u8 0]) ?_ 1 _ rfl; (with_reducible repeat first | apply bN_ | apply bD_ | apply bA_); refine blk_put (cs := #[.int .u64 0, .int .u64 0, .int .u8 0, .int .u8 0]) ?_ 0 _ rfl; (with_reducible repeat first | apply bN_ | apply bD_ | apply bA_); exact BK251.out) Try.underlying29 rfl (by kernel_rfl)) rfl ?_
          exact ⟨by first | rfl | (simp [errW_none, errW_some] <;> rfl) | (simp [*, errW_none, errW_some] <;> rfl), by repeat (first | (with_reducible first | exact qm_ HB.out | apply qA_ | apply qN_ | apply qD_ | refine below_set ?_ GE249.out | refine below_set ?_ GE250.out | refine below_set ?_ GE251.out) | exact HB.out)⟩
         ·replace c33 := Bool.eq_false_iff.mpr c33
          subst c33
          have H1 : (if (rd t255 0) = 1 then ((special_none.f kj30 a0 1).bind fun bt267 => (some (bt267.1, bt267.2.1, bt267.2.2.1, bt267.2.2.2, true, 0))) else (if (rd t255 1) = 1 then ((special_none.f kj30 a0 1).bind fun bt271 => (some (bt271.1, bt271.2.1, bt271.2.2.1, bt271.2.2.2, true, 0))) else ((special_boxOf.f kj30 a0 a2_0 a2_1 (rd t255 0)).bind fun bt275 => ((special_boxOf.f kj30 a0 a3_0 a3_1 (rd t255 1)).bind fun bt279 => ((special_box_times.f bt275.1 bt275.2.1 bt275.2.2.1 bt275.2.2.2 bt279.1 bt279.2.1 bt279.2.2.1 bt279.2.2.2 a1).bind fun bt283 => ((special_box_words.f kj30 bt283.1 bt283.2.1 bt283.2.2.1 bt283.2.2.2 a0 t261).bind fun bt288 => (some (bt288.1, bt288.2, 0, 0, true, 0)))))))) = some (r1, r2, r3, r4, r5, r6) := by rw [if_neg (show ¬ (false = true) by decide)] at H; exact H
          clear H
          have H := H1
          clear H1
          by_cases c39 : (rd t255 0) = 1
          ·rw [if_pos c39] at H
           have c39b0 : ((rd t255 0) == 1) = true := beq_iff_eq.mpr c39
           have c39b1 : ((rd t255 0) != 1) = false := bne_eq_false_iff_eq.mpr c39
           clear c39
           replace H := Option.bind_eq_some_iff.mp H
           obtain ⟨⟨t267, t268, t269, t270⟩, A400, H⟩ := H
           replace H : (some (t267, t268, t269, t270, true, 0)) = some (r1, r2, r3, r4, r5, r6) := H
           have A40 := A0_ A400
           clear A400
           simp only [Option.some.injEq, Prod.mk.injEq] at H
           obtain ⟨rfl, rfl, rfl, rfl, rfl, rfl⟩ := H
           go_wp2_with (first | ((with_reducible refine gate_callee (f := 18) rfl ?_); refine goesL_ (some 67) rfl rfl Try.func18 (by kernel_rfl) rfl #[.int .u8 a0, .int .u8 1] rfl (by (try simp only [List.map_toArray, List.map_cons, List.map_nil]); first | done | rfl | (simp only [List.length_drop, List.length_take]; rfl)) ?_; (with_reducible refine (special_none.calls kj30 a0 1 t267 t268 t269 t270 _ A40.out).mono ?_); rintro e w41 ⟨rfl, hb⟩; refine ⟨_, rfl, ?_⟩; have n0_ := A0_ (blk_below (bm_ BK249.out) hb); have n1_ := A0_ (blk_below (bm_ BK250.out) hb); have n2_ := A0_ (blk_below (bm_ BK251.out) hb); have n3_ := A0_ (below_step (by repeat (first | (with_reducible first | exact qm_ HB.out | apply qA_ | apply qN_ | apply qD_ | refine below_set ?_ GE249.out | refine below_set ?_ GE250.out | refine below_set ?_ GE251.out) | exact HB.out)) hb); clear BK249; clear BK250; clear BK251; clear HB; have BK249 := n0_; have BK250 := n1_; have BK251 := n2_; have HB := n3_; clear n0_ n1_ n2_ n3_; (try clear hb); (try clear hb2); (try clear hk); (try clear hi); have hnb42 := NB251_249.out; have hnc42 := NB249_251.out; have hnb43 := NB251_250.out; have hnc43 := NB250_251.out; have hcz44 := bc4_ BK251.out; have hfz44 := bf4_ BK251.out))
           refine bodyPost_ret (results_ctt rfl _ _ gb251 29 #[.int .u64 t267, .int .u64 t268, .int .u8 t269, .int .u8 t270] (0, 0) _ rfl (by (with_reducible repeat first | apply bN_ | apply bD_ | apply bA_); refine blk_put (cs := #[.int .u64 t267, .int .u64 t268, .int .u8 t269, .int .u8 0]) ?_ 3 _ rfl; (with_reducible repeat first | apply bN_ | apply bD_ | apply bA_); refine blk_put (cs := #[.int .u64 t267, .int .u64 t268, .int .u8 0, .int .u8 0]) ?_ 2 _ rfl; (with_reducible repeat first | apply bN_ | apply bD_ | apply bA_); refine blk_put (cs := #[.int .u64 t267, .int .u64 0, .int .u8 0, .int .u8 0]) ?_ 1 _ rfl; (with_reducible repeat first | apply bN_ | apply bD_ | apply bA_); refine blk_put (cs := #[.int .u64 0, .int .u64 0, .int .u8 0, .int .u8 0]) ?_ 0 _ rfl; (with_reducible repeat first | apply bN_ | apply bD_ | apply bA_); exact BK251.out) Try.underlying29 rfl (by kernel_rfl)) rfl ?_
           exact ⟨by first | rfl | (simp [errW_none, errW_some] <;> rfl) | (simp [*, errW_none, errW_some] <;> rfl), by repeat (first | (with_reducible first | exact qm_ HB.out | apply qA_ | apply qN_ | apply qD_ | refine below_set ?_ GE249.out | refine below_set ?_ GE250.out | refine below_set ?_ GE251.out) | exact HB.out)⟩
          ·rw [if_neg c39] at H
           have c39b0 : ((rd t255 0) == 1) = false := beq_eq_false_iff_ne.mpr c39
           have c39b1 : ((rd t255 0) != 1) = true := bne_iff_ne.mpr c39
           by_cases c45 : (rd t255 1) = 1
           ·rw [if_pos c45] at H
            have c45b0 : ((rd t255 1) == 1) = true := beq_iff_eq.mpr c45
            have c45b1 : ((rd t255 1) != 1) = false := bne_eq_false_iff_eq.mpr c45
            clear c45
            replace H := Option.bind_eq_some_iff.mp H
            obtain ⟨⟨t271, t272, t273, t274⟩, A460, H⟩ := H
            replace H : (some (t271, t272, t273, t274, true, 0)) = some (r1, r2, r3, r4, r5, r6) := H
            have A46 := A0_ A460
            clear A460
            simp only [Option.some.injEq, Prod.mk.injEq] at H
            obtain ⟨rfl, rfl, rfl, rfl, rfl, rfl⟩ := H
            go_wp2_with (first | ((with_reducible refine gate_callee (f := 18) rfl ?_); refine goesL_ (some 67) rfl rfl Try.func18 (by kernel_rfl) rfl #[.int .u8 a0, .int .u8 1] rfl (by (try simp only [List.map_toArray, List.map_cons, List.map_nil]); first | done | rfl | (simp only [List.length_drop, List.length_take]; rfl)) ?_; (with_reducible refine (special_none.calls kj30 a0 1 t271 t272 t273 t274 _ A46.out).mono ?_); rintro e w47 ⟨rfl, hb⟩; refine ⟨_, rfl, ?_⟩; have n0_ := A0_ (blk_below (bm_ BK249.out) hb); have n1_ := A0_ (blk_below (bm_ BK250.out) hb); have n2_ := A0_ (blk_below (bm_ BK251.out) hb); have n3_ := A0_ (below_step (by repeat (first | (with_reducible first | exact qm_ HB.out | apply qA_ | apply qN_ | apply qD_ | refine below_set ?_ GE249.out | refine below_set ?_ GE250.out | refine below_set ?_ GE251.out) | exact HB.out)) hb); clear BK249; clear BK250; clear BK251; clear HB; have BK249 := n0_; have BK250 := n1_; have BK251 := n2_; have HB := n3_; clear n0_ n1_ n2_ n3_; (try clear hb); (try clear hb2); (try clear hk); (try clear hi); have hnb48 := NB251_249.out; have hnc48 := NB249_251.out; have hnb49 := NB251_250.out; have hnc49 := NB250_251.out; have hcz50 := bc4_ BK251.out; have hfz50 := bf4_ BK251.out))
            refine bodyPost_ret (results_ctt rfl _ _ gb251 29 #[.int .u64 t271, .int .u64 t272, .int .u8 t273, .int .u8 t274] (0, 0) _ rfl (by (with_reducible repeat first | apply bN_ | apply bD_ | apply bA_); refine blk_put (cs := #[.int .u64 t271, .int .u64 t272, .int .u8 t273, .int .u8 0]) ?_ 3 _ rfl; (with_reducible repeat first | apply bN_ | apply bD_ | apply bA_); refine blk_put (cs := #[.int .u64 t271, .int .u64 t272, .int .u8 0, .int .u8 0]) ?_ 2 _ rfl; (with_reducible repeat first | apply bN_ | apply bD_ | apply bA_); refine blk_put (cs := #[.int .u64 t271, .int .u64 0, .int .u8 0, .int .u8 0]) ?_ 1 _ rfl; (with_reducible repeat first | apply bN_ | apply bD_ | apply bA_); refine blk_put (cs := #[.int .u64 0, .int .u64 0, .int .u8 0, .int .u8 0]) ?_ 0 _ rfl; (with_reducible repeat first | apply bN_ | apply bD_ | apply bA_); exact BK251.out) Try.underlying29 rfl (by kernel_rfl)) rfl ?_
            exact ⟨by first | rfl | (simp [errW_none, errW_some] <;> rfl) | (simp [*, errW_none, errW_some] <;> rfl), by repeat (first | (with_reducible first | exact qm_ HB.out | apply qA_ | apply qN_ | apply qD_ | refine below_set ?_ GE249.out | refine below_set ?_ GE250.out | refine below_set ?_ GE251.out) | exact HB.out)⟩
           ·rw [if_neg c45] at H
            have c45b0 : ((rd t255 1) == 1) = false := beq_eq_false_iff_ne.mpr c45
            have c45b1 : ((rd t255 1) != 1) = true := bne_iff_ne.mpr c45
            replace H := Option.bind_eq_some_iff.mp H
            obtain ⟨⟨t275, t276, t277, t278⟩, A510, H⟩ := H
            replace H : ((special_boxOf.f kj30 a0 a3_0 a3_1 (rd t255 1)).bind fun bt279 => ((special_box_times.f t275 t276 t277 t278 bt279.1 bt279.2.1 bt279.2.2.1 bt279.2.2.2 a1).bind fun bt283 => ((special_box_words.f kj30 bt283.1 bt283.2.1 bt283.2.2.1 bt283.2.2.2 a0 t261).bind fun bt288 => (some (bt288.1, bt288.2, 0, 0, true, 0))))) = some (r1, r2, r3, r4, r5, r6) := H
            have A51 := A0_ A510
            clear A510
            replace H := Option.bind_eq_some_iff.mp H
            obtain ⟨⟨t279, t280, t281, t282⟩, A520, H⟩ := H
            replace H : ((special_box_times.f t275 t276 t277 t278 t279 t280 t281 t282 a1).bind fun bt283 => ((special_box_words.f kj30 bt283.1 bt283.2.1 bt283.2.2.1 bt283.2.2.2 a0 t261).bind fun bt288 => (some (bt288.1, bt288.2, 0, 0, true, 0)))) = some (r1, r2, r3, r4, r5, r6) := H
            have A52 := A0_ A520
            clear A520
            replace H := Option.bind_eq_some_iff.mp H
            obtain ⟨⟨t283, t284, t285, t286⟩, A530, H⟩ := H
            replace H : ((special_box_words.f kj30 t283 t284 t285 t286 a0 t261).bind fun bt288 => (some (bt288.1, bt288.2, 0, 0, true, 0))) = some (r1, r2, r3, r4, r5, r6) := H
            have A53 := A0_ A530
            clear A530
            replace H := Option.bind_eq_some_iff.mp H
            obtain ⟨⟨t288, t289⟩, A540, H⟩ := H
            replace H : (some (t288, t289, 0, 0, true, 0)) = some (r1, r2, r3, r4, r5, r6) := H
            have A54 := A0_ A540
            clear A540
            simp only [Option.some.injEq, Prod.mk.injEq] at H
            obtain ⟨rfl, rfl, rfl, rfl, rfl, rfl⟩ := H
            try go_wp2
            have n0_ := A0_ (blk_drew BK249.out)
            have n1_ := A0_ (blk_drew BK250.out)
            have n2_ := A0_ (blk_drew BK251.out)
            have n3_ := A0_ (below_drew1 HB.out)
            clear BK249
            clear BK250
            clear BK251
            clear HB
            have BK249 := n0_
            have BK250 := n1_
            have BK251 := n2_
            have HB := n3_
            clear n0_ n1_ n2_ n3_
            refine start_ (n := 12) (S := fun w' => w'.cell? ⟨gb249, 0, none⟩ = some (.int .u64 a2_0) ∧ w'.cell? ⟨gb249, 1, none⟩ = some (.int .u64 a2_1) ∧ w'.cell? ⟨gb250, 0, none⟩ = some (.int .u64 a3_0) ∧ w'.cell? ⟨gb250, 1, none⟩ = some (.int .u64 a3_1)) (ds := []) #[false, false, false, false, false, false, false, false, false, false, false, false] (by kernel_rfl) rfl rfl ⟨(blk_cell BK249.out 0).trans rfl, (blk_cell BK249.out 1).trans rfl, (blk_cell BK250.out 0).trans rfl, (blk_cell BK250.out 1).trans rfl⟩ (fun hHeld => ?_); refine with_tabW special_Mul.tab12 special_Mul.bits12 (fun HT_ HW_ => ?_)
            generalize wc.drew = w55 at BK249 BK250 BK251 HB hHeld ⊢
            refine pure_ (i := 0) (N := some 68) (v := ?_) (a' := ?_) #[true, false, false, false, false, false, false, false, false, false, false, false] rfl rfl (any_of HT_.out (by kernel_rfl)) (fun _ _ _ h => h) (Or.inl ⟨by rfl, ?_⟩) ?_ ?_
            rotate_left
            ·intro w'
             go_simp
             with_reducible rfl
            rotate_left
            ·simp only [Act.put, List.setIfInBounds_toArray, List.set_cons_zero, List.set_cons_succ, i64_w, i32_w]
             rfl
            refine pure_ (i := 2) (N := some 70) (v := ?_) (a' := ?_) #[true, false, true, false, false, false, false, false, false, false, false, false] rfl rfl (any_of HT_.out (by kernel_rfl)) (fun _ _ _ h => h) (Or.inl ⟨by rfl, ?_⟩) ?_ ?_
            rotate_left
            ·intro w'
             go_simp
             with_reducible rfl
            rotate_left
            ·simp only [Act.put, List.setIfInBounds_toArray, List.set_cons_zero, List.set_cons_succ, i64_w, i32_w]
             rfl
            refine pure_ (i := 4) (N := some 72) (v := ?_) (a' := ?_) #[true, false, true, false, true, false, false, false, false, false, false, false] rfl rfl (any_of HT_.out (by kernel_rfl)) (fun _ _ _ h => h) (Or.inl ⟨by rfl, ?_⟩) ?_ ?_
            rotate_left
            ·intro w'
             go_simp
             with_reducible rfl
            rotate_left
            ·simp only [Act.put, List.setIfInBounds_toArray, List.set_cons_zero, List.set_cons_succ, i64_w, i32_w]
             rfl
            refine pure_ (i := 6) (N := some 74) (v := ?_) (a' := ?_) #[true, false, true, false, true, false, true, false, false, false, false, false] rfl rfl (any_of HT_.out (by kernel_rfl)) (fun _ _ _ h => h) (Or.inl ⟨by rfl, ?_⟩) ?_ ?_
            rotate_left
            ·intro w'
             go_simp
             with_reducible rfl
            rotate_left
            ·simp only [Act.put, List.setIfInBounds_toArray, List.set_cons_zero, List.set_cons_succ, i64_w, i32_w]
             rfl
            refine pure_ (i := 8) (N := some 76) (v := ?_) (a' := ?_) #[true, false, true, false, true, false, true, false, true, false, false, false] rfl rfl (any_of HT_.out (by kernel_rfl)) (fun _ _ _ h => h) (Or.inl ⟨by rfl, ?_⟩) ?_ ?_
            rotate_left
            ·intro w'
             go_simp
             with_reducible rfl
            rotate_left
            ·simp only [Act.put, List.setIfInBounds_toArray, List.set_cons_zero, List.set_cons_succ, i64_w, i32_w]
             rfl
            refine take_ (i := 1) (N := some 69) (v := ?_) (a' := ?_) #[true, true, true, false, true, false, true, false, true, false, false, false] rfl rfl (take_ofW HT_.out HW_.out (by kernel_rfl)) (fun _ _ _ h => h) (Or.inl ⟨by rfl, ?_⟩) hHeld ?_ ?_
            rotate_left
            ·rintro w' ⟨s0, s1, s2, s3⟩
             go_simp
             with_reducible rfl
            rotate_left
            ·simp only [Act.put, List.setIfInBounds_toArray, List.set_cons_zero, List.set_cons_succ, i64_w, i32_w]
             rfl
            refine take_ (i := 5) (N := some 73) (v := ?_) (a' := ?_) #[true, true, true, false, true, true, true, false, true, false, false, false] rfl rfl (take_ofW HT_.out HW_.out (by kernel_rfl)) (fun _ _ _ h => h) (Or.inl ⟨by rfl, ?_⟩) hHeld ?_ ?_
            rotate_left
            ·rintro w' ⟨s0, s1, s2, s3⟩
             go_simp
             with_reducible rfl
            rotate_left
            ·simp only [Act.put, List.setIfInBounds_toArray, List.set_cons_zero, List.set_cons_succ, i64_w, i32_w]
             rfl
            refine join_ (σ := Nat) 1 #[true, true, true, true, true, true, true, true, true, true, true, false] (fun s_ => [(71, .agg #[.int .i64 t275, .bool t276, .int .i64 t277, .bool t278]), (75, .agg #[.int .i64 t279, .bool t280, .int .i64 t281, .bool t282]), (77, .agg #[.int .i64 t283, .bool t284, .int .i64 t285, .bool t286]), (17, .pointer (some ⟨s_, 0, none⟩))]) (fun s_ w' => (w'.cell? ⟨gb249, 0, none⟩ = some (.int .u64 a2_0) ∧ w'.cell? ⟨gb249, 1, none⟩ = some (.int .u64 a2_1) ∧ w'.cell? ⟨gb250, 0, none⟩ = some (.int .u64 a3_0) ∧ w'.cell? ⟨gb250, 1, none⟩ = some (.int .u64 a3_1)) ∧ (w'.heap[gb249]? = some (.cells #[.int .u64 a2_0, .int .u64 a2_1] 26 (0, 0))) ∧ (w'.heap[gb250]? = some (.cells #[.int .u64 a3_0, .int .u64 a3_1] 26 (0, 0))) ∧ (w'.heap[gb251]? = some (.cells #[.int .u64 0, .int .u64 0, .int .u8 0, .int .u8 0] 29 (0, 0))) ∧ (w'.heap[s_]? = some (.cells #[.int .i64 0, .bool false, .int .i64 0, .bool false] 54 (0, 0))) ∧ (w.heap.size ≤ s_) ∧ (w.heap.size ≤ s_) ∧ (gb249 ≠ s_) ∧ (s_ ≠ gb249) ∧ (gb250 ≠ s_) ∧ (s_ ≠ gb250) ∧ (gb251 ≠ s_) ∧ (s_ ≠ gb251) ∧ (Below w.heap.size w w')) ?_ ?_
            rotate_left
            ·intro hCont
             refine two_ (i := 3) (j := 10) (Ni := some 71) (Nj := some 17) #[true, true, true, true, true, true, true, false, true, false, false, false] #[true, true, true, false, true, true, true, false, true, false, true, false] rfl rfl rfl rfl (two_of HT_.out (by kernel_rfl)) (by decide) (by decide) (fun K hK => ?_) (fun K hK => ?_)
             ·skip
              refine goes_ Try.func19 (by kernel_rfl) rfl #[.int .u8 a0, .agg #[.int .u64 a2_0, .int .u64 a2_1], .int .u8 (rd t255 0)] (by rfl) rfl rfl (by (try simp only [List.map_toArray, List.map_cons, List.map_nil]); first | done | rfl | (simp only [List.length_drop, List.length_take]; rfl)) ?_
              with_reducible refine (special_boxOf.calls kj30 a0 a2_0 a2_1 (rd t255 0) t275 t276 t277 t278 _ A51.out).mono ?_
              rintro e w56 ⟨rfl, hb⟩
              refine ⟨_, rfl, ?_⟩
              have n0_ := A0_ (blk_below (bm_ BK249.out) hb)
              have n1_ := A0_ (blk_below (bm_ BK250.out) hb)
              have n2_ := A0_ (blk_below (bm_ BK251.out) hb)
              have n3_ := A0_ (below_step (by repeat (first | (with_reducible first | exact qm_ HB.out | apply qA_ | apply qN_ | apply qD_ | refine below_set ?_ GE249.out | refine below_set ?_ GE250.out | refine below_set ?_ GE251.out) | exact HB.out)) hb)
              clear BK249
              clear BK250
              clear BK251
              clear HB
              have BK249 := n0_
              have BK250 := n1_
              have BK251 := n2_
              have HB := n3_
              clear n0_ n1_ n2_ n3_
              (try clear hb)
              (try clear hb2)
              (try clear hk)
              (try clear hi)
              refine hK.out _ _ ⟨(blk_cell BK249.out 0).trans rfl, (blk_cell BK249.out 1).trans rfl, (blk_cell BK250.out 0).trans rfl, (blk_cell BK250.out 1).trans rfl⟩ (fun hHeld => ?_)
              clear hK K
              refine norm_ (a' := ?_) ?_ ?_
              rotate_left
              ·show Act.put _ (some 71) _ = _
               simp only [Act.put, List.setIfInBounds_toArray, List.set_cons_zero, List.set_cons_succ, i64_w, i32_w]
               rfl
              refine two_ (i := 7) (j := 10) (Ni := some 75) (Nj := some 17) #[true, true, true, true, true, true, true, true, true, false, false, false] #[true, true, true, true, true, true, true, false, true, false, true, false] rfl rfl rfl rfl (two_of HT_.out (by kernel_rfl)) (by decide) (by decide) (fun K hK => ?_) (fun K hK => ?_)
              ·skip
               refine goes_ Try.func19 (by kernel_rfl) rfl #[.int .u8 a0, .agg #[.int .u64 a3_0, .int .u64 a3_1], .int .u8 (rd t255 1)] (by rfl) rfl rfl (by (try simp only [List.map_toArray, List.map_cons, List.map_nil]); first | done | rfl | (simp only [List.length_drop, List.length_take]; rfl)) ?_
               with_reducible refine (special_boxOf.calls kj30 a0 a3_0 a3_1 (rd t255 1) t279 t280 t281 t282 _ A52.out).mono ?_
               rintro e w57 ⟨rfl, hb⟩
               refine ⟨_, rfl, ?_⟩
               have n0_ := A0_ (blk_below (bm_ BK249.out) hb)
               have n1_ := A0_ (blk_below (bm_ BK250.out) hb)
               have n2_ := A0_ (blk_below (bm_ BK251.out) hb)
               have n3_ := A0_ (below_step (by repeat (first | (with_reducible first | exact qm_ HB.out | apply qA_ | apply qN_ | apply qD_ | refine below_set ?_ GE249.out | refine below_set ?_ GE250.out | refine below_set ?_ GE251.out) | exact HB.out)) hb)
               clear BK249
               clear BK250
               clear BK251
               clear HB
               have BK249 := n0_
               have BK250 := n1_
               have BK251 := n2_
               have HB := n3_
               clear n0_ n1_ n2_ n3_
               (try clear hb)
               (try clear hb2)
               (try clear hk)
               (try clear hi)
               refine hK.out _ _ ⟨(blk_cell BK249.out 0).trans rfl, (blk_cell BK249.out 1).trans rfl, (blk_cell BK250.out 0).trans rfl, (blk_cell BK250.out 1).trans rfl⟩ (fun hHeld => ?_)
               clear hK K
               refine norm_ (a' := ?_) ?_ ?_
               rotate_left
               ·show Act.put _ (some 75) _ = _
                simp only [Act.put, List.setIfInBounds_toArray, List.set_cons_zero, List.set_cons_succ, i64_w, i32_w]
                rfl
               refine two_ (i := 9) (j := 10) (Ni := some 77) (Nj := some 17) #[true, true, true, true, true, true, true, true, true, true, false, false] #[true, true, true, true, true, true, true, true, true, false, true, false] rfl rfl rfl rfl (two_of HT_.out (by kernel_rfl)) (by decide) (by decide) (fun K hK => ?_) (fun K hK => ?_)
               ·skip
                refine goes_ Try.func20 (by kernel_rfl) rfl #[.agg #[.int .i64 t275, .bool t276, .int .i64 t277, .bool t278], .agg #[.int .i64 t279, .bool t280, .int .i64 t281, .bool t282], .int .u8 a1] (by rfl) rfl rfl (by (try simp only [List.map_toArray, List.map_cons, List.map_nil]); first | done | rfl | (simp only [List.length_drop, List.length_take]; rfl)) ?_
                with_reducible refine (special_box_times.calls t275 t276 t277 t278 t279 t280 t281 t282 a1 t283 t284 t285 t286 _ A53.out).mono ?_
                rintro e w58 ⟨rfl, hb⟩
                refine ⟨_, rfl, ?_⟩
                have n0_ := A0_ (blk_below (bm_ BK249.out) hb)
                have n1_ := A0_ (blk_below (bm_ BK250.out) hb)
                have n2_ := A0_ (blk_below (bm_ BK251.out) hb)
                have n3_ := A0_ (below_step (by repeat (first | (with_reducible first | exact qm_ HB.out | apply qA_ | apply qN_ | apply qD_ | refine below_set ?_ GE249.out | refine below_set ?_ GE250.out | refine below_set ?_ GE251.out) | exact HB.out)) hb)
                clear BK249
                clear BK250
                clear BK251
                clear HB
                have BK249 := n0_
                have BK250 := n1_
                have BK251 := n2_
                have HB := n3_
                clear n0_ n1_ n2_ n3_
                (try clear hb)
                (try clear hb2)
                (try clear hk)
                (try clear hi)
                refine hK.out _ _ ⟨(blk_cell BK249.out 0).trans rfl, (blk_cell BK249.out 1).trans rfl, (blk_cell BK250.out 0).trans rfl, (blk_cell BK250.out 1).trans rfl⟩ (fun hHeld => ?_)
                clear hK K
                refine norm_ (a' := ?_) ?_ ?_
                rotate_left
                ·show Act.put _ (some 77) _ = _
                 simp only [Act.put, List.setIfInBounds_toArray, List.set_cons_zero, List.set_cons_succ, i64_w, i32_w]
                 rfl
                refine one_ (i := 10) (N := some 17) #[true, true, true, true, true, true, true, true, true, true, true, false] rfl rfl (one_of HT_.out (by kernel_rfl)) (by decide) (fun K hK => ?_)
                refine box_step ?hg (N := 17) ?hd (cs := #[.int .i64 0, .bool false, .int .i64 0, .bool false]) (t := 54) ?hr ?_; (case hd => rfl); (case hg => rfl); (case hr => first | (go_simp; done) | (go_simp; rfl))
                intro gb287 hg w59 hbox hb
                have n0_ := A0_ (blk_below (bm_ BK249.out) hb)
                have n1_ := A0_ (blk_below (bm_ BK250.out) hb)
                have n2_ := A0_ (blk_below (bm_ BK251.out) hb)
                have n3_ := A0_ (below_step (by repeat (first | (with_reducible first | exact qm_ HB.out | apply qA_ | apply qN_ | apply qD_ | refine below_set ?_ GE249.out | refine below_set ?_ GE250.out | refine below_set ?_ GE251.out) | exact HB.out)) hb)
                have n4_ := A0_ (hbox)
                have n5_ := A0_ ((by rw [hg]; exact (below_size (by repeat (first | (with_reducible first | exact qm_ HB.out | apply qA_ | apply qN_ | apply qD_ | refine below_set ?_ GE249.out | refine below_set ?_ GE250.out | refine below_set ?_ GE251.out) | exact HB.out))) : w.heap.size ≤ gb287))
                have n6_ := A0_ ((by rw [hg]; exact (below_size (by repeat (first | (with_reducible first | exact qm_ HB.out | apply qA_ | apply qN_ | apply qD_ | refine below_set ?_ GE249.out | refine below_set ?_ GE250.out | refine below_set ?_ GE251.out) | exact HB.out))) : w.heap.size ≤ gb287))
                have n7_ := A0_ ((by rw [hg]; exact Nat.ne_of_lt (blk_lt (bm_ BK249.out)) : gb249 ≠ gb287))
                have n8_ := A0_ ((by rw [hg]; exact Nat.ne_of_gt (blk_lt (bm_ BK249.out)) : gb287 ≠ gb249))
                have n9_ := A0_ ((by rw [hg]; exact Nat.ne_of_lt (blk_lt (bm_ BK250.out)) : gb250 ≠ gb287))
                have n10_ := A0_ ((by rw [hg]; exact Nat.ne_of_gt (blk_lt (bm_ BK250.out)) : gb287 ≠ gb250))
                have n11_ := A0_ ((by rw [hg]; exact Nat.ne_of_lt (blk_lt (bm_ BK251.out)) : gb251 ≠ gb287))
                have n12_ := A0_ ((by rw [hg]; exact Nat.ne_of_gt (blk_lt (bm_ BK251.out)) : gb287 ≠ gb251))
                clear BK249
                clear BK250
                clear BK251
                clear HB
                have BK249 := n0_
                have BK250 := n1_
                have BK251 := n2_
                have HB := n3_
                have BK287 := n4_
                have GW287 := n5_
                have GE287 := n6_
                have NB249_287 := n7_
                have NB287_249 := n8_
                have NB250_287 := n9_
                have NB287_250 := n10_
                have NB251_287 := n11_
                have NB287_251 := n12_
                clear n0_ n1_ n2_ n3_ n4_ n5_ n6_ n7_ n8_ n9_ n10_ n11_ n12_
                clear hb hbox hg
                refine hK.out _ _ ⟨(blk_cell BK249.out 0).trans rfl, (blk_cell BK249.out 1).trans rfl, (blk_cell BK250.out 0).trans rfl, (blk_cell BK250.out 1).trans rfl⟩ (fun hHeld => ?_)
                clear hK K
                refine norm_ (a' := ?_) ?_ ?_
                rotate_left
                ·show Act.put _ (some 17) _ = _
                 simp only [Act.put, List.setIfInBounds_toArray, List.set_cons_zero, List.set_cons_succ, i64_w, i32_w]
                 rfl
                exact norm_ (by simp only [putAll, Act.put, List.setIfInBounds_toArray, List.set_cons_zero, List.set_cons_succ]) (hCont (gb287) _ ⟨hHeld, (bm_ BK249.out), (bm_ BK250.out), (bm_ BK251.out), (bm_ BK287.out), GW287.out, GE287.out, NB249_287.out, NB287_249.out, NB250_287.out, NB287_250.out, NB251_287.out, NB287_251.out, (by repeat (first | (with_reducible first | exact qm_ HB.out | apply qA_ | apply qN_ | apply qD_ | refine below_set ?_ GE249.out | refine below_set ?_ GE250.out | refine below_set ?_ GE251.out | refine below_set ?_ GE287.out) | exact HB.out))⟩)
               ·skip
                refine box_step ?hg (N := 17) ?hd (cs := #[.int .i64 0, .bool false, .int .i64 0, .bool false]) (t := 54) ?hr ?_; (case hd => rfl); (case hg => rfl); (case hr => first | (go_simp; done) | (go_simp; rfl))
                intro gb287 hg w58 hbox hb
                have n0_ := A0_ (blk_below (bm_ BK249.out) hb)
                have n1_ := A0_ (blk_below (bm_ BK250.out) hb)
                have n2_ := A0_ (blk_below (bm_ BK251.out) hb)
                have n3_ := A0_ (below_step (by repeat (first | (with_reducible first | exact qm_ HB.out | apply qA_ | apply qN_ | apply qD_ | refine below_set ?_ GE249.out | refine below_set ?_ GE250.out | refine below_set ?_ GE251.out) | exact HB.out)) hb)
                have n4_ := A0_ (hbox)
                have n5_ := A0_ ((by rw [hg]; exact (below_size (by repeat (first | (with_reducible first | exact qm_ HB.out | apply qA_ | apply qN_ | apply qD_ | refine below_set ?_ GE249.out | refine below_set ?_ GE250.out | refine below_set ?_ GE251.out) | exact HB.out))) : w.heap.size ≤ gb287))
                have n6_ := A0_ ((by rw [hg]; exact (below_size (by repeat (first | (with_reducible first | exact qm_ HB.out | apply qA_ | apply qN_ | apply qD_ | refine below_set ?_ GE249.out | refine below_set ?_ GE250.out | refine below_set ?_ GE251.out) | exact HB.out))) : w.heap.size ≤ gb287))
                have n7_ := A0_ ((by rw [hg]; exact Nat.ne_of_lt (blk_lt (bm_ BK249.out)) : gb249 ≠ gb287))
                have n8_ := A0_ ((by rw [hg]; exact Nat.ne_of_gt (blk_lt (bm_ BK249.out)) : gb287 ≠ gb249))
                have n9_ := A0_ ((by rw [hg]; exact Nat.ne_of_lt (blk_lt (bm_ BK250.out)) : gb250 ≠ gb287))
                have n10_ := A0_ ((by rw [hg]; exact Nat.ne_of_gt (blk_lt (bm_ BK250.out)) : gb287 ≠ gb250))
                have n11_ := A0_ ((by rw [hg]; exact Nat.ne_of_lt (blk_lt (bm_ BK251.out)) : gb251 ≠ gb287))
                have n12_ := A0_ ((by rw [hg]; exact Nat.ne_of_gt (blk_lt (bm_ BK251.out)) : gb287 ≠ gb251))
                clear BK249
                clear BK250
                clear BK251
                clear HB
                have BK249 := n0_
                have BK250 := n1_
                have BK251 := n2_
                have HB := n3_
                have BK287 := n4_
                have GW287 := n5_
                have GE287 := n6_
                have NB249_287 := n7_
                have NB287_249 := n8_
                have NB250_287 := n9_
                have NB287_250 := n10_
                have NB251_287 := n11_
                have NB287_251 := n12_
                clear n0_ n1_ n2_ n3_ n4_ n5_ n6_ n7_ n8_ n9_ n10_ n11_ n12_
                clear hb hbox hg
                refine hK.out _ _ ⟨(blk_cell BK249.out 0).trans rfl, (blk_cell BK249.out 1).trans rfl, (blk_cell BK250.out 0).trans rfl, (blk_cell BK250.out 1).trans rfl⟩ (fun hHeld => ?_)
                clear hK K
                refine norm_ (a' := ?_) ?_ ?_
                rotate_left
                ·show Act.put _ (some 17) _ = _
                 simp only [Act.put, List.setIfInBounds_toArray, List.set_cons_zero, List.set_cons_succ, i64_w, i32_w]
                 rfl
                refine one_ (i := 9) (N := some 77) #[true, true, true, true, true, true, true, true, true, true, true, false] rfl rfl (one_of HT_.out (by kernel_rfl)) (by decide) (fun K hK => ?_)
                refine goes_ Try.func20 (by kernel_rfl) rfl #[.agg #[.int .i64 t275, .bool t276, .int .i64 t277, .bool t278], .agg #[.int .i64 t279, .bool t280, .int .i64 t281, .bool t282], .int .u8 a1] (by rfl) rfl rfl (by (try simp only [List.map_toArray, List.map_cons, List.map_nil]); first | done | rfl | (simp only [List.length_drop, List.length_take]; rfl)) ?_
                with_reducible refine (special_box_times.calls t275 t276 t277 t278 t279 t280 t281 t282 a1 t283 t284 t285 t286 _ A53.out).mono ?_
                rintro e w59 ⟨rfl, hb⟩
                refine ⟨_, rfl, ?_⟩
                have n0_ := A0_ (blk_below (bm_ BK249.out) hb)
                have n1_ := A0_ (blk_below (bm_ BK250.out) hb)
                have n2_ := A0_ (blk_below (bm_ BK251.out) hb)
                have n3_ := A0_ (blk_below (bm_ BK287.out) hb)
                have n4_ := A0_ (below_step (by repeat (first | (with_reducible first | exact qm_ HB.out | apply qA_ | apply qN_ | apply qD_ | refine below_set ?_ GE249.out | refine below_set ?_ GE250.out | refine below_set ?_ GE251.out | refine below_set ?_ GE287.out) | exact HB.out)) hb)
                clear BK249
                clear BK250
                clear BK251
                clear BK287
                clear HB
                have BK249 := n0_
                have BK250 := n1_
                have BK251 := n2_
                have BK287 := n3_
                have HB := n4_
                clear n0_ n1_ n2_ n3_ n4_
                (try clear hb)
                (try clear hb2)
                (try clear hk)
                (try clear hi)
                refine hK.out _ _ ⟨(blk_cell BK249.out 0).trans rfl, (blk_cell BK249.out 1).trans rfl, (blk_cell BK250.out 0).trans rfl, (blk_cell BK250.out 1).trans rfl⟩ (fun hHeld => ?_)
                clear hK K
                refine norm_ (a' := ?_) ?_ ?_
                rotate_left
                ·show Act.put _ (some 77) _ = _
                 simp only [Act.put, List.setIfInBounds_toArray, List.set_cons_zero, List.set_cons_succ, i64_w, i32_w]
                 rfl
                exact norm_ (by simp only [putAll, Act.put, List.setIfInBounds_toArray, List.set_cons_zero, List.set_cons_succ]) (hCont (gb287) _ ⟨hHeld, (bm_ BK249.out), (bm_ BK250.out), (bm_ BK251.out), (bm_ BK287.out), GW287.out, GE287.out, NB249_287.out, NB287_249.out, NB250_287.out, NB287_250.out, NB251_287.out, NB287_251.out, (by repeat (first | (with_reducible first | exact qm_ HB.out | apply qA_ | apply qN_ | apply qD_ | refine below_set ?_ GE249.out | refine below_set ?_ GE250.out | refine below_set ?_ GE251.out | refine below_set ?_ GE287.out) | exact HB.out))⟩)
              ·skip
               refine box_step ?hg (N := 17) ?hd (cs := #[.int .i64 0, .bool false, .int .i64 0, .bool false]) (t := 54) ?hr ?_; (case hd => rfl); (case hg => rfl); (case hr => first | (go_simp; done) | (go_simp; rfl))
               intro gb287 hg w57 hbox hb
               have n0_ := A0_ (blk_below (bm_ BK249.out) hb)
               have n1_ := A0_ (blk_below (bm_ BK250.out) hb)
               have n2_ := A0_ (blk_below (bm_ BK251.out) hb)
               have n3_ := A0_ (below_step (by repeat (first | (with_reducible first | exact qm_ HB.out | apply qA_ | apply qN_ | apply qD_ | refine below_set ?_ GE249.out | refine below_set ?_ GE250.out | refine below_set ?_ GE251.out) | exact HB.out)) hb)
               have n4_ := A0_ (hbox)
               have n5_ := A0_ ((by rw [hg]; exact (below_size (by repeat (first | (with_reducible first | exact qm_ HB.out | apply qA_ | apply qN_ | apply qD_ | refine below_set ?_ GE249.out | refine below_set ?_ GE250.out | refine below_set ?_ GE251.out) | exact HB.out))) : w.heap.size ≤ gb287))
               have n6_ := A0_ ((by rw [hg]; exact (below_size (by repeat (first | (with_reducible first | exact qm_ HB.out | apply qA_ | apply qN_ | apply qD_ | refine below_set ?_ GE249.out | refine below_set ?_ GE250.out | refine below_set ?_ GE251.out) | exact HB.out))) : w.heap.size ≤ gb287))
               have n7_ := A0_ ((by rw [hg]; exact Nat.ne_of_lt (blk_lt (bm_ BK249.out)) : gb249 ≠ gb287))
               have n8_ := A0_ ((by rw [hg]; exact Nat.ne_of_gt (blk_lt (bm_ BK249.out)) : gb287 ≠ gb249))
               have n9_ := A0_ ((by rw [hg]; exact Nat.ne_of_lt (blk_lt (bm_ BK250.out)) : gb250 ≠ gb287))
               have n10_ := A0_ ((by rw [hg]; exact Nat.ne_of_gt (blk_lt (bm_ BK250.out)) : gb287 ≠ gb250))
               have n11_ := A0_ ((by rw [hg]; exact Nat.ne_of_lt (blk_lt (bm_ BK251.out)) : gb251 ≠ gb287))
               have n12_ := A0_ ((by rw [hg]; exact Nat.ne_of_gt (blk_lt (bm_ BK251.out)) : gb287 ≠ gb251))
               clear BK249
               clear BK250
               clear BK251
               clear HB
               have BK249 := n0_
               have BK250 := n1_
               have BK251 := n2_
               have HB := n3_
               have BK287 := n4_
               have GW287 := n5_
               have GE287 := n6_
               have NB249_287 := n7_
               have NB287_249 := n8_
               have NB250_287 := n9_
               have NB287_250 := n10_
               have NB251_287 := n11_
               have NB287_251 := n12_
               clear n0_ n1_ n2_ n3_ n4_ n5_ n6_ n7_ n8_ n9_ n10_ n11_ n12_
               clear hb hbox hg
               refine hK.out _ _ ⟨(blk_cell BK249.out 0).trans rfl, (blk_cell BK249.out 1).trans rfl, (blk_cell BK250.out 0).trans rfl, (blk_cell BK250.out 1).trans rfl⟩ (fun hHeld => ?_)
               clear hK K
               refine norm_ (a' := ?_) ?_ ?_
               rotate_left
               ·show Act.put _ (some 17) _ = _
                simp only [Act.put, List.setIfInBounds_toArray, List.set_cons_zero, List.set_cons_succ, i64_w, i32_w]
                rfl
               refine one_ (i := 7) (N := some 75) #[true, true, true, true, true, true, true, true, true, false, true, false] rfl rfl (one_of HT_.out (by kernel_rfl)) (by decide) (fun K hK => ?_)
               refine goes_ Try.func19 (by kernel_rfl) rfl #[.int .u8 a0, .agg #[.int .u64 a3_0, .int .u64 a3_1], .int .u8 (rd t255 1)] (by rfl) rfl rfl (by (try simp only [List.map_toArray, List.map_cons, List.map_nil]); first | done | rfl | (simp only [List.length_drop, List.length_take]; rfl)) ?_
               with_reducible refine (special_boxOf.calls kj30 a0 a3_0 a3_1 (rd t255 1) t279 t280 t281 t282 _ A52.out).mono ?_
               rintro e w58 ⟨rfl, hb⟩
               refine ⟨_, rfl, ?_⟩
               have n0_ := A0_ (blk_below (bm_ BK249.out) hb)
               have n1_ := A0_ (blk_below (bm_ BK250.out) hb)
               have n2_ := A0_ (blk_below (bm_ BK251.out) hb)
               have n3_ := A0_ (blk_below (bm_ BK287.out) hb)
               have n4_ := A0_ (below_step (by repeat (first | (with_reducible first | exact qm_ HB.out | apply qA_ | apply qN_ | apply qD_ | refine below_set ?_ GE249.out | refine below_set ?_ GE250.out | refine below_set ?_ GE251.out | refine below_set ?_ GE287.out) | exact HB.out)) hb)
               clear BK249
               clear BK250
               clear BK251
               clear BK287
               clear HB
               have BK249 := n0_
               have BK250 := n1_
               have BK251 := n2_
               have BK287 := n3_
               have HB := n4_
               clear n0_ n1_ n2_ n3_ n4_
               (try clear hb)
               (try clear hb2)
               (try clear hk)
               (try clear hi)
               refine hK.out _ _ ⟨(blk_cell BK249.out 0).trans rfl, (blk_cell BK249.out 1).trans rfl, (blk_cell BK250.out 0).trans rfl, (blk_cell BK250.out 1).trans rfl⟩ (fun hHeld => ?_)
               clear hK K
               refine norm_ (a' := ?_) ?_ ?_
               rotate_left
               ·show Act.put _ (some 75) _ = _
                simp only [Act.put, List.setIfInBounds_toArray, List.set_cons_zero, List.set_cons_succ, i64_w, i32_w]
                rfl
               refine one_ (i := 9) (N := some 77) #[true, true, true, true, true, true, true, true, true, true, true, false] rfl rfl (one_of HT_.out (by kernel_rfl)) (by decide) (fun K hK => ?_)
               refine goes_ Try.func20 (by kernel_rfl) rfl #[.agg #[.int .i64 t275, .bool t276, .int .i64 t277, .bool t278], .agg #[.int .i64 t279, .bool t280, .int .i64 t281, .bool t282], .int .u8 a1] (by rfl) rfl rfl (by (try simp only [List.map_toArray, List.map_cons, List.map_nil]); first | done | rfl | (simp only [List.length_drop, List.length_take]; rfl)) ?_
               with_reducible refine (special_box_times.calls t275 t276 t277 t278 t279 t280 t281 t282 a1 t283 t284 t285 t286 _ A53.out).mono ?_
               rintro e w59 ⟨rfl, hb⟩
               refine ⟨_, rfl, ?_⟩
               have n0_ := A0_ (blk_below (bm_ BK249.out) hb)
               have n1_ := A0_ (blk_below (bm_ BK250.out) hb)
               have n2_ := A0_ (blk_below (bm_ BK251.out) hb)
               have n3_ := A0_ (blk_below (bm_ BK287.out) hb)
               have n4_ := A0_ (below_step (by repeat (first | (with_reducible first | exact qm_ HB.out | apply qA_ | apply qN_ | apply qD_ | refine below_set ?_ GE249.out | refine below_set ?_ GE250.out | refine below_set ?_ GE251.out | refine below_set ?_ GE287.out) | exact HB.out)) hb)
               clear BK249
               clear BK250
               clear BK251
               clear BK287
               clear HB
               have BK249 := n0_
               have BK250 := n1_
               have BK251 := n2_
               have BK287 := n3_
               have HB := n4_
               clear n0_ n1_ n2_ n3_ n4_
               (try clear hb)
               (try clear hb2)
               (try clear hk)
               (try clear hi)
               refine hK.out _ _ ⟨(blk_cell BK249.out 0).trans rfl, (blk_cell BK249.out 1).trans rfl, (blk_cell BK250.out 0).trans rfl, (blk_cell BK250.out 1).trans rfl⟩ (fun hHeld => ?_)
               clear hK K
               refine norm_ (a' := ?_) ?_ ?_
               rotate_left
               ·show Act.put _ (some 77) _ = _
                simp only [Act.put, List.setIfInBounds_toArray, List.set_cons_zero, List.set_cons_succ, i64_w, i32_w]
                rfl
               exact norm_ (by simp only [putAll, Act.put, List.setIfInBounds_toArray, List.set_cons_zero, List.set_cons_succ]) (hCont (gb287) _ ⟨hHeld, (bm_ BK249.out), (bm_ BK250.out), (bm_ BK251.out), (bm_ BK287.out), GW287.out, GE287.out, NB249_287.out, NB287_249.out, NB250_287.out, NB287_250.out, NB251_287.out, NB287_251.out, (by repeat (first | (with_reducible first | exact qm_ HB.out | apply qA_ | apply qN_ | apply qD_ | refine below_set ?_ GE249.out | refine below_set ?_ GE250.out | refine below_set ?_ GE251.out | refine below_set ?_ GE287.out) | exact HB.out))⟩)
             ·skip
              refine box_step ?hg (N := 17) ?hd (cs := #[.int .i64 0, .bool false, .int .i64 0, .bool false]) (t := 54) ?hr ?_; (case hd => rfl); (case hg => rfl); (case hr => first | (go_simp; done) | (go_simp; rfl))
              intro gb287 hg w56 hbox hb
              have n0_ := A0_ (blk_below (bm_ BK249.out) hb)
              have n1_ := A0_ (blk_below (bm_ BK250.out) hb)
              have n2_ := A0_ (blk_below (bm_ BK251.out) hb)
              have n3_ := A0_ (below_step (by repeat (first | (with_reducible first | exact qm_ HB.out | apply qA_ | apply qN_ | apply qD_ | refine below_set ?_ GE249.out | refine below_set ?_ GE250.out | refine below_set ?_ GE251.out) | exact HB.out)) hb)
              have n4_ := A0_ (hbox)
              have n5_ := A0_ ((by rw [hg]; exact (below_size (by repeat (first | (with_reducible first | exact qm_ HB.out | apply qA_ | apply qN_ | apply qD_ | refine below_set ?_ GE249.out | refine below_set ?_ GE250.out | refine below_set ?_ GE251.out) | exact HB.out))) : w.heap.size ≤ gb287))
              have n6_ := A0_ ((by rw [hg]; exact (below_size (by repeat (first | (with_reducible first | exact qm_ HB.out | apply qA_ | apply qN_ | apply qD_ | refine below_set ?_ GE249.out | refine below_set ?_ GE250.out | refine below_set ?_ GE251.out) | exact HB.out))) : w.heap.size ≤ gb287))
              have n7_ := A0_ ((by rw [hg]; exact Nat.ne_of_lt (blk_lt (bm_ BK249.out)) : gb249 ≠ gb287))
              have n8_ := A0_ ((by rw [hg]; exact Nat.ne_of_gt (blk_lt (bm_ BK249.out)) : gb287 ≠ gb249))
              have n9_ := A0_ ((by rw [hg]; exact Nat.ne_of_lt (blk_lt (bm_ BK250.out)) : gb250 ≠ gb287))
              have n10_ := A0_ ((by rw [hg]; exact Nat.ne_of_gt (blk_lt (bm_ BK250.out)) : gb287 ≠ gb250))
              have n11_ := A0_ ((by rw [hg]; exact Nat.ne_of_lt (blk_lt (bm_ BK251.out)) : gb251 ≠ gb287))
              have n12_ := A0_ ((by rw [hg]; exact Nat.ne_of_gt (blk_lt (bm_ BK251.out)) : gb287 ≠ gb251))
              clear BK249
              clear BK250
              clear BK251
              clear HB
              have BK249 := n0_
              have BK250 := n1_
              have BK251 := n2_
              have HB := n3_
              have BK287 := n4_
              have GW287 := n5_
              have GE287 := n6_
              have NB249_287 := n7_
              have NB287_249 := n8_
              have NB250_287 := n9_
              have NB287_250 := n10_
              have NB251_287 := n11_
              have NB287_251 := n12_
              clear n0_ n1_ n2_ n3_ n4_ n5_ n6_ n7_ n8_ n9_ n10_ n11_ n12_
              clear hb hbox hg
              refine hK.out _ _ ⟨(blk_cell BK249.out 0).trans rfl, (blk_cell BK249.out 1).trans rfl, (blk_cell BK250.out 0).trans rfl, (blk_cell BK250.out 1).trans rfl⟩ (fun hHeld => ?_)
              clear hK K
              refine norm_ (a' := ?_) ?_ ?_
              rotate_left
              ·show Act.put _ (some 17) _ = _
               simp only [Act.put, List.setIfInBounds_toArray, List.set_cons_zero, List.set_cons_succ, i64_w, i32_w]
               rfl
              refine one_ (i := 3) (N := some 71) #[true, true, true, true, true, true, true, false, true, false, true, false] rfl rfl (one_of HT_.out (by kernel_rfl)) (by decide) (fun K hK => ?_)
              refine goes_ Try.func19 (by kernel_rfl) rfl #[.int .u8 a0, .agg #[.int .u64 a2_0, .int .u64 a2_1], .int .u8 (rd t255 0)] (by rfl) rfl rfl (by (try simp only [List.map_toArray, List.map_cons, List.map_nil]); first | done | rfl | (simp only [List.length_drop, List.length_take]; rfl)) ?_
              with_reducible refine (special_boxOf.calls kj30 a0 a2_0 a2_1 (rd t255 0) t275 t276 t277 t278 _ A51.out).mono ?_
              rintro e w57 ⟨rfl, hb⟩
              refine ⟨_, rfl, ?_⟩
              have n0_ := A0_ (blk_below (bm_ BK249.out) hb)
              have n1_ := A0_ (blk_below (bm_ BK250.out) hb)
              have n2_ := A0_ (blk_below (bm_ BK251.out) hb)
              have n3_ := A0_ (blk_below (bm_ BK287.out) hb)
              have n4_ := A0_ (below_step (by repeat (first | (with_reducible first | exact qm_ HB.out | apply qA_ | apply qN_ | apply qD_ | refine below_set ?_ GE249.out | refine below_set ?_ GE250.out | refine below_set ?_ GE251.out | refine below_set ?_ GE287.out) | exact HB.out)) hb)
              clear BK249
              clear BK250
              clear BK251
              clear BK287
              clear HB
              have BK249 := n0_
              have BK250 := n1_
              have BK251 := n2_
              have BK287 := n3_
              have HB := n4_
              clear n0_ n1_ n2_ n3_ n4_
              (try clear hb)
              (try clear hb2)
              (try clear hk)
              (try clear hi)
              refine hK.out _ _ ⟨(blk_cell BK249.out 0).trans rfl, (blk_cell BK249.out 1).trans rfl, (blk_cell BK250.out 0).trans rfl, (blk_cell BK250.out 1).trans rfl⟩ (fun hHeld => ?_)
              clear hK K
              refine norm_ (a' := ?_) ?_ ?_
              rotate_left
              ·show Act.put _ (some 71) _ = _
               simp only [Act.put, List.setIfInBounds_toArray, List.set_cons_zero, List.set_cons_succ, i64_w, i32_w]
               rfl
              refine one_ (i := 7) (N := some 75) #[true, true, true, true, true, true, true, true, true, false, true, false] rfl rfl (one_of HT_.out (by kernel_rfl)) (by decide) (fun K hK => ?_)
              refine goes_ Try.func19 (by kernel_rfl) rfl #[.int .u8 a0, .agg #[.int .u64 a3_0, .int .u64 a3_1], .int .u8 (rd t255 1)] (by rfl) rfl rfl (by (try simp only [List.map_toArray, List.map_cons, List.map_nil]); first | done | rfl | (simp only [List.length_drop, List.length_take]; rfl)) ?_
              with_reducible refine (special_boxOf.calls kj30 a0 a3_0 a3_1 (rd t255 1) t279 t280 t281 t282 _ A52.out).mono ?_
              rintro e w58 ⟨rfl, hb⟩
              refine ⟨_, rfl, ?_⟩
              have n0_ := A0_ (blk_below (bm_ BK249.out) hb)
              have n1_ := A0_ (blk_below (bm_ BK250.out) hb)
              have n2_ := A0_ (blk_below (bm_ BK251.out) hb)
              have n3_ := A0_ (blk_below (bm_ BK287.out) hb)
              have n4_ := A0_ (below_step (by repeat (first | (with_reducible first | exact qm_ HB.out | apply qA_ | apply qN_ | apply qD_ | refine below_set ?_ GE249.out | refine below_set ?_ GE250.out | refine below_set ?_ GE251.out | refine below_set ?_ GE287.out) | exact HB.out)) hb)
              clear BK249
              clear BK250
              clear BK251
              clear BK287
              clear HB
              have BK249 := n0_
              have BK250 := n1_
              have BK251 := n2_
              have BK287 := n3_
              have HB := n4_
              clear n0_ n1_ n2_ n3_ n4_
              (try clear hb)
              (try clear hb2)
              (try clear hk)
              (try clear hi)
              refine hK.out _ _ ⟨(blk_cell BK249.out 0).trans rfl, (blk_cell BK249.out 1).trans rfl, (blk_cell BK250.out 0).trans rfl, (blk_cell BK250.out 1).trans rfl⟩ (fun hHeld => ?_)
              clear hK K
              refine norm_ (a' := ?_) ?_ ?_
              rotate_left
              ·show Act.put _ (some 75) _ = _
               simp only [Act.put, List.setIfInBounds_toArray, List.set_cons_zero, List.set_cons_succ, i64_w, i32_w]
               rfl
              refine one_ (i := 9) (N := some 77) #[true, true, true, true, true, true, true, true, true, true, true, false] rfl rfl (one_of HT_.out (by kernel_rfl)) (by decide) (fun K hK => ?_)
              refine goes_ Try.func20 (by kernel_rfl) rfl #[.agg #[.int .i64 t275, .bool t276, .int .i64 t277, .bool t278], .agg #[.int .i64 t279, .bool t280, .int .i64 t281, .bool t282], .int .u8 a1] (by rfl) rfl rfl (by (try simp only [List.map_toArray, List.map_cons, List.map_nil]); first | done | rfl | (simp only [List.length_drop, List.length_take]; rfl)) ?_
              with_reducible refine (special_box_times.calls t275 t276 t277 t278 t279 t280 t281 t282 a1 t283 t284 t285 t286 _ A53.out).mono ?_
              rintro e w59 ⟨rfl, hb⟩
              refine ⟨_, rfl, ?_⟩
              have n0_ := A0_ (blk_below (bm_ BK249.out) hb)
              have n1_ := A0_ (blk_below (bm_ BK250.out) hb)
              have n2_ := A0_ (blk_below (bm_ BK251.out) hb)
              have n3_ := A0_ (blk_below (bm_ BK287.out) hb)
              have n4_ := A0_ (below_step (by repeat (first | (with_reducible first | exact qm_ HB.out | apply qA_ | apply qN_ | apply qD_ | refine below_set ?_ GE249.out | refine below_set ?_ GE250.out | refine below_set ?_ GE251.out | refine below_set ?_ GE287.out) | exact HB.out)) hb)
              clear BK249
              clear BK250
              clear BK251
              clear BK287
              clear HB
              have BK249 := n0_
              have BK250 := n1_
              have BK251 := n2_
              have BK287 := n3_
              have HB := n4_
              clear n0_ n1_ n2_ n3_ n4_
              (try clear hb)
              (try clear hb2)
              (try clear hk)
              (try clear hi)
              refine hK.out _ _ ⟨(blk_cell BK249.out 0).trans rfl, (blk_cell BK249.out 1).trans rfl, (blk_cell BK250.out 0).trans rfl, (blk_cell BK250.out 1).trans rfl⟩ (fun hHeld => ?_)
              clear hK K
              refine norm_ (a' := ?_) ?_ ?_
              rotate_left
              ·show Act.put _ (some 77) _ = _
               simp only [Act.put, List.setIfInBounds_toArray, List.set_cons_zero, List.set_cons_succ, i64_w, i32_w]
               rfl
              exact norm_ (by simp only [putAll, Act.put, List.setIfInBounds_toArray, List.set_cons_zero, List.set_cons_succ]) (hCont (gb287) _ ⟨hHeld, (bm_ BK249.out), (bm_ BK250.out), (bm_ BK251.out), (bm_ BK287.out), GW287.out, GE287.out, NB249_287.out, NB287_249.out, NB250_287.out, NB287_250.out, NB251_287.out, NB287_251.out, (by repeat (first | (with_reducible first | exact qm_ HB.out | apply qA_ | apply qN_ | apply qD_ | refine below_set ?_ GE249.out | refine below_set ?_ GE250.out | refine below_set ?_ GE251.out | refine below_set ?_ GE287.out) | exact HB.out))⟩)
            rintro gb287 w60 ⟨hS_, h0_, h1_, h2_, h3_, h4_, h5_, h6_, h7_, h8_, h9_, h10_, h11_, h12_⟩
            have n0_ : Aside0 (w60.heap[gb249]? = some (.cells #[.int .u64 a2_0, .int .u64 a2_1] 26 (0, 0))) := ⟨h0_⟩
            have n1_ : Aside0 (w60.heap[gb250]? = some (.cells #[.int .u64 a3_0, .int .u64 a3_1] 26 (0, 0))) := ⟨h1_⟩
            have n2_ : Aside0 (w60.heap[gb251]? = some (.cells #[.int .u64 0, .int .u64 0, .int .u8 0, .int .u8 0] 29 (0, 0))) := ⟨h2_⟩
            have n3_ : Aside0 (w60.heap[gb287]? = some (.cells #[.int .i64 0, .bool false, .int .i64 0, .bool false] 54 (0, 0))) := ⟨h3_⟩
            have n4_ : Aside0 (w.heap.size ≤ gb287) := ⟨h4_⟩
            have n5_ : Aside0 (w.heap.size ≤ gb287) := ⟨h5_⟩
            have n6_ : Aside0 (gb249 ≠ gb287) := ⟨h6_⟩
            have n7_ : Aside0 (gb287 ≠ gb249) := ⟨h7_⟩
            have n8_ : Aside0 (gb250 ≠ gb287) := ⟨h8_⟩
            have n9_ : Aside0 (gb287 ≠ gb250) := ⟨h9_⟩
            have n10_ : Aside0 (gb251 ≠ gb287) := ⟨h10_⟩
            have n11_ : Aside0 (gb287 ≠ gb251) := ⟨h11_⟩
            have n12_ : Aside0 (Below w.heap.size w w60) := ⟨h12_⟩
            clear BK249
            clear BK250
            clear BK251
            clear HB
            clear h0_ h1_ h2_ h3_ h4_ h5_ h6_ h7_ h8_ h9_ h10_ h11_ h12_
            have BK249 := n0_
            have BK250 := n1_
            have BK251 := n2_
            have BK287 := n3_
            have GW287 := n4_
            have GE287 := n5_
            have NB249_287 := n6_
            have NB287_249 := n7_
            have NB250_287 := n8_
            have NB287_250 := n9_
            have NB251_287 := n10_
            have NB287_251 := n11_
            have HB := n12_
            clear n0_ n1_ n2_ n3_ n4_ n5_ n6_ n7_ n8_ n9_ n10_ n11_ n12_
            have hHeld : w60.cell? ⟨gb249, 0, none⟩ = some (.int .u64 a2_0) ∧ w60.cell? ⟨gb249, 1, none⟩ = some (.int .u64 a2_1) ∧ w60.cell? ⟨gb250, 0, none⟩ = some (.int .u64 a3_0) ∧ w60.cell? ⟨gb250, 1, none⟩ = some (.int .u64 a3_1) := hS_
            refine norm_ (a' := ?_) ?_ ?_
            rotate_left
            ·simp only [putAll, Act.put, List.setIfInBounds_toArray, List.set_cons_zero, List.set_cons_succ]
             rfl
            refine one_ (i := 11) (N := none) #[true, true, true, true, true, true, true, true, true, true, true, true] rfl rfl (one_of HT_.out (by kernel_rfl)) (by decide) (fun K hK => ?_)
            have hs61 : w60.cell? ⟨gb287, 0, none⟩ = some (.int .i64 0) := (blk_cell BK287.out 0).trans rfl
            have hfs61 := blk_frozen BK287.out 0
            have hns61_0 := NB249_287.out
            have hns61_1 := NB250_287.out
            have hns61_2 := NB251_287.out
            have hms61_0 := NB287_249.out
            have hms61_1 := NB287_250.out
            have hms61_2 := NB287_251.out
            have hs62 : w60.cell? ⟨gb287, 1, none⟩ = some (.bool false) := (blk_cell BK287.out 1).trans rfl
            have hfs62 := blk_frozen BK287.out 1
            have hns62_0 := NB249_287.out
            have hns62_1 := NB250_287.out
            have hns62_2 := NB251_287.out
            have hms62_0 := NB287_249.out
            have hms62_1 := NB287_250.out
            have hms62_2 := NB287_251.out
            have hs63 : w60.cell? ⟨gb287, 2, none⟩ = some (.int .i64 0) := (blk_cell BK287.out 2).trans rfl
            have hfs63 := blk_frozen BK287.out 2
            have hns63_0 := NB249_287.out
            have hns63_1 := NB250_287.out
            have hns63_2 := NB251_287.out
            have hms63_0 := NB287_249.out
            have hms63_1 := NB287_250.out
            have hms63_2 := NB287_251.out
            have hs64 : w60.cell? ⟨gb287, 3, none⟩ = some (.bool false) := (blk_cell BK287.out 3).trans rfl
            have hfs64 := blk_frozen BK287.out 3
            have hns64_0 := NB249_287.out
            have hns64_1 := NB250_287.out
            have hns64_2 := NB251_287.out
            have hms64_0 := NB287_249.out
            have hms64_1 := NB287_250.out
            have hms64_2 := NB287_251.out
            refine skip_ (w1 := ?_) (by rfl) rfl ?_ ?_
            rotate_left
            ·go_simp
             rfl
            refine hK.out _ _ ⟨((cell_far (p := ⟨gb287, _, none⟩) NB249_287.out _).trans (((cell_far (p := ⟨gb287, _, none⟩) NB249_287.out _).trans (((cell_far (p := ⟨gb287, _, none⟩) NB249_287.out _).trans (((cell_far (p := ⟨gb287, _, none⟩) NB249_287.out _).trans (hHeld.1)))))))), ((cell_far (p := ⟨gb287, _, none⟩) NB249_287.out _).trans (((cell_far (p := ⟨gb287, _, none⟩) NB249_287.out _).trans (((cell_far (p := ⟨gb287, _, none⟩) NB249_287.out _).trans (((cell_far (p := ⟨gb287, _, none⟩) NB249_287.out _).trans (hHeld.2.1)))))))), ((cell_far (p := ⟨gb287, _, none⟩) NB250_287.out _).trans (((cell_far (p := ⟨gb287, _, none⟩) NB250_287.out _).trans (((cell_far (p := ⟨gb287, _, none⟩) NB250_287.out _).trans (((cell_far (p := ⟨gb287, _, none⟩) NB250_287.out _).trans (hHeld.2.2.1)))))))), ((cell_far (p := ⟨gb287, _, none⟩) NB250_287.out _).trans (((cell_far (p := ⟨gb287, _, none⟩) NB250_287.out _).trans (((cell_far (p := ⟨gb287, _, none⟩) NB250_287.out _).trans (((cell_far (p := ⟨gb287, _, none⟩) NB250_287.out _).trans (hHeld.2.2.2))))))))⟩ (fun hHeld => ?_)
            clear hK K
            refine done_ (done_of HT_.out (by kernel_rfl)) ?_
            have hnb65 := NB287_249.out
            have hnc65 := NB249_287.out
            have hnb66 := NB287_250.out
            have hnc66 := NB250_287.out
            have hnb67 := NB287_251.out
            have hnc67 := NB251_287.out
            have hcz68 := bc4_ BK287.out
            have hfz68 := bf4_ BK287.out
            try go_wp2_with (first | ((with_reducible refine gate_callee (f := 21) rfl ?_); refine goesL_ (some 81) rfl rfl Try.func21 (by kernel_rfl) rfl #[.agg #[.int .i64 t283, .bool t284, .int .i64 t285, .bool t286], .int .u8 a0, .int .u64 t261] rfl (by (try simp only [List.map_toArray, List.map_cons, List.map_nil]); first | done | rfl | (simp only [List.length_drop, List.length_take]; rfl)) ?_; (with_reducible refine (special_box_words.calls kj30 t283 t284 t285 t286 a0 t261 t288 t289 _ A54.out).mono ?_); rintro e w69 ⟨rfl, hb⟩; refine ⟨_, rfl, ?_⟩; have n0_ := A0_ (blk_below (g := gb249) (o := .cells #[.int .u64 a2_0, .int .u64 a2_1] 26 (0, 0)) (by (with_reducible repeat first | apply bN_ | apply bD_ | apply bA_); refine blk_far ?_ NB249_287.out _; (with_reducible repeat first | apply bN_ | apply bD_ | apply bA_); refine blk_far ?_ NB249_287.out _; (with_reducible repeat first | apply bN_ | apply bD_ | apply bA_); refine blk_far ?_ NB249_287.out _; (with_reducible repeat first | apply bN_ | apply bD_ | apply bA_); refine blk_far ?_ NB249_287.out _; (with_reducible repeat first | apply bN_ | apply bD_ | apply bA_); exact BK249.out) hb); have n1_ := A0_ (blk_below (g := gb250) (o := .cells #[.int .u64 a3_0, .int .u64 a3_1] 26 (0, 0)) (by (with_reducible repeat first | apply bN_ | apply bD_ | apply bA_); refine blk_far ?_ NB250_287.out _; (with_reducible repeat first | apply bN_ | apply bD_ | apply bA_); refine blk_far ?_ NB250_287.out _; (with_reducible repeat first | apply bN_ | apply bD_ | apply bA_); refine blk_far ?_ NB250_287.out _; (with_reducible repeat first | apply bN_ | apply bD_ | apply bA_); refine blk_far ?_ NB250_287.out _; (with_reducible repeat first | apply bN_ | apply bD_ | apply bA_); exact BK250.out) hb); have n2_ := A0_ (blk_below (g := gb251) (o := .cells #[.int .u64 0, .int .u64 0, .int .u8 0, .int .u8 0] 29 (0, 0)) (by (with_reducible repeat first | apply bN_ | apply bD_ | apply bA_); refine blk_far ?_ NB251_287.out _; (with_reducible repeat first | apply bN_ | apply bD_ | apply bA_); refine blk_far ?_ NB251_287.out _; (with_reducible repeat first | apply bN_ | apply bD_ | apply bA_); refine blk_far ?_ NB251_287.out _; (with_reducible repeat first | apply bN_ | apply bD_ | apply bA_); refine blk_far ?_ NB251_287.out _; (with_reducible repeat first | apply bN_ | apply bD_ | apply bA_); exact BK251.out) hb); have n3_ := A0_ (blk_below (g := gb287) (o := .cells #[.int .i64 t283, .bool t284, .int .i64 t285, .bool t286] 54 (0, 0)) (by (with_reducible repeat first | apply bN_ | apply bD_ | apply bA_); refine blk_put (cs := #[.int .i64 t283, .bool t284, .int .i64 t285, .bool false]) ?_ 3 _ rfl; (with_reducible repeat first | apply bN_ | apply bD_ | apply bA_); refine blk_put (cs := #[.int .i64 t283, .bool t284, .int .i64 0, .bool false]) ?_ 2 _ rfl; (with_reducible repeat first | apply bN_ | apply bD_ | apply bA_); refine blk_put (cs := #[.int .i64 t283, .bool false, .int .i64 0, .bool false]) ?_ 1 _ rfl; (with_reducible repeat first | apply bN_ | apply bD_ | apply bA_); refine blk_put (cs := #[.int .i64 0, .bool false, .int .i64 0, .bool false]) ?_ 0 _ rfl; (with_reducible repeat first | apply bN_ | apply bD_ | apply bA_); exact BK287.out) hb); have n4_ := A0_ (below_step (by repeat (first | (with_reducible first | exact qm_ HB.out | apply qA_ | apply qN_ | apply qD_ | refine below_set ?_ GE249.out | refine below_set ?_ GE250.out | refine below_set ?_ GE251.out | refine below_set ?_ GE287.out) | exact HB.out)) hb); clear BK249; clear BK250; clear BK251; clear BK287; clear HB; have BK249 := n0_; have BK250 := n1_; have BK251 := n2_; have BK287 := n3_; have HB := n4_; clear n0_ n1_ n2_ n3_ n4_; (try clear hb); (try clear hb2); (try clear hk); (try clear hi); have hnb70 := NB251_249.out; have hnc70 := NB249_251.out; have hnb71 := NB251_250.out; have hnc71 := NB250_251.out; have hcz72 := bc4_ BK251.out; have hfz72 := bf4_ BK251.out))
            refine bodyPost_ret (results_ctt rfl _ _ gb251 29 #[.int .u64 t288, .int .u64 t289, .int .u8 0, .int .u8 0] (0, 0) _ rfl (by (with_reducible repeat first | apply bN_ | apply bD_ | apply bA_); refine blk_put (cs := #[.int .u64 t288, .int .u64 t289, .int .u8 0, .int .u8 0]) ?_ 3 _ rfl; (with_reducible repeat first | apply bN_ | apply bD_ | apply bA_); refine blk_put (cs := #[.int .u64 t288, .int .u64 t289, .int .u8 0, .int .u8 0]) ?_ 2 _ rfl; (with_reducible repeat first | apply bN_ | apply bD_ | apply bA_); refine blk_put (cs := #[.int .u64 t288, .int .u64 0, .int .u8 0, .int .u8 0]) ?_ 1 _ rfl; (with_reducible repeat first | apply bN_ | apply bD_ | apply bA_); refine blk_put (cs := #[.int .u64 0, .int .u64 0, .int .u8 0, .int .u8 0]) ?_ 0 _ rfl; (with_reducible repeat first | apply bN_ | apply bD_ | apply bA_); exact BK251.out) Try.underlying29 rfl (by kernel_rfl)) rfl ?_
            exact ⟨by first | rfl | (simp [errW_none, errW_some] <;> rfl) | (simp [*, errW_none, errW_some] <;> rfl), by repeat (first | (with_reducible first | exact qm_ HB.out | apply qA_ | apply qN_ | apply qD_ | refine below_set ?_ GE249.out | refine below_set ?_ GE250.out | refine below_set ?_ GE251.out | refine below_set ?_ GE287.out) | exact HB.out)⟩
   ·rw [if_neg c8] at H
    exact absurd H (by simp)
  ·rw [if_neg c7] at H
   exact absurd H (by simp)
 ·rw [if_neg c6] at H
  have c6b0 : (t256 == 0) = false := beq_eq_false_iff_ne.mpr c6
  have c6b1 : (t256 != 0) = true := bne_iff_ne.mpr c6
  simp only [Option.some.injEq, Prod.mk.injEq] at H
  obtain ⟨rfl, rfl, rfl, rfl, rfl, rfl⟩ := H
  go_enter Try.func6, Try.ntmps6
  go_wp2_with (first | ((with_reducible refine gate_dst (N := 6) rfl ?_); refine box_event ?hg (N := 6) ?hd (cs := #[.int .u64 a2_0, .int .u64 a2_1]) (t := 26) ?hr ?_; (case hd => rfl); (case hg => rfl); (case hr => first | (go_simp; done) | (go_simp; rfl)); intro gb249 hg w73 hbox hb; have n0_ := A0_ (below_step (qm_ HB.out) hb); have n1_ := A0_ (hbox); have n2_ := A0_ ((by rw [hg]; exact (below_size (qm_ HB.out)) : w.heap.size ≤ gb249)); have n3_ := A0_ ((by rw [hg]; exact (below_size (qm_ HB.out)) : w.heap.size ≤ gb249)); clear HB; have HB := n0_; have BK249 := n1_; have GW249 := n2_; have GE249 := n3_; clear n0_ n1_ n2_ n3_; clear hb hbox hg) | ((with_reducible refine gate_dst (N := 7) rfl ?_); refine box_event ?hg (N := 7) ?hd (cs := #[.int .u64 a3_0, .int .u64 a3_1]) (t := 26) ?hr ?_; (case hd => rfl); (case hg => rfl); (case hr => first | (go_simp; done) | (go_simp; rfl)); intro gb250 hg w74 hbox hb; have n0_ := A0_ (blk_below (bm_ BK249.out) hb); have n1_ := A0_ (below_step (by repeat (first | (with_reducible first | exact qm_ HB.out | apply qA_ | apply qN_ | apply qD_ | refine below_set ?_ GE249.out) | exact HB.out)) hb); have n2_ := A0_ (hbox); have n3_ := A0_ ((by rw [hg]; exact (below_size (by repeat (first | (with_reducible first | exact qm_ HB.out | apply qA_ | apply qN_ | apply qD_ | refine below_set ?_ GE249.out) | exact HB.out))) : w.heap.size ≤ gb250)); have n4_ := A0_ ((by rw [hg]; exact (below_size (by repeat (first | (with_reducible first | exact qm_ HB.out | apply qA_ | apply qN_ | apply qD_ | refine below_set ?_ GE249.out) | exact HB.out))) : w.heap.size ≤ gb250)); have n5_ := A0_ ((by rw [hg]; exact Nat.ne_of_lt (blk_lt (bm_ BK249.out)) : gb249 ≠ gb250)); have n6_ := A0_ ((by rw [hg]; exact Nat.ne_of_gt (blk_lt (bm_ BK249.out)) : gb250 ≠ gb249)); clear BK249; clear HB; have BK249 := n0_; have HB := n1_; have BK250 := n2_; have GW250 := n3_; have GE250 := n4_; have NB249_250 := n5_; have NB250_249 := n6_; clear n0_ n1_ n2_ n3_ n4_ n5_ n6_; clear hb hbox hg) | ((with_reducible refine gate_dst (N := 8) rfl ?_); refine box_event ?hg (N := 8) ?hd (cs := #[.int .u64 0, .int .u64 0, .int .u8 0, .int .u8 0]) (t := 29) ?hr ?_; (case hd => rfl); (case hg => rfl); (case hr => first | (go_simp; done) | (go_simp; rfl)); intro gb251 hg w75 hbox hb; have n0_ := A0_ (blk_below (bm_ BK249.out) hb); have n1_ := A0_ (blk_below (bm_ BK250.out) hb); have n2_ := A0_ (below_step (by repeat (first | (with_reducible first | exact qm_ HB.out | apply qA_ | apply qN_ | apply qD_ | refine below_set ?_ GE249.out | refine below_set ?_ GE250.out) | exact HB.out)) hb); have n3_ := A0_ (hbox); have n4_ := A0_ ((by rw [hg]; exact (below_size (by repeat (first | (with_reducible first | exact qm_ HB.out | apply qA_ | apply qN_ | apply qD_ | refine below_set ?_ GE249.out | refine below_set ?_ GE250.out) | exact HB.out))) : w.heap.size ≤ gb251)); have n5_ := A0_ ((by rw [hg]; exact (below_size (by repeat (first | (with_reducible first | exact qm_ HB.out | apply qA_ | apply qN_ | apply qD_ | refine below_set ?_ GE249.out | refine below_set ?_ GE250.out) | exact HB.out))) : w.heap.size ≤ gb251)); have n6_ := A0_ ((by rw [hg]; exact Nat.ne_of_lt (blk_lt (bm_ BK249.out)) : gb249 ≠ gb251)); have n7_ := A0_ ((by rw [hg]; exact Nat.ne_of_gt (blk_lt (bm_ BK249.out)) : gb251 ≠ gb249)); have n8_ := A0_ ((by rw [hg]; exact Nat.ne_of_lt (blk_lt (bm_ BK250.out)) : gb250 ≠ gb251)); have n9_ := A0_ ((by rw [hg]; exact Nat.ne_of_gt (blk_lt (bm_ BK250.out)) : gb251 ≠ gb250)); clear BK249; clear BK250; clear HB; have BK249 := n0_; have BK250 := n1_; have HB := n2_; have BK251 := n3_; have GW251 := n4_; have GE251 := n5_; have NB249_251 := n6_; have NB251_249 := n7_; have NB250_251 := n8_; have NB251_250 := n9_; clear n0_ n1_ n2_ n3_ n4_ n5_ n6_ n7_ n8_ n9_; clear hb hbox hg; have hnb76 := NB249_250.out; have hnc76 := NB250_249.out; have hnb77 := NB249_251.out; have hnc77 := NB251_249.out; have hcz78 := bc2_ BK249.out; have hfz78 := bf2_ BK249.out; have hnb79 := NB250_251.out; have hnc79 := NB251_250.out; have hcz80 := bc2_ BK250.out; have hfz80 := bf2_ BK250.out) | ((with_reducible refine gate_dst (N := 23) rfl ?_); refine Kd.R_lit k26 _ 26 ?hg (N := 23) ?hd (xs := ([(⟨a2_0, a2_1⟩ : S26), (⟨a3_0, a3_1⟩ : S26)] : List (S26))) (inner := [.int .u64 a2_0, .int .u64 a2_1, .int .u64 a3_0, .int .u64 a3_1]) (ok := fun _ => True) (okp := fun _ => True) ?hr ?hp (fun _ hk => hk) trivial (Below.refl _ _) (Nat.le_refl _) (by simp) ?_; (case hd => rfl); (case hg => rfl); (case hr => first | (go_simp; done) | (go_simp; rfl)); (case hp => exact (Reps.c2 (show Kd.M k26 _ _ _ (⟨a2_0, a2_1⟩ : S26) [.int .u64 a2_0, .int .u64 a2_1] from (k26_mkM _ _ _ (⟨a2_0, a2_1⟩ : S26) )) (Reps.c2 (show Kd.M k26 _ _ _ (⟨a3_0, a3_1⟩ : S26) [.int .u64 a3_0, .int .u64 a3_1] from (k26_mkM _ _ _ (⟨a3_0, a3_1⟩ : S26) )) (Reps.none _ _)))); intro v253 w81 ho82 hb hg_ hnew_; clear hg_ hnew_; (first | rw [← Ny252.out] at ho82 | (simp only [Int.reduceToNat] at ho82; rw [← Ny252.out] at ho82)); have n0_ := A0_ (Kd.R_lower (Kd.R_newB (Kd.R_newB ho82 (bm_ BK249.out)) (bm_ BK250.out)) (below_size (by repeat (first | (with_reducible first | exact qm_ HB.out | apply qA_ | apply qN_ | apply qD_ | refine below_set ?_ GE249.out | refine below_set ?_ GE250.out | refine below_set ?_ GE251.out) | exact HB.out)))); have n1_ := A0_ (blk_below (bm_ BK249.out) hb); have n2_ := A0_ (blk_below (bm_ BK250.out) hb); have n3_ := A0_ (blk_below (bm_ BK251.out) hb); have n4_ := A0_ (below_step (by repeat (first | (with_reducible first | exact qm_ HB.out | apply qA_ | apply qN_ | apply qD_ | refine below_set ?_ GE249.out | refine below_set ?_ GE250.out | refine below_set ?_ GE251.out) | exact HB.out)) hb); clear BK249; clear BK250; clear BK251; clear HB; have HO254 := n0_; have BK249 := n1_; have BK250 := n2_; have BK251 := n3_; have HB := n4_; clear n0_ n1_ n2_ n3_ n4_; clear hb ho82; obtain ⟨Ao83, co83, eo83⟩ := Kd.R_slice HO254.out; subst eo83) | ((with_reducible refine gate_callee (f := 16) rfl ?_); refine goesL_ (some 24) rfl rfl Try.func16 (by kernel_rfl) rfl #[.int .u8 a0, .int .u8 a1, .slice Ao83 y252.length co83] rfl (by (try simp only [List.map_toArray, List.map_cons, List.map_nil]); first | done | rfl | (simp only [List.length_drop, List.length_take]; rfl)) ?_; (with_reducible refine (special_open.calls k a0 a1 _ _ y252 t255 t256 _ ?side1 ?side2 A5.out).mono ?_); (case side1 => repeat (first | exact (Kd.R_reads' HO254.out).2.2 | (with_reducible refine Kd.C_alloc ?_ _) | (with_reducible refine Kd.C_drewN ?_ _) | (with_reducible refine Kd.C_drew ?_))); (case side2 => exact (Kd.R_reads' HO254.out).2.1); rintro e w84 ⟨v257, rfl, ho0, hb⟩; refine ⟨_, rfl, ?_⟩; have n0_ := A0_ (Kd.R_below (by exact rm_ HO254.out) hb); have n1_ := A0_ (Kd.R_lower ho0 (below_size (by repeat (first | (with_reducible first | exact qm_ HB.out | apply qA_ | apply qN_ | apply qD_ | refine below_set ?_ GE249.out | refine below_set ?_ GE250.out | refine below_set ?_ GE251.out) | exact HB.out)))); have n2_ := A0_ (blk_below (bm_ BK249.out) hb); have n3_ := A0_ (blk_below (bm_ BK250.out) hb); have n4_ := A0_ (blk_below (bm_ BK251.out) hb); have n5_ := A0_ (below_step (by repeat (first | (with_reducible first | exact qm_ HB.out | apply qA_ | apply qN_ | apply qD_ | refine below_set ?_ GE249.out | refine below_set ?_ GE250.out | refine below_set ?_ GE251.out) | exact HB.out)) hb); clear HO254; clear BK249; clear BK250; clear BK251; clear HB; have HO254 := n0_; have HO258 := n1_; have BK249 := n2_; have BK250 := n3_; have BK251 := n4_; have HB := n5_; clear n0_ n1_ n2_ n3_ n4_ n5_; (try clear hb); (try clear hb2); (try clear hk); (try clear hi); (try clear ho0); have hcz85 := bc4_ BK251.out; have hfz85 := bf4_ BK251.out))
  refine bodyPost_ret (results_ctt rfl _ _ gb251 29 #[.int .u64 0, .int .u64 0, .int .u8 0, .int .u8 0] (0, 0) _ rfl (by (with_reducible repeat first | apply bN_ | apply bD_ | apply bA_); refine blk_put (cs := #[.int .u64 0, .int .u64 0, .int .u8 0, .int .u8 0]) ?_ 3 _ rfl; (with_reducible repeat first | apply bN_ | apply bD_ | apply bA_); refine blk_put (cs := #[.int .u64 0, .int .u64 0, .int .u8 0, .int .u8 0]) ?_ 2 _ rfl; (with_reducible repeat first | apply bN_ | apply bD_ | apply bA_); refine blk_put (cs := #[.int .u64 0, .int .u64 0, .int .u8 0, .int .u8 0]) ?_ 1 _ rfl; (with_reducible repeat first | apply bN_ | apply bD_ | apply bA_); refine blk_put (cs := #[.int .u64 0, .int .u64 0, .int .u8 0, .int .u8 0]) ?_ 0 _ rfl; (with_reducible repeat first | apply bN_ | apply bD_ | apply bA_); exact BK251.out) Try.underlying29 rfl (by kernel_rfl)) rfl ?_
  exact ⟨by first | rfl | (simp [errW_none, errW_some] <;> rfl) | (simp [*, errW_none, errW_some] <;> rfl), by repeat (first | (with_reducible first | exact qm_ HB.out | apply qA_ | apply qN_ | apply qD_ | refine below_set ?_ GE249.out | refine below_set ?_ GE250.out | refine below_set ?_ GE251.out) | exact HB.out)⟩
end Go.Proofs.Ytlgapmhjaaajfaa.PA
end
