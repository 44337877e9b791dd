/- Steps of Go functions that the law CutsMirror uses, told as plain Lean functions, each with the proof that its call comes to what it tells; words on memory; plain facts. No condition beyond those that each text names. -/
import Derived.Test.YtgaabjjenlbmhaaProg
import Derived.WalkMore
import Derived.Below
import Derived.Deep.Draws
import Derived.Deep.AppendLies
import Derived.Maps.AppendAt
import Derived.OwnWalk
import Derived.Laws.BytesArg
import Derived.Laws.MakeOwn
import Derived.Laws.OwnMore
import Derived.Deep.OwnRows
import Derived.Tactics
import Derived.Lib.ConvBytes
import Derived.Laws.Slices
import Derived.WalkKit
import Derived.KernelRfl
import Derived.RowKit3
import Derived.Deep.LoopGhost
import Derived.Deep.QuietTactic
import Derived.BigQuiet
import Derived.WideLaws
import Derived.Deep.DeepCutAuto
import Derived.Deep.CutBlock
import Derived.Deep.RegionHeld3
import Derived.Laws.Rows
import Derived.Lib.AppendStr
import Derived.ArgAppend
import Derived.Laws.IdiomCopy
import Derived.OrdersHeld
import Derived.Laws.BitsLemmas
import Derived.RowKit
import Derived.Laws.StructEq
import Derived.Test.YtgaabjjenlbmhaaSCutsMirror0
import Derived.Test.YtgaabjjenlbmhaaSCutsMirror1
import Derived.Test.YtgaabjjenlbmhaaSCutsMirror2
import Derived.Test.YtgaabjjenlbmhaaSCutsMirror3
import Derived.Test.YtgaabjjenlbmhaaSCutsMirror4
import Derived.Test.YtgaabjjenlbmhaaSCutsMirror5
section
namespace Go.Proofs.Ytgaabjjenlbmhaa.PA
open Go.RowKit Go.Proofs.YtgaabjjenlbmhaaW.PrintWords Go.Proofs.YtgaabjjenlbmhaaW.PrintLast Go.Proofs.YtgaabjjenlbmhaaW.PrintMore
attribute [local go_sem] max2_int min2_int max_two min_two max_three min_three max_four min_four   -- for this text's walks alone
set_option linter.unusedVariables false
set_option linter.unusedSimpArgs false
attribute [local go_sem] run_store_func run_store_nilFunc
def cuts_On.f (k : Nat) (a0 a1 a2_0 a2_1 : Int) : Option (Bool × Int) := (cuts_find.f k a0 a1 a2_0 a2_1).bind fun t => some (if t.2.2.2.2 = 7 then (false, 0) else (t.2.2.2.2 == 0, t.2.2.2.2))
set_option maxHeartbeats 4000000 in
set_option maxRecDepth 100000 in
theorem cuts_On.calls (k : Nat) (a0 a1 a2_0 a2_1 : Int) (r1 : Bool) (r2 : Int) (w : World) (h : cuts_On.f k a0 a1 a2_0 a2_1 = some (r1, r2)) : Calls Try.prog 33 #[.int .u8 a0, .int .u8 a1, .agg #[.int .u64 a2_0, .int .u64 a2_1]] w fun e w' => e = .returned (.tuple #[.bool r1, .int .i64 r2]) ∧ Below w.heap.size w w' := by
 have hu25 := Try.underlying25
 have hu54 := Try.underlying54
 have HB := A0_ (Below.refl w.heap.size w)
 unfold cuts_On.f at h
 obtain ⟨⟨s, o, m, d, er⟩, A1, h⟩ := Option.bind_eq_some_iff.mp h
 have A1 := A0_ A1
 simp only at h
 by_cases c : er = 7
 ·have c7 : (er == 7) = true := beq_iff_eq.mpr c
  rw [if_pos c] at h
  simp only [Option.some.injEq, Prod.mk.injEq] at h
  obtain ⟨rfl, rfl⟩ := h
  clear c
  go_enter Try.func33, Try.ntmps33
  go_wp2_with (first | ((with_reducible refine gate_dst (N := 5) rfl ?_); refine box_event ?hg (N := 5) ?hd (cs := #[.int .u64 a2_0, .int .u64 a2_1]) (t := 25) ?hr ?_; (case hd => rfl); (case hg => rfl); (case hr => first | (go_simp; done) | (go_simp; rfl)); intro gb5 hg w5 hbox hb;  have n0_ := A0_ (below_step (qm_ HB.out) hb); have n1_ := A0_ hbox; have n2_ := A0_ ((by rw [hg]; exact (below_size (qm_ HB.out))) : w.heap.size ≤ gb5); clear HB; have HB := n0_; have BK5 := n1_; have GE5 := n2_; clear n0_ n1_ n2_ hb hbox hg; have hcz5 := bc2_ BK5.out))
  refine (cuts_find.calls k a0 a1 a2_0 a2_1 _ _ _ _ _ _ A1.out).mono ?_
  rintro e wf ⟨A_, n_, c_, p_, fv, rfl, hz, hfv, hb⟩
  have n0_ := A0_ (below_step HB.out hb)
  clear HB hcz5 hb
  have HB := n0_
  clear n0_
  have HZ := A0_ hz
  clear hz
  rcases hfv with rfl | ⟨j, rfl⟩
  ·go_wp2_with (first | ((with_reducible refine gate_dst (N := 8) rfl ?_); refine box_event ?hg (N := 8) ?hd (cs := #[.slice none 0 0, .int .u8 0, .nilFunc]) (t := 94) ?hr ?_; (case hd => rfl); (case hg => rfl); (case hr => first | (go_simp; done) | (go_simp; rfl)); intro gb8 hg w8 hbox hb;  have n0_ := A0_ (below_step (qm_ HB.out) hb); have n1_ := A0_ hbox; have n2_ := A0_ ((by rw [hg]; exact (below_size (qm_ HB.out))) : w.heap.size ≤ gb8); clear HB; have HB := n0_; have BK8 := n1_; have GE8 := n2_; clear n0_ n1_ n2_ hb hbox hg) | ((with_reducible refine gate_dst (N := 9) rfl ?_); refine box_event ?hg (N := 9) ?hd (cs := #[.int .i64 0, .int .i64 0, .int .i64 0, .int .i64 0]) (t := 96) ?hr ?_; (case hd => rfl); (case hg => rfl); (case hr => first | (go_simp; done) | (go_simp; rfl)); intro gb9 hg w9 hbox hb; have nb_ := A0_ (blk_below BK8.out hb); clear BK8; have BK8 := nb_; clear nb_; have n0_ := A0_ (below_step (qm_ HB.out) hb); have n1_ := A0_ hbox; have n2_ := A0_ ((by rw [hg]; exact (below_size (qm_ HB.out))) : w.heap.size ≤ gb9); clear HB; have HB := n0_; have BK9 := n1_; have GE9 := n2_; clear n0_ n1_ n2_ hb hbox hg; have hn89 : gb8 ≠ gb9 := blk_ne BK8.out BK9.out (by decide); have hn98 := Ne.symm hn89; have hcz8_0 : w9.cell? ⟨gb8, 0, none⟩ = some (.slice none 0 0) := (blk_cell BK8.out 0).trans rfl; have hfz8_0 := blk_frozen BK8.out 0; have hcz8_1 : w9.cell? ⟨gb8, 1, none⟩ = some (.int .u8 0) := (blk_cell BK8.out 1).trans rfl; have hfz8_1 := blk_frozen BK8.out 1; have hcz8_2 : w9.cell? ⟨gb8, 2, none⟩ = some (.nilFunc) := (blk_cell BK8.out 2).trans rfl; have hfz8_2 := blk_frozen BK8.out 2;have hcz9_0 : w9.cell? ⟨gb9, 0, none⟩ = some (.int .i64 0) := (blk_cell BK9.out 0).trans rfl; have hfz9_0 := blk_frozen BK9.out 0; have hcz9_1 : w9.cell? ⟨gb9, 1, none⟩ = some (.int .i64 0) := (blk_cell BK9.out 1).trans rfl; have hfz9_1 := blk_frozen BK9.out 1; have hcz9_2 : w9.cell? ⟨gb9, 2, none⟩ = some (.int .i64 0) := (blk_cell BK9.out 2).trans rfl; have hfz9_2 := blk_frozen BK9.out 2; have hcz9_3 : w9.cell? ⟨gb9, 3, none⟩ = some (.int .i64 0) := (blk_cell BK9.out 3).trans rfl; have hfz9_3 := blk_frozen BK9.out 3;))
   refine bodyPost_ret (v := .tuple #[.bool false, .int .i64 0]) ?_ rfl ⟨rfl, below_set (below_set (below_set (below_set (below_set (below_set (below_set HB.out GE8.out) GE8.out) GE8.out) GE9.out) GE9.out) GE9.out) GE9.out⟩
   simp [results, Try.results33, go_sem, hn89, hn98]
  ·go_wp2_with (first | ((with_reducible refine gate_dst (N := 8) rfl ?_); refine box_event ?hg (N := 8) ?hd (cs := #[.slice none 0 0, .int .u8 0, .nilFunc]) (t := 94) ?hr ?_; (case hd => rfl); (case hg => rfl); (case hr => first | (go_simp; done) | (go_simp; rfl)); intro gb8 hg w8 hbox hb;  have n0_ := A0_ (below_step (qm_ HB.out) hb); have n1_ := A0_ hbox; have n2_ := A0_ ((by rw [hg]; exact (below_size (qm_ HB.out))) : w.heap.size ≤ gb8); clear HB; have HB := n0_; have BK8 := n1_; have GE8 := n2_; clear n0_ n1_ n2_ hb hbox hg) | ((with_reducible refine gate_dst (N := 9) rfl ?_); refine box_event ?hg (N := 9) ?hd (cs := #[.int .i64 0, .int .i64 0, .int .i64 0, .int .i64 0]) (t := 96) ?hr ?_; (case hd => rfl); (case hg => rfl); (case hr => first | (go_simp; done) | (go_simp; rfl)); intro gb9 hg w9 hbox hb; have nb_ := A0_ (blk_below BK8.out hb); clear BK8; have BK8 := nb_; clear nb_; have n0_ := A0_ (below_step (qm_ HB.out) hb); have n1_ := A0_ hbox; have n2_ := A0_ ((by rw [hg]; exact (below_size (qm_ HB.out))) : w.heap.size ≤ gb9); clear HB; have HB := n0_; have BK9 := n1_; have GE9 := n2_; clear n0_ n1_ n2_ hb hbox hg; have hn89 : gb8 ≠ gb9 := blk_ne BK8.out BK9.out (by decide); have hn98 := Ne.symm hn89; have hcz8_0 : w9.cell? ⟨gb8, 0, none⟩ = some (.slice none 0 0) := (blk_cell BK8.out 0).trans rfl; have hfz8_0 := blk_frozen BK8.out 0; have hcz8_1 : w9.cell? ⟨gb8, 1, none⟩ = some (.int .u8 0) := (blk_cell BK8.out 1).trans rfl; have hfz8_1 := blk_frozen BK8.out 1; have hcz8_2 : w9.cell? ⟨gb8, 2, none⟩ = some (.nilFunc) := (blk_cell BK8.out 2).trans rfl; have hfz8_2 := blk_frozen BK8.out 2;have hcz9_0 : w9.cell? ⟨gb9, 0, none⟩ = some (.int .i64 0) := (blk_cell BK9.out 0).trans rfl; have hfz9_0 := blk_frozen BK9.out 0; have hcz9_1 : w9.cell? ⟨gb9, 1, none⟩ = some (.int .i64 0) := (blk_cell BK9.out 1).trans rfl; have hfz9_1 := blk_frozen BK9.out 1; have hcz9_2 : w9.cell? ⟨gb9, 2, none⟩ = some (.int .i64 0) := (blk_cell BK9.out 2).trans rfl; have hfz9_2 := blk_frozen BK9.out 2; have hcz9_3 : w9.cell? ⟨gb9, 3, none⟩ = some (.int .i64 0) := (blk_cell BK9.out 3).trans rfl; have hfz9_3 := blk_frozen BK9.out 3;))
   refine bodyPost_ret (v := .tuple #[.bool false, .int .i64 0]) ?_ rfl ⟨rfl, below_set (below_set (below_set (below_set (below_set (below_set (below_set HB.out GE8.out) GE8.out) GE8.out) GE9.out) GE9.out) GE9.out) GE9.out⟩
   simp [results, Try.results33, go_sem, hn89, hn98]
 ·have c7 : (er == 7) = false := beq_eq_false_iff_ne.mpr c
  rw [if_neg c] at h
  simp only [Option.some.injEq, Prod.mk.injEq] at h
  obtain ⟨rfl, rfl⟩ := h
  clear c
  go_enter Try.func33, Try.ntmps33
  go_wp2_with (first | ((with_reducible refine gate_dst (N := 5) rfl ?_); refine box_event ?hg (N := 5) ?hd (cs := #[.int .u64 a2_0, .int .u64 a2_1]) (t := 25) ?hr ?_; (case hd => rfl); (case hg => rfl); (case hr => first | (go_simp; done) | (go_simp; rfl)); intro gb5 hg w5 hbox hb;  have n0_ := A0_ (below_step (qm_ HB.out) hb); have n1_ := A0_ hbox; have n2_ := A0_ ((by rw [hg]; exact (below_size (qm_ HB.out))) : w.heap.size ≤ gb5); clear HB; have HB := n0_; have BK5 := n1_; have GE5 := n2_; clear n0_ n1_ n2_ hb hbox hg; have hcz5 := bc2_ BK5.out))
  refine (cuts_find.calls k a0 a1 a2_0 a2_1 _ _ _ _ _ _ A1.out).mono ?_
  rintro e wf ⟨A_, n_, c_, p_, fv, rfl, hz, hfv, hb⟩
  have n0_ := A0_ (below_step HB.out hb)
  clear HB hcz5 hb
  have HB := n0_
  clear n0_
  have HZ := A0_ hz
  clear hz
  rcases hfv with rfl | ⟨j, rfl⟩
  ·go_wp2_with (first | ((with_reducible refine gate_dst (N := 8) rfl ?_); refine box_event ?hg (N := 8) ?hd (cs := #[.slice none 0 0, .int .u8 0, .nilFunc]) (t := 94) ?hr ?_; (case hd => rfl); (case hg => rfl); (case hr => first | (go_simp; done) | (go_simp; rfl)); intro gb8 hg w8 hbox hb;  have n0_ := A0_ (below_step (qm_ HB.out) hb); have n1_ := A0_ hbox; have n2_ := A0_ ((by rw [hg]; exact (below_size (qm_ HB.out))) : w.heap.size ≤ gb8); clear HB; have HB := n0_; have BK8 := n1_; have GE8 := n2_; clear n0_ n1_ n2_ hb hbox hg) | ((with_reducible refine gate_dst (N := 9) rfl ?_); refine box_event ?hg (N := 9) ?hd (cs := #[.int .i64 0, .int .i64 0, .int .i64 0, .int .i64 0]) (t := 96) ?hr ?_; (case hd => rfl); (case hg => rfl); (case hr => first | (go_simp; done) | (go_simp; rfl)); intro gb9 hg w9 hbox hb; have nb_ := A0_ (blk_below BK8.out hb); clear BK8; have BK8 := nb_; clear nb_; have n0_ := A0_ (below_step (qm_ HB.out) hb); have n1_ := A0_ hbox; have n2_ := A0_ ((by rw [hg]; exact (below_size (qm_ HB.out))) : w.heap.size ≤ gb9); clear HB; have HB := n0_; have BK9 := n1_; have GE9 := n2_; clear n0_ n1_ n2_ hb hbox hg; have hn89 : gb8 ≠ gb9 := blk_ne BK8.out BK9.out (by decide); have hn98 := Ne.symm hn89; have hcz8_0 : w9.cell? ⟨gb8, 0, none⟩ = some (.slice none 0 0) := (blk_cell BK8.out 0).trans rfl; have hfz8_0 := blk_frozen BK8.out 0; have hcz8_1 : w9.cell? ⟨gb8, 1, none⟩ = some (.int .u8 0) := (blk_cell BK8.out 1).trans rfl; have hfz8_1 := blk_frozen BK8.out 1; have hcz8_2 : w9.cell? ⟨gb8, 2, none⟩ = some (.nilFunc) := (blk_cell BK8.out 2).trans rfl; have hfz8_2 := blk_frozen BK8.out 2;have hcz9_0 : w9.cell? ⟨gb9, 0, none⟩ = some (.int .i64 0) := (blk_cell BK9.out 0).trans rfl; have hfz9_0 := blk_frozen BK9.out 0; have hcz9_1 : w9.cell? ⟨gb9, 1, none⟩ = some (.int .i64 0) := (blk_cell BK9.out 1).trans rfl; have hfz9_1 := blk_frozen BK9.out 1; have hcz9_2 : w9.cell? ⟨gb9, 2, none⟩ = some (.int .i64 0) := (blk_cell BK9.out 2).trans rfl; have hfz9_2 := blk_frozen BK9.out 2; have hcz9_3 : w9.cell? ⟨gb9, 3, none⟩ = some (.int .i64 0) := (blk_cell BK9.out 3).trans rfl; have hfz9_3 := blk_frozen BK9.out 3;))
   refine bodyPost_ret (v := .tuple #[.bool (er == 0), .int .i64 er]) ?_ rfl ⟨rfl, below_set (below_set (below_set (below_set (below_set (below_set (below_set HB.out GE8.out) GE8.out) GE8.out) GE9.out) GE9.out) GE9.out) GE9.out⟩
   simp [results, Try.results33, go_sem, hn89, hn98]
  ·go_wp2_with (first | ((with_reducible refine gate_dst (N := 8) rfl ?_); refine box_event ?hg (N := 8) ?hd (cs := #[.slice none 0 0, .int .u8 0, .nilFunc]) (t := 94) ?hr ?_; (case hd => rfl); (case hg => rfl); (case hr => first | (go_simp; done) | (go_simp; rfl)); intro gb8 hg w8 hbox hb;  have n0_ := A0_ (below_step (qm_ HB.out) hb); have n1_ := A0_ hbox; have n2_ := A0_ ((by rw [hg]; exact (below_size (qm_ HB.out))) : w.heap.size ≤ gb8); clear HB; have HB := n0_; have BK8 := n1_; have GE8 := n2_; clear n0_ n1_ n2_ hb hbox hg) | ((with_reducible refine gate_dst (N := 9) rfl ?_); refine box_event ?hg (N := 9) ?hd (cs := #[.int .i64 0, .int .i64 0, .int .i64 0, .int .i64 0]) (t := 96) ?hr ?_; (case hd => rfl); (case hg => rfl); (case hr => first | (go_simp; done) | (go_simp; rfl)); intro gb9 hg w9 hbox hb; have nb_ := A0_ (blk_below BK8.out hb); clear BK8; have BK8 := nb_; clear nb_; have n0_ := A0_ (below_step (qm_ HB.out) hb); have n1_ := A0_ hbox; have n2_ := A0_ ((by rw [hg]; exact (below_size (qm_ HB.out))) : w.heap.size ≤ gb9); clear HB; have HB := n0_; have BK9 := n1_; have GE9 := n2_; clear n0_ n1_ n2_ hb hbox hg; have hn89 : gb8 ≠ gb9 := blk_ne BK8.out BK9.out (by decide); have hn98 := Ne.symm hn89; have hcz8_0 : w9.cell? ⟨gb8, 0, none⟩ = some (.slice none 0 0) := (blk_cell BK8.out 0).trans rfl; have hfz8_0 := blk_frozen BK8.out 0; have hcz8_1 : w9.cell? ⟨gb8, 1, none⟩ = some (.int .u8 0) := (blk_cell BK8.out 1).trans rfl; have hfz8_1 := blk_frozen BK8.out 1; have hcz8_2 : w9.cell? ⟨gb8, 2, none⟩ = some (.nilFunc) := (blk_cell BK8.out 2).trans rfl; have hfz8_2 := blk_frozen BK8.out 2;have hcz9_0 : w9.cell? ⟨gb9, 0, none⟩ = some (.int .i64 0) := (blk_cell BK9.out 0).trans rfl; have hfz9_0 := blk_frozen BK9.out 0; have hcz9_1 : w9.cell? ⟨gb9, 1, none⟩ = some (.int .i64 0) := (blk_cell BK9.out 1).trans rfl; have hfz9_1 := blk_frozen BK9.out 1; have hcz9_2 : w9.cell? ⟨gb9, 2, none⟩ = some (.int .i64 0) := (blk_cell BK9.out 2).trans rfl; have hfz9_2 := blk_frozen BK9.out 2; have hcz9_3 : w9.cell? ⟨gb9, 3, none⟩ = some (.int .i64 0) := (blk_cell BK9.out 3).trans rfl; have hfz9_3 := blk_frozen BK9.out 3;))
   refine bodyPost_ret (v := .tuple #[.bool (er == 0), .int .i64 er]) ?_ rfl ⟨rfl, below_set (below_set (below_set (below_set (below_set (below_set (below_set HB.out GE8.out) GE8.out) GE8.out) GE9.out) GE9.out) GE9.out) GE9.out⟩
   simp [results, Try.results33, go_sem, hn89, hn98]
attribute [local go_sem] run_store_func run_store_nilFunc
def cuts_Side.f (k : Nat) (a0 a1 a2_0 a2_1 : Int) : Option (Int × Int) := (cuts_find.f k a0 a1 a2_0 a2_1).bind fun t => some (t.2.2.2.1, t.2.2.2.2)
set_option maxHeartbeats 4000000 in
set_option maxRecDepth 100000 in
theorem cuts_Side.calls (k : Nat) (a0 a1 a2_0 a2_1 : Int) (r1 r2 : Int) (w : World) (h : cuts_Side.f k a0 a1 a2_0 a2_1 = some (r1, r2)) : Calls Try.prog 34 #[.int .u8 a0, .int .u8 a1, .agg #[.int .u64 a2_0, .int .u64 a2_1]] w fun e w' => e = .returned (.tuple #[.int .i64 r1, .int .i64 r2]) ∧ Below w.heap.size w w' := by
 have hu25 := Try.underlying25
 have hu54 := Try.underlying54
 have HB := A0_ (Below.refl w.heap.size w)
 unfold cuts_Side.f at h
 obtain ⟨⟨s, o, m, d, er⟩, A1, h⟩ := Option.bind_eq_some_iff.mp h
 have A1 := A0_ A1
 ·simp only [Option.some.injEq, Prod.mk.injEq] at h
  obtain ⟨rfl, rfl⟩ := h
  go_enter Try.func34, Try.ntmps34
  go_wp2_with (first | ((with_reducible refine gate_dst (N := 5) rfl ?_); refine box_event ?hg (N := 5) ?hd (cs := #[.int .u64 a2_0, .int .u64 a2_1]) (t := 25) ?hr ?_; (case hd => rfl); (case hg => rfl); (case hr => first | (go_simp; done) | (go_simp; rfl)); intro gb5 hg w5 hbox hb;  have n0_ := A0_ (below_step (qm_ HB.out) hb); have n1_ := A0_ hbox; have n2_ := A0_ ((by rw [hg]; exact (below_size (qm_ HB.out))) : w.heap.size ≤ gb5); clear HB; have HB := n0_; have BK5 := n1_; have GE5 := n2_; clear n0_ n1_ n2_ hb hbox hg; have hcz5 := bc2_ BK5.out))
  refine (cuts_find.calls k a0 a1 a2_0 a2_1 _ _ _ _ _ _ A1.out).mono ?_
  rintro e wf ⟨A_, n_, c_, p_, fv, rfl, hz, hfv, hb⟩
  have n0_ := A0_ (below_step HB.out hb)
  clear HB hcz5 hb
  have HB := n0_
  clear n0_
  have HZ := A0_ hz
  clear hz
  rcases hfv with rfl | ⟨j, rfl⟩
  ·go_wp2_with (first | ((with_reducible refine gate_dst (N := 8) rfl ?_); refine box_event ?hg (N := 8) ?hd (cs := #[.slice none 0 0, .int .u8 0, .nilFunc]) (t := 94) ?hr ?_; (case hd => rfl); (case hg => rfl); (case hr => first | (go_simp; done) | (go_simp; rfl)); intro gb8 hg w8 hbox hb;  have n0_ := A0_ (below_step (qm_ HB.out) hb); have n1_ := A0_ hbox; have n2_ := A0_ ((by rw [hg]; exact (below_size (qm_ HB.out))) : w.heap.size ≤ gb8); clear HB; have HB := n0_; have BK8 := n1_; have GE8 := n2_; clear n0_ n1_ n2_ hb hbox hg) | ((with_reducible refine gate_dst (N := 9) rfl ?_); refine box_event ?hg (N := 9) ?hd (cs := #[.int .i64 0, .int .i64 0, .int .i64 0, .int .i64 0]) (t := 96) ?hr ?_; (case hd => rfl); (case hg => rfl); (case hr => first | (go_simp; done) | (go_simp; rfl)); intro gb9 hg w9 hbox hb; have nb_ := A0_ (blk_below BK8.out hb); clear BK8; have BK8 := nb_; clear nb_; have n0_ := A0_ (below_step (qm_ HB.out) hb); have n1_ := A0_ hbox; have n2_ := A0_ ((by rw [hg]; exact (below_size (qm_ HB.out))) : w.heap.size ≤ gb9); clear HB; have HB := n0_; have BK9 := n1_; have GE9 := n2_; clear n0_ n1_ n2_ hb hbox hg; have hn89 : gb8 ≠ gb9 := blk_ne BK8.out BK9.out (by decide); have hn98 := Ne.symm hn89; have hcz8_0 : w9.cell? ⟨gb8, 0, none⟩ = some (.slice none 0 0) := (blk_cell BK8.out 0).trans rfl; have hfz8_0 := blk_frozen BK8.out 0; have hcz8_1 : w9.cell? ⟨gb8, 1, none⟩ = some (.int .u8 0) := (blk_cell BK8.out 1).trans rfl; have hfz8_1 := blk_frozen BK8.out 1; have hcz8_2 : w9.cell? ⟨gb8, 2, none⟩ = some (.nilFunc) := (blk_cell BK8.out 2).trans rfl; have hfz8_2 := blk_frozen BK8.out 2;have hcz9_0 : w9.cell? ⟨gb9, 0, none⟩ = some (.int .i64 0) := (blk_cell BK9.out 0).trans rfl; have hfz9_0 := blk_frozen BK9.out 0; have hcz9_1 : w9.cell? ⟨gb9, 1, none⟩ = some (.int .i64 0) := (blk_cell BK9.out 1).trans rfl; have hfz9_1 := blk_frozen BK9.out 1; have hcz9_2 : w9.cell? ⟨gb9, 2, none⟩ = some (.int .i64 0) := (blk_cell BK9.out 2).trans rfl; have hfz9_2 := blk_frozen BK9.out 2; have hcz9_3 : w9.cell? ⟨gb9, 3, none⟩ = some (.int .i64 0) := (blk_cell BK9.out 3).trans rfl; have hfz9_3 := blk_frozen BK9.out 3;))
   refine bodyPost_ret (v := .tuple #[.int .i64 d, .int .i64 er]) ?_ rfl ⟨rfl, below_set (below_set (below_set (below_set (below_set (below_set (below_set HB.out GE8.out) GE8.out) GE8.out) GE9.out) GE9.out) GE9.out) GE9.out⟩
   simp [results, Try.results34, go_sem, hn89, hn98]
  ·go_wp2_with (first | ((with_reducible refine gate_dst (N := 8) rfl ?_); refine box_event ?hg (N := 8) ?hd (cs := #[.slice none 0 0, .int .u8 0, .nilFunc]) (t := 94) ?hr ?_; (case hd => rfl); (case hg => rfl); (case hr => first | (go_simp; done) | (go_simp; rfl)); intro gb8 hg w8 hbox hb;  have n0_ := A0_ (below_step (qm_ HB.out) hb); have n1_ := A0_ hbox; have n2_ := A0_ ((by rw [hg]; exact (below_size (qm_ HB.out))) : w.heap.size ≤ gb8); clear HB; have HB := n0_; have BK8 := n1_; have GE8 := n2_; clear n0_ n1_ n2_ hb hbox hg) | ((with_reducible refine gate_dst (N := 9) rfl ?_); refine box_event ?hg (N := 9) ?hd (cs := #[.int .i64 0, .int .i64 0, .int .i64 0, .int .i64 0]) (t := 96) ?hr ?_; (case hd => rfl); (case hg => rfl); (case hr => first | (go_simp; done) | (go_simp; rfl)); intro gb9 hg w9 hbox hb; have nb_ := A0_ (blk_below BK8.out hb); clear BK8; have BK8 := nb_; clear nb_; have n0_ := A0_ (below_step (qm_ HB.out) hb); have n1_ := A0_ hbox; have n2_ := A0_ ((by rw [hg]; exact (below_size (qm_ HB.out))) : w.heap.size ≤ gb9); clear HB; have HB := n0_; have BK9 := n1_; have GE9 := n2_; clear n0_ n1_ n2_ hb hbox hg; have hn89 : gb8 ≠ gb9 := blk_ne BK8.out BK9.out (by decide); have hn98 := Ne.symm hn89; have hcz8_0 : w9.cell? ⟨gb8, 0, none⟩ = some (.slice none 0 0) := (blk_cell BK8.out 0).trans rfl; have hfz8_0 := blk_frozen BK8.out 0; have hcz8_1 : w9.cell? ⟨gb8, 1, none⟩ = some (.int .u8 0) := (blk_cell BK8.out 1).trans rfl; have hfz8_1 := blk_frozen BK8.out 1; have hcz8_2 : w9.cell? ⟨gb8, 2, none⟩ = some (.nilFunc) := (blk_cell BK8.out 2).trans rfl; have hfz8_2 := blk_frozen BK8.out 2;have hcz9_0 : w9.cell? ⟨gb9, 0, none⟩ = some (.int .i64 0) := (blk_cell BK9.out 0).trans rfl; have hfz9_0 := blk_frozen BK9.out 0; have hcz9_1 : w9.cell? ⟨gb9, 1, none⟩ = some (.int .i64 0) := (blk_cell BK9.out 1).trans rfl; have hfz9_1 := blk_frozen BK9.out 1; have hcz9_2 : w9.cell? ⟨gb9, 2, none⟩ = some (.int .i64 0) := (blk_cell BK9.out 2).trans rfl; have hfz9_2 := blk_frozen BK9.out 2; have hcz9_3 : w9.cell? ⟨gb9, 3, none⟩ = some (.int .i64 0) := (blk_cell BK9.out 3).trans rfl; have hfz9_3 := blk_frozen BK9.out 3;))
   refine bodyPost_ret (v := .tuple #[.int .i64 d, .int .i64 er]) ?_ rfl ⟨rfl, below_set (below_set (below_set (below_set (below_set (below_set (below_set HB.out GE8.out) GE8.out) GE8.out) GE9.out) GE9.out) GE9.out) GE9.out⟩
   simp [results, Try.results34, go_sem, hn89, hn98]
attribute [local go_sem] run_store_func run_store_nilFunc
/-- the signs that a place has -/
def csigns (n : Nat) (s o m d : Int) : Int × Int := if n = 90 then (s, d) else if n = 91 then (d, s) else if n = 92 then (0, d) else if n = 93 then (wrap64 (-m), d) else if n = 95 then (mx 0 (wrap64 (-s)), wrap64 (-d)) else (mx 0 (wrap64 (-m)), d)
def cuts_Signs.f (k : Nat) (a0 a1 a2_0 a2_1 : Int) : Option (Int × Int × Int) := (cuts_find.f k a0 a1 a2_0 a2_1).bind fun t => some (if t.2.2.2.2 = 0 then ((csigns (cno a1) t.1 t.2.1 t.2.2.1 t.2.2.2.1).1, (csigns (cno a1) t.1 t.2.1 t.2.2.1 t.2.2.2.1).2, 0) else (0, 0, t.2.2.2.2))
theorem cno_cases (fn : Int) : cno fn = 90 ∨ cno fn = 91 ∨ cno fn = 92 ∨ cno fn = 93 ∨ cno fn = 95 ∨ cno fn = 96 := by
 unfold cno
 repeat' split
 all_goals simp
theorem cuts_find.ok {k : Nat} {a0 a1 a2_0 a2_1 s o m d : Int} (h : cuts_find.f k a0 a1 a2_0 a2_1 = some (s, o, m, d, 0)) : cis a1 = true := by
 unfold cuts_find.f at h
 obtain ⟨e0, A1, h⟩ := Option.bind_eq_some_iff.mp h
 by_cases he : e0 = 0
 ·rw [if_pos he] at h
  cases hcis : cis a1
  ·rw [hcis, if_neg (by decide)] at h
   simp only [Option.some.injEq, Prod.mk.injEq] at h
   exact absurd h.2.2.2.2 (by decide)
  ·rfl
 ·rw [if_neg he] at h
  simp only [Option.some.injEq, Prod.mk.injEq] at h
  exact absurd h.2.2.2.2 he
set_option maxHeartbeats 4000000 in
set_option maxRecDepth 100000 in
theorem cuts_Signs.calls (k : Nat) (a0 a1 a2_0 a2_1 : Int) (r1 r2 r3 : Int) (w : World) (h : cuts_Signs.f k a0 a1 a2_0 a2_1 = some (r1, r2, r3)) : Calls Try.prog 35 #[.int .u8 a0, .int .u8 a1, .agg #[.int .u64 a2_0, .int .u64 a2_1]] w fun e w' => e = .returned (.tuple #[.int .i64 r1, .int .i64 r2, .int .i64 r3]) ∧ Below w.heap.size w w' := by
 have hu25 := Try.underlying25
 have hu54 := Try.underlying54
 have HB := A0_ (Below.refl w.heap.size w)
 unfold cuts_Signs.f at h
 obtain ⟨⟨s, o, m, d, er⟩, A1, h⟩ := Option.bind_eq_some_iff.mp h
 have A1 := A0_ A1
 simp only at h
 by_cases c : er = 0
 rotate_left
 ·have c7 : (er != 0) = true := bne_iff_ne.mpr c
  rw [if_neg c] at h
  simp only [Option.some.injEq, Prod.mk.injEq] at h
  obtain ⟨rfl, rfl, rfl⟩ := h
  clear c
  go_enter Try.func35, Try.ntmps35
  go_wp2_with (first | ((with_reducible refine gate_dst (N := 5) rfl ?_); refine box_event ?hg (N := 5) ?hd (cs := #[.int .u64 a2_0, .int .u64 a2_1]) (t := 25) ?hr ?_; (case hd => rfl); (case hg => rfl); (case hr => first | (go_simp; done) | (go_simp; rfl)); intro gb5 hg w5 hbox hb;  have n0_ := A0_ (below_step (qm_ HB.out) hb); have n1_ := A0_ hbox; have n2_ := A0_ ((by rw [hg]; exact (below_size (qm_ HB.out))) : w.heap.size ≤ gb5); clear HB; have HB := n0_; have BK5 := n1_; have GE5 := n2_; clear n0_ n1_ n2_ hb hbox hg; have hcz5 := bc2_ BK5.out))
  refine (cuts_find.calls k a0 a1 a2_0 a2_1 _ _ _ _ _ _ A1.out).mono ?_
  rintro e wf ⟨A_, n_, c_, p_, fv, rfl, hz, hfv, hb⟩
  have n0_ := A0_ (below_step HB.out hb)
  clear HB hcz5 hb
  have HB := n0_
  clear n0_
  have HZ := A0_ hz
  clear hz
  rcases hfv with rfl | ⟨j, rfl⟩
  ·go_wp2_with (first | ((with_reducible refine gate_dst (N := 9) rfl ?_); refine box_event ?hg (N := 9) ?hd (cs := #[.slice none 0 0, .int .u8 0, .nilFunc]) (t := 94) ?hr ?_; (case hd => rfl); (case hg => rfl); (case hr => first | (go_simp; done) | (go_simp; rfl)); intro gb8 hg w8 hbox hb;  have n0_ := A0_ (below_step (qm_ HB.out) hb); have n1_ := A0_ hbox; have n2_ := A0_ ((by rw [hg]; exact (below_size (qm_ HB.out))) : w.heap.size ≤ gb8); clear HB; have HB := n0_; have BK8 := n1_; have GE8 := n2_; clear n0_ n1_ n2_ hb hbox hg) | ((with_reducible refine gate_dst (N := 10) rfl ?_); refine box_event ?hg (N := 10) ?hd (cs := #[.int .i64 0, .int .i64 0, .int .i64 0, .int .i64 0]) (t := 96) ?hr ?_; (case hd => rfl); (case hg => rfl); (case hr => first | (go_simp; done) | (go_simp; rfl)); intro gb9 hg w9 hbox hb; have nb_ := A0_ (blk_below BK8.out hb); clear BK8; have BK8 := nb_; clear nb_; have n0_ := A0_ (below_step (qm_ HB.out) hb); have n1_ := A0_ hbox; have n2_ := A0_ ((by rw [hg]; exact (below_size (qm_ HB.out))) : w.heap.size ≤ gb9); clear HB; have HB := n0_; have BK9 := n1_; have GE9 := n2_; clear n0_ n1_ n2_ hb hbox hg; have hn89 : gb8 ≠ gb9 := blk_ne BK8.out BK9.out (by decide); have hn98 := Ne.symm hn89; have hcz8_0 : w9.cell? ⟨gb8, 0, none⟩ = some (.slice none 0 0) := (blk_cell BK8.out 0).trans rfl; have hfz8_0 := blk_frozen BK8.out 0; have hcz8_1 : w9.cell? ⟨gb8, 1, none⟩ = some (.int .u8 0) := (blk_cell BK8.out 1).trans rfl; have hfz8_1 := blk_frozen BK8.out 1; have hcz8_2 : w9.cell? ⟨gb8, 2, none⟩ = some (.nilFunc) := (blk_cell BK8.out 2).trans rfl; have hfz8_2 := blk_frozen BK8.out 2;have hcz9_0 : w9.cell? ⟨gb9, 0, none⟩ = some (.int .i64 0) := (blk_cell BK9.out 0).trans rfl; have hfz9_0 := blk_frozen BK9.out 0; have hcz9_1 : w9.cell? ⟨gb9, 1, none⟩ = some (.int .i64 0) := (blk_cell BK9.out 1).trans rfl; have hfz9_1 := blk_frozen BK9.out 1; have hcz9_2 : w9.cell? ⟨gb9, 2, none⟩ = some (.int .i64 0) := (blk_cell BK9.out 2).trans rfl; have hfz9_2 := blk_frozen BK9.out 2; have hcz9_3 : w9.cell? ⟨gb9, 3, none⟩ = some (.int .i64 0) := (blk_cell BK9.out 3).trans rfl; have hfz9_3 := blk_frozen BK9.out 3;))
   refine bodyPost_ret (v := .tuple #[.int .i64 0, .int .i64 0, .int .i64 er]) ?_ rfl ⟨rfl, below_set (below_set (below_set (below_set (below_set (below_set (below_set HB.out GE8.out) GE8.out) GE8.out) GE9.out) GE9.out) GE9.out) GE9.out⟩
   simp [results, Try.results35, go_sem, hn89, hn98]
  ·go_wp2_with (first | ((with_reducible refine gate_dst (N := 9) rfl ?_); refine box_event ?hg (N := 9) ?hd (cs := #[.slice none 0 0, .int .u8 0, .nilFunc]) (t := 94) ?hr ?_; (case hd => rfl); (case hg => rfl); (case hr => first | (go_simp; done) | (go_simp; rfl)); intro gb8 hg w8 hbox hb;  have n0_ := A0_ (below_step (qm_ HB.out) hb); have n1_ := A0_ hbox; have n2_ := A0_ ((by rw [hg]; exact (below_size (qm_ HB.out))) : w.heap.size ≤ gb8); clear HB; have HB := n0_; have BK8 := n1_; have GE8 := n2_; clear n0_ n1_ n2_ hb hbox hg) | ((with_reducible refine gate_dst (N := 10) rfl ?_); refine box_event ?hg (N := 10) ?hd (cs := #[.int .i64 0, .int .i64 0, .int .i64 0, .int .i64 0]) (t := 96) ?hr ?_; (case hd => rfl); (case hg => rfl); (case hr => first | (go_simp; done) | (go_simp; rfl)); intro gb9 hg w9 hbox hb; have nb_ := A0_ (blk_below BK8.out hb); clear BK8; have BK8 := nb_; clear nb_; have n0_ := A0_ (below_step (qm_ HB.out) hb); have n1_ := A0_ hbox; have n2_ := A0_ ((by rw [hg]; exact (below_size (qm_ HB.out))) : w.heap.size ≤ gb9); clear HB; have HB := n0_; have BK9 := n1_; have GE9 := n2_; clear n0_ n1_ n2_ hb hbox hg; have hn89 : gb8 ≠ gb9 := blk_ne BK8.out BK9.out (by decide); have hn98 := Ne.symm hn89; have hcz8_0 : w9.cell? ⟨gb8, 0, none⟩ = some (.slice none 0 0) := (blk_cell BK8.out 0).trans rfl; have hfz8_0 := blk_frozen BK8.out 0; have hcz8_1 : w9.cell? ⟨gb8, 1, none⟩ = some (.int .u8 0) := (blk_cell BK8.out 1).trans rfl; have hfz8_1 := blk_frozen BK8.out 1; have hcz8_2 : w9.cell? ⟨gb8, 2, none⟩ = some (.nilFunc) := (blk_cell BK8.out 2).trans rfl; have hfz8_2 := blk_frozen BK8.out 2;have hcz9_0 : w9.cell? ⟨gb9, 0, none⟩ = some (.int .i64 0) := (blk_cell BK9.out 0).trans rfl; have hfz9_0 := blk_frozen BK9.out 0; have hcz9_1 : w9.cell? ⟨gb9, 1, none⟩ = some (.int .i64 0) := (blk_cell BK9.out 1).trans rfl; have hfz9_1 := blk_frozen BK9.out 1; have hcz9_2 : w9.cell? ⟨gb9, 2, none⟩ = some (.int .i64 0) := (blk_cell BK9.out 2).trans rfl; have hfz9_2 := blk_frozen BK9.out 2; have hcz9_3 : w9.cell? ⟨gb9, 3, none⟩ = some (.int .i64 0) := (blk_cell BK9.out 3).trans rfl; have hfz9_3 := blk_frozen BK9.out 3;))
   refine bodyPost_ret (v := .tuple #[.int .i64 0, .int .i64 0, .int .i64 er]) ?_ rfl ⟨rfl, below_set (below_set (below_set (below_set (below_set (below_set (below_set HB.out GE8.out) GE8.out) GE8.out) GE9.out) GE9.out) GE9.out) GE9.out⟩
   simp [results, Try.results35, go_sem, hn89, hn98]
 ·subst c
  have hcis : cis a1 = true := cuts_find.ok A1.out
  rw [if_pos rfl] at h
  simp only [Option.some.injEq, Prod.mk.injEq] at h
  obtain ⟨h1, h2, h3⟩ := h
  subst h3
  go_enter Try.func35, Try.ntmps35
  go_wp2_with (first | ((with_reducible refine gate_dst (N := 5) rfl ?_); refine box_event ?hg (N := 5) ?hd (cs := #[.int .u64 a2_0, .int .u64 a2_1]) (t := 25) ?hr ?_; (case hd => rfl); (case hg => rfl); (case hr => first | (go_simp; done) | (go_simp; rfl)); intro gb5 hg w5 hbox hb;  have n0_ := A0_ (below_step (qm_ HB.out) hb); have n1_ := A0_ hbox; have n2_ := A0_ ((by rw [hg]; exact (below_size (qm_ HB.out))) : w.heap.size ≤ gb5); clear HB; have HB := n0_; have BK5 := n1_; have GE5 := n2_; clear n0_ n1_ n2_ hb hbox hg; have hcz5 := bc2_ BK5.out))
  refine (cuts_find.calls k a0 a1 a2_0 a2_1 _ _ _ _ _ _ A1.out).mono ?_
  rintro e wf ⟨A_, n_, c_, p_, fv, rfl, hz, hfv, hb⟩
  have n0_ := A0_ (below_step HB.out hb)
  clear HB hcz5 hb
  have HB := n0_
  clear n0_
  have HZ := A0_ hz
  clear hz
  have hfv := HZ.out rfl
  rw [show csig a1 = .func (Fn.func (cno a1)) #[] #[] from by unfold csig; rw [hcis]; rfl] at hfv
  subst hfv
  clear HZ
  rcases cno_cases a1 with hn | hn | hn | hn | hn | hn
  ·rw [hn]
   go_wp2_with (first | ((with_reducible refine gate_dst (N := 9) rfl ?_); refine box_event ?hg (N := 9) ?hd (cs := #[.slice none 0 0, .int .u8 0, .nilFunc]) (t := 94) ?hr ?_; (case hd => rfl); (case hg => rfl); (case hr => first | (go_simp; done) | (go_simp; rfl)); intro gb8 hg w8 hbox hb;  have n0_ := A0_ (below_step (qm_ HB.out) hb); have n1_ := A0_ hbox; have n2_ := A0_ ((by rw [hg]; exact (below_size (qm_ HB.out))) : w.heap.size ≤ gb8); clear HB; have HB := n0_; have BK8 := n1_; have GE8 := n2_; clear n0_ n1_ n2_ hb hbox hg) | ((with_reducible refine gate_dst (N := 10) rfl ?_); refine box_event ?hg (N := 10) ?hd (cs := #[.int .i64 0, .int .i64 0, .int .i64 0, .int .i64 0]) (t := 96) ?hr ?_; (case hd => rfl); (case hg => rfl); (case hr => first | (go_simp; done) | (go_simp; rfl)); intro gb9 hg w9 hbox hb; have nb_ := A0_ (blk_below BK8.out hb); clear BK8; have BK8 := nb_; clear nb_; have n0_ := A0_ (below_step (qm_ HB.out) hb); have n1_ := A0_ hbox; have n2_ := A0_ ((by rw [hg]; exact (below_size (qm_ HB.out))) : w.heap.size ≤ gb9); clear HB; have HB := n0_; have BK9 := n1_; have GE9 := n2_; clear n0_ n1_ n2_ hb hbox hg; have hn89 : gb8 ≠ gb9 := blk_ne BK8.out BK9.out (by decide); have hn98 := Ne.symm hn89; have hcz8_0 : w9.cell? ⟨gb8, 0, none⟩ = some (.slice none 0 0) := (blk_cell BK8.out 0).trans rfl; have hfz8_0 := blk_frozen BK8.out 0; have hcz8_1 : w9.cell? ⟨gb8, 1, none⟩ = some (.int .u8 0) := (blk_cell BK8.out 1).trans rfl; have hfz8_1 := blk_frozen BK8.out 1; have hcz8_2 : w9.cell? ⟨gb8, 2, none⟩ = some (.nilFunc) := (blk_cell BK8.out 2).trans rfl; have hfz8_2 := blk_frozen BK8.out 2;have hcz9_0 : w9.cell? ⟨gb9, 0, none⟩ = some (.int .i64 0) := (blk_cell BK9.out 0).trans rfl; have hfz9_0 := blk_frozen BK9.out 0; have hcz9_1 : w9.cell? ⟨gb9, 1, none⟩ = some (.int .i64 0) := (blk_cell BK9.out 1).trans rfl; have hfz9_1 := blk_frozen BK9.out 1; have hcz9_2 : w9.cell? ⟨gb9, 2, none⟩ = some (.int .i64 0) := (blk_cell BK9.out 2).trans rfl; have hfz9_2 := blk_frozen BK9.out 2; have hcz9_3 : w9.cell? ⟨gb9, 3, none⟩ = some (.int .i64 0) := (blk_cell BK9.out 3).trans rfl; have hfz9_3 := blk_frozen BK9.out 3;) | (go_at_call 90; (with_reducible refine (cuts_table_1.calls s o m d _ _ _ rfl).mono ?_); rintro e wq ⟨rfl, hb⟩; have n1_ := A0_ (below_step (below_set (below_set (below_set (below_set (below_set (below_set (below_set HB.out GE8.out) GE8.out) GE8.out) GE9.out) GE9.out) GE9.out) GE9.out) hb); clear HB; have HB := n1_; clear n1_ hb))
   refine bodyPost_ret (v := .tuple #[.int .i64 (s), .int .i64 (d), .int .i64 0]) ?_ rfl ⟨by rw [← h1, ← h2, hn]; rfl, HB.out⟩
   simp [results, Try.results35, go_sem]
  ·rw [hn]
   go_wp2_with (first | ((with_reducible refine gate_dst (N := 9) rfl ?_); refine box_event ?hg (N := 9) ?hd (cs := #[.slice none 0 0, .int .u8 0, .nilFunc]) (t := 94) ?hr ?_; (case hd => rfl); (case hg => rfl); (case hr => first | (go_simp; done) | (go_simp; rfl)); intro gb8 hg w8 hbox hb;  have n0_ := A0_ (below_step (qm_ HB.out) hb); have n1_ := A0_ hbox; have n2_ := A0_ ((by rw [hg]; exact (below_size (qm_ HB.out))) : w.heap.size ≤ gb8); clear HB; have HB := n0_; have BK8 := n1_; have GE8 := n2_; clear n0_ n1_ n2_ hb hbox hg) | ((with_reducible refine gate_dst (N := 10) rfl ?_); refine box_event ?hg (N := 10) ?hd (cs := #[.int .i64 0, .int .i64 0, .int .i64 0, .int .i64 0]) (t := 96) ?hr ?_; (case hd => rfl); (case hg => rfl); (case hr => first | (go_simp; done) | (go_simp; rfl)); intro gb9 hg w9 hbox hb; have nb_ := A0_ (blk_below BK8.out hb); clear BK8; have BK8 := nb_; clear nb_; have n0_ := A0_ (below_step (qm_ HB.out) hb); have n1_ := A0_ hbox; have n2_ := A0_ ((by rw [hg]; exact (below_size (qm_ HB.out))) : w.heap.size ≤ gb9); clear HB; have HB := n0_; have BK9 := n1_; have GE9 := n2_; clear n0_ n1_ n2_ hb hbox hg; have hn89 : gb8 ≠ gb9 := blk_ne BK8.out BK9.out (by decide); have hn98 := Ne.symm hn89; have hcz8_0 : w9.cell? ⟨gb8, 0, none⟩ = some (.slice none 0 0) := (blk_cell BK8.out 0).trans rfl; have hfz8_0 := blk_frozen BK8.out 0; have hcz8_1 : w9.cell? ⟨gb8, 1, none⟩ = some (.int .u8 0) := (blk_cell BK8.out 1).trans rfl; have hfz8_1 := blk_frozen BK8.out 1; have hcz8_2 : w9.cell? ⟨gb8, 2, none⟩ = some (.nilFunc) := (blk_cell BK8.out 2).trans rfl; have hfz8_2 := blk_frozen BK8.out 2;have hcz9_0 : w9.cell? ⟨gb9, 0, none⟩ = some (.int .i64 0) := (blk_cell BK9.out 0).trans rfl; have hfz9_0 := blk_frozen BK9.out 0; have hcz9_1 : w9.cell? ⟨gb9, 1, none⟩ = some (.int .i64 0) := (blk_cell BK9.out 1).trans rfl; have hfz9_1 := blk_frozen BK9.out 1; have hcz9_2 : w9.cell? ⟨gb9, 2, none⟩ = some (.int .i64 0) := (blk_cell BK9.out 2).trans rfl; have hfz9_2 := blk_frozen BK9.out 2; have hcz9_3 : w9.cell? ⟨gb9, 3, none⟩ = some (.int .i64 0) := (blk_cell BK9.out 3).trans rfl; have hfz9_3 := blk_frozen BK9.out 3;) | (go_at_call 91; (with_reducible refine (cuts_table_2.calls s o m d _ _ _ rfl).mono ?_); rintro e wq ⟨rfl, hb⟩; have n1_ := A0_ (below_step (below_set (below_set (below_set (below_set (below_set (below_set (below_set HB.out GE8.out) GE8.out) GE8.out) GE9.out) GE9.out) GE9.out) GE9.out) hb); clear HB; have HB := n1_; clear n1_ hb))
   refine bodyPost_ret (v := .tuple #[.int .i64 (d), .int .i64 (s), .int .i64 0]) ?_ rfl ⟨by rw [← h1, ← h2, hn]; rfl, HB.out⟩
   simp [results, Try.results35, go_sem]
  ·rw [hn]
   go_wp2_with (first | ((with_reducible refine gate_dst (N := 9) rfl ?_); refine box_event ?hg (N := 9) ?hd (cs := #[.slice none 0 0, .int .u8 0, .nilFunc]) (t := 94) ?hr ?_; (case hd => rfl); (case hg => rfl); (case hr => first | (go_simp; done) | (go_simp; rfl)); intro gb8 hg w8 hbox hb;  have n0_ := A0_ (below_step (qm_ HB.out) hb); have n1_ := A0_ hbox; have n2_ := A0_ ((by rw [hg]; exact (below_size (qm_ HB.out))) : w.heap.size ≤ gb8); clear HB; have HB := n0_; have BK8 := n1_; have GE8 := n2_; clear n0_ n1_ n2_ hb hbox hg) | ((with_reducible refine gate_dst (N := 10) rfl ?_); refine box_event ?hg (N := 10) ?hd (cs := #[.int .i64 0, .int .i64 0, .int .i64 0, .int .i64 0]) (t := 96) ?hr ?_; (case hd => rfl); (case hg => rfl); (case hr => first | (go_simp; done) | (go_simp; rfl)); intro gb9 hg w9 hbox hb; have nb_ := A0_ (blk_below BK8.out hb); clear BK8; have BK8 := nb_; clear nb_; have n0_ := A0_ (below_step (qm_ HB.out) hb); have n1_ := A0_ hbox; have n2_ := A0_ ((by rw [hg]; exact (below_size (qm_ HB.out))) : w.heap.size ≤ gb9); clear HB; have HB := n0_; have BK9 := n1_; have GE9 := n2_; clear n0_ n1_ n2_ hb hbox hg; have hn89 : gb8 ≠ gb9 := blk_ne BK8.out BK9.out (by decide); have hn98 := Ne.symm hn89; have hcz8_0 : w9.cell? ⟨gb8, 0, none⟩ = some (.slice none 0 0) := (blk_cell BK8.out 0).trans rfl; have hfz8_0 := blk_frozen BK8.out 0; have hcz8_1 : w9.cell? ⟨gb8, 1, none⟩ = some (.int .u8 0) := (blk_cell BK8.out 1).trans rfl; have hfz8_1 := blk_frozen BK8.out 1; have hcz8_2 : w9.cell? ⟨gb8, 2, none⟩ = some (.nilFunc) := (blk_cell BK8.out 2).trans rfl; have hfz8_2 := blk_frozen BK8.out 2;have hcz9_0 : w9.cell? ⟨gb9, 0, none⟩ = some (.int .i64 0) := (blk_cell BK9.out 0).trans rfl; have hfz9_0 := blk_frozen BK9.out 0; have hcz9_1 : w9.cell? ⟨gb9, 1, none⟩ = some (.int .i64 0) := (blk_cell BK9.out 1).trans rfl; have hfz9_1 := blk_frozen BK9.out 1; have hcz9_2 : w9.cell? ⟨gb9, 2, none⟩ = some (.int .i64 0) := (blk_cell BK9.out 2).trans rfl; have hfz9_2 := blk_frozen BK9.out 2; have hcz9_3 : w9.cell? ⟨gb9, 3, none⟩ = some (.int .i64 0) := (blk_cell BK9.out 3).trans rfl; have hfz9_3 := blk_frozen BK9.out 3;) | (go_at_call 92; (with_reducible refine (cuts_table_3.calls s o m d _ _ _ rfl).mono ?_); rintro e wq ⟨rfl, hb⟩; have n1_ := A0_ (below_step (below_set (below_set (below_set (below_set (below_set (below_set (below_set HB.out GE8.out) GE8.out) GE8.out) GE9.out) GE9.out) GE9.out) GE9.out) hb); clear HB; have HB := n1_; clear n1_ hb))
   refine bodyPost_ret (v := .tuple #[.int .i64 (0), .int .i64 (d), .int .i64 0]) ?_ rfl ⟨by rw [← h1, ← h2, hn]; rfl, HB.out⟩
   simp [results, Try.results35, go_sem]
  ·rw [hn]
   go_wp2_with (first | ((with_reducible refine gate_dst (N := 9) rfl ?_); refine box_event ?hg (N := 9) ?hd (cs := #[.slice none 0 0, .int .u8 0, .nilFunc]) (t := 94) ?hr ?_; (case hd => rfl); (case hg => rfl); (case hr => first | (go_simp; done) | (go_simp; rfl)); intro gb8 hg w8 hbox hb;  have n0_ := A0_ (below_step (qm_ HB.out) hb); have n1_ := A0_ hbox; have n2_ := A0_ ((by rw [hg]; exact (below_size (qm_ HB.out))) : w.heap.size ≤ gb8); clear HB; have HB := n0_; have BK8 := n1_; have GE8 := n2_; clear n0_ n1_ n2_ hb hbox hg) | ((with_reducible refine gate_dst (N := 10) rfl ?_); refine box_event ?hg (N := 10) ?hd (cs := #[.int .i64 0, .int .i64 0, .int .i64 0, .int .i64 0]) (t := 96) ?hr ?_; (case hd => rfl); (case hg => rfl); (case hr => first | (go_simp; done) | (go_simp; rfl)); intro gb9 hg w9 hbox hb; have nb_ := A0_ (blk_below BK8.out hb); clear BK8; have BK8 := nb_; clear nb_; have n0_ := A0_ (below_step (qm_ HB.out) hb); have n1_ := A0_ hbox; have n2_ := A0_ ((by rw [hg]; exact (below_size (qm_ HB.out))) : w.heap.size ≤ gb9); clear HB; have HB := n0_; have BK9 := n1_; have GE9 := n2_; clear n0_ n1_ n2_ hb hbox hg; have hn89 : gb8 ≠ gb9 := blk_ne BK8.out BK9.out (by decide); have hn98 := Ne.symm hn89; have hcz8_0 : w9.cell? ⟨gb8, 0, none⟩ = some (.slice none 0 0) := (blk_cell BK8.out 0).trans rfl; have hfz8_0 := blk_frozen BK8.out 0; have hcz8_1 : w9.cell? ⟨gb8, 1, none⟩ = some (.int .u8 0) := (blk_cell BK8.out 1).trans rfl; have hfz8_1 := blk_frozen BK8.out 1; have hcz8_2 : w9.cell? ⟨gb8, 2, none⟩ = some (.nilFunc) := (blk_cell BK8.out 2).trans rfl; have hfz8_2 := blk_frozen BK8.out 2;have hcz9_0 : w9.cell? ⟨gb9, 0, none⟩ = some (.int .i64 0) := (blk_cell BK9.out 0).trans rfl; have hfz9_0 := blk_frozen BK9.out 0; have hcz9_1 : w9.cell? ⟨gb9, 1, none⟩ = some (.int .i64 0) := (blk_cell BK9.out 1).trans rfl; have hfz9_1 := blk_frozen BK9.out 1; have hcz9_2 : w9.cell? ⟨gb9, 2, none⟩ = some (.int .i64 0) := (blk_cell BK9.out 2).trans rfl; have hfz9_2 := blk_frozen BK9.out 2; have hcz9_3 : w9.cell? ⟨gb9, 3, none⟩ = some (.int .i64 0) := (blk_cell BK9.out 3).trans rfl; have hfz9_3 := blk_frozen BK9.out 3;) | (go_at_call 93; (with_reducible refine (cuts_table_4.calls s o m d _ _ _ rfl).mono ?_); rintro e wq ⟨rfl, hb⟩; have n1_ := A0_ (below_step (below_set (below_set (below_set (below_set (below_set (below_set (below_set HB.out GE8.out) GE8.out) GE8.out) GE9.out) GE9.out) GE9.out) GE9.out) hb); clear HB; have HB := n1_; clear n1_ hb))
   refine bodyPost_ret (v := .tuple #[.int .i64 (wrap64 (-m)), .int .i64 (d), .int .i64 0]) ?_ rfl ⟨by rw [← h1, ← h2, hn]; rfl, HB.out⟩
   simp [results, Try.results35, go_sem]
  ·rw [hn]
   go_wp2_with (first | ((with_reducible refine gate_dst (N := 9) rfl ?_); refine box_event ?hg (N := 9) ?hd (cs := #[.slice none 0 0, .int .u8 0, .nilFunc]) (t := 94) ?hr ?_; (case hd => rfl); (case hg => rfl); (case hr => first | (go_simp; done) | (go_simp; rfl)); intro gb8 hg w8 hbox hb;  have n0_ := A0_ (below_step (qm_ HB.out) hb); have n1_ := A0_ hbox; have n2_ := A0_ ((by rw [hg]; exact (below_size (qm_ HB.out))) : w.heap.size ≤ gb8); clear HB; have HB := n0_; have BK8 := n1_; have GE8 := n2_; clear n0_ n1_ n2_ hb hbox hg) | ((with_reducible refine gate_dst (N := 10) rfl ?_); refine box_event ?hg (N := 10) ?hd (cs := #[.int .i64 0, .int .i64 0, .int .i64 0, .int .i64 0]) (t := 96) ?hr ?_; (case hd => rfl); (case hg => rfl); (case hr => first | (go_simp; done) | (go_simp; rfl)); intro gb9 hg w9 hbox hb; have nb_ := A0_ (blk_below BK8.out hb); clear BK8; have BK8 := nb_; clear nb_; have n0_ := A0_ (below_step (qm_ HB.out) hb); have n1_ := A0_ hbox; have n2_ := A0_ ((by rw [hg]; exact (below_size (qm_ HB.out))) : w.heap.size ≤ gb9); clear HB; have HB := n0_; have BK9 := n1_; have GE9 := n2_; clear n0_ n1_ n2_ hb hbox hg; have hn89 : gb8 ≠ gb9 := blk_ne BK8.out BK9.out (by decide); have hn98 := Ne.symm hn89; have hcz8_0 : w9.cell? ⟨gb8, 0, none⟩ = some (.slice none 0 0) := (blk_cell BK8.out 0).trans rfl; have hfz8_0 := blk_frozen BK8.out 0; have hcz8_1 : w9.cell? ⟨gb8, 1, none⟩ = some (.int .u8 0) := (blk_cell BK8.out 1).trans rfl; have hfz8_1 := blk_frozen BK8.out 1; have hcz8_2 : w9.cell? ⟨gb8, 2, none⟩ = some (.nilFunc) := (blk_cell BK8.out 2).trans rfl; have hfz8_2 := blk_frozen BK8.out 2;have hcz9_0 : w9.cell? ⟨gb9, 0, none⟩ = some (.int .i64 0) := (blk_cell BK9.out 0).trans rfl; have hfz9_0 := blk_frozen BK9.out 0; have hcz9_1 : w9.cell? ⟨gb9, 1, none⟩ = some (.int .i64 0) := (blk_cell BK9.out 1).trans rfl; have hfz9_1 := blk_frozen BK9.out 1; have hcz9_2 : w9.cell? ⟨gb9, 2, none⟩ = some (.int .i64 0) := (blk_cell BK9.out 2).trans rfl; have hfz9_2 := blk_frozen BK9.out 2; have hcz9_3 : w9.cell? ⟨gb9, 3, none⟩ = some (.int .i64 0) := (blk_cell BK9.out 3).trans rfl; have hfz9_3 := blk_frozen BK9.out 3;) | (go_at_call 95; (with_reducible refine (cuts_table_5.calls s o m d _ _ _ rfl).mono ?_); rintro e wq ⟨rfl, hb⟩; have n1_ := A0_ (below_step (below_set (below_set (below_set (below_set (below_set (below_set (below_set HB.out GE8.out) GE8.out) GE8.out) GE9.out) GE9.out) GE9.out) GE9.out) hb); clear HB; have HB := n1_; clear n1_ hb))
   refine bodyPost_ret (v := .tuple #[.int .i64 (mx 0 (wrap64 (-s))), .int .i64 (wrap64 (-d)), .int .i64 0]) ?_ rfl ⟨by rw [← h1, ← h2, hn]; rfl, HB.out⟩
   simp [results, Try.results35, go_sem]
  ·rw [hn]
   go_wp2_with (first | ((with_reducible refine gate_dst (N := 9) rfl ?_); refine box_event ?hg (N := 9) ?hd (cs := #[.slice none 0 0, .int .u8 0, .nilFunc]) (t := 94) ?hr ?_; (case hd => rfl); (case hg => rfl); (case hr => first | (go_simp; done) | (go_simp; rfl)); intro gb8 hg w8 hbox hb;  have n0_ := A0_ (below_step (qm_ HB.out) hb); have n1_ := A0_ hbox; have n2_ := A0_ ((by rw [hg]; exact (below_size (qm_ HB.out))) : w.heap.size ≤ gb8); clear HB; have HB := n0_; have BK8 := n1_; have GE8 := n2_; clear n0_ n1_ n2_ hb hbox hg) | ((with_reducible refine gate_dst (N := 10) rfl ?_); refine box_event ?hg (N := 10) ?hd (cs := #[.int .i64 0, .int .i64 0, .int .i64 0, .int .i64 0]) (t := 96) ?hr ?_; (case hd => rfl); (case hg => rfl); (case hr => first | (go_simp; done) | (go_simp; rfl)); intro gb9 hg w9 hbox hb; have nb_ := A0_ (blk_below BK8.out hb); clear BK8; have BK8 := nb_; clear nb_; have n0_ := A0_ (below_step (qm_ HB.out) hb); have n1_ := A0_ hbox; have n2_ := A0_ ((by rw [hg]; exact (below_size (qm_ HB.out))) : w.heap.size ≤ gb9); clear HB; have HB := n0_; have BK9 := n1_; have GE9 := n2_; clear n0_ n1_ n2_ hb hbox hg; have hn89 : gb8 ≠ gb9 := blk_ne BK8.out BK9.out (by decide); have hn98 := Ne.symm hn89; have hcz8_0 : w9.cell? ⟨gb8, 0, none⟩ = some (.slice none 0 0) := (blk_cell BK8.out 0).trans rfl; have hfz8_0 := blk_frozen BK8.out 0; have hcz8_1 : w9.cell? ⟨gb8, 1, none⟩ = some (.int .u8 0) := (blk_cell BK8.out 1).trans rfl; have hfz8_1 := blk_frozen BK8.out 1; have hcz8_2 : w9.cell? ⟨gb8, 2, none⟩ = some (.nilFunc) := (blk_cell BK8.out 2).trans rfl; have hfz8_2 := blk_frozen BK8.out 2;have hcz9_0 : w9.cell? ⟨gb9, 0, none⟩ = some (.int .i64 0) := (blk_cell BK9.out 0).trans rfl; have hfz9_0 := blk_frozen BK9.out 0; have hcz9_1 : w9.cell? ⟨gb9, 1, none⟩ = some (.int .i64 0) := (blk_cell BK9.out 1).trans rfl; have hfz9_1 := blk_frozen BK9.out 1; have hcz9_2 : w9.cell? ⟨gb9, 2, none⟩ = some (.int .i64 0) := (blk_cell BK9.out 2).trans rfl; have hfz9_2 := blk_frozen BK9.out 2; have hcz9_3 : w9.cell? ⟨gb9, 3, none⟩ = some (.int .i64 0) := (blk_cell BK9.out 3).trans rfl; have hfz9_3 := blk_frozen BK9.out 3;) | (go_at_call 96; (with_reducible refine (cuts_table_6.calls s o m d _ _ _ rfl).mono ?_); rintro e wq ⟨rfl, hb⟩; have n1_ := A0_ (below_step (below_set (below_set (below_set (below_set (below_set (below_set (below_set HB.out GE8.out) GE8.out) GE8.out) GE9.out) GE9.out) GE9.out) GE9.out) hb); clear HB; have HB := n1_; clear n1_ hb))
   refine bodyPost_ret (v := .tuple #[.int .i64 (mx 0 (wrap64 (-m))), .int .i64 (d), .int .i64 0]) ?_ rfl ⟨by rw [← h1, ← h2, hn]; rfl, HB.out⟩
   simp [results, Try.results35, go_sem]
def cutplaneref20_Is.f (a0 : Int) : Option (Bool) := if a0 ≥ 1 then (some (decide (a0 ≤ 15))) else (some false)
set_option maxHeartbeats 2000000 in
set_option maxRecDepth 100000 in
theorem cutplaneref20_Is.calls (a0 : Int) (r : Bool) (w : World) (h : cutplaneref20_Is.f a0 = some r) :
  Calls Try.prog 36 #[.int .u8 a0] w fun e w' => e = .returned (.bool r) ∧ Drawn0 w w' := by
 have H : (if a0 ≥ 1 then (some (decide (a0 ≤ 15))) else (some false)) = some r := h
 clear h
 by_cases c2 : a0 ≥ 1
 ·rw [if_pos c2] at H
  have c2b0 : decide (1 ≤ a0) = true := decide_eq_true c2
  clear c2
  obtain rfl := Option.some.inj H
  go_enter Try.func36, Try.ntmps36
  go_wp2
  go_ret
  exact ⟨by first | rfl | (simp; done) | (simp [*]; done), by repeat (first | exact Drawn0.refl _ | apply Drawn0.step)⟩
 ·rw [if_neg c2] at H
  have c2b0 : decide (1 ≤ a0) = false := decide_eq_false c2
  clear c2
  obtain rfl := Option.some.inj H
  go_enter Try.func36, Try.ntmps36
  go_wp2
  go_ret
  exact ⟨by first | rfl | (simp; done) | (simp [*]; done), by repeat (first | exact Drawn0.refl _ | apply Drawn0.step)⟩
end Go.Proofs.Ytgaabjjenlbmhaa.PA
end

section
namespace Go.Proofs.Ytgaabjjenlbmhaa.PA
open Go.RowKit Go.Proofs.YtgaabjjenlbmhaaW.PrintWords Go.Proofs.YtgaabjjenlbmhaaW.PrintLast Go.Proofs.YtgaabjjenlbmhaaW.PrintMore
attribute [local go_sem] max2_int min2_int max_two min_two max_three min_three max_four min_four   -- for this text's walks alone
set_option linter.unusedVariables false
set_option linter.unusedSimpArgs false
def cutplanelaw20_known.f (k : Nat)  : Option (Bool) := (cuts_On.f k 1 1 3212836864 2147483648).bind fun bt745 => ((cuts_Side.f k 1 1 3212836864 2147483648).bind fun bt747 => ((cuts_Signs.f k 1 11 1073741824 0).bind fun bt749 => (if bt745.1 = true then (if bt745.2 = 0 then (if bt747.1 = (-1) then (if bt747.2 = 0 then (if bt749.1 = 0 then (if bt749.2.1 = (-1) then (some (bt749.2.2 == 0)) else (some false)) else (some false)) else (some false)) else (some false)) else (some false)) else (some false))))
set_option maxHeartbeats 2000000 in
set_option maxRecDepth 100000 in
theorem cutplanelaw20_known.calls (k : Nat)  (r : Bool) (w : World) (h : cutplanelaw20_known.f k  = some r) :
  Calls Try.prog 37 #[] w fun e w' => e = .returned (.bool r) ∧ Below w.heap.size w w' := by
 have hu25 := Try.underlying25
 have HB := A0_ (Below.refl w.heap.size w)
 have H : ((cuts_On.f k 1 1 3212836864 2147483648).bind fun bt745 => ((cuts_Side.f k 1 1 3212836864 2147483648).bind fun bt747 => ((cuts_Signs.f k 1 11 1073741824 0).bind fun bt749 => (if bt745.1 = true then (if bt745.2 = 0 then (if bt747.1 = (-1) then (if bt747.2 = 0 then (if bt749.1 = 0 then (if bt749.2.1 = (-1) then (some (bt749.2.2 == 0)) else (some false)) else (some false)) else (some false)) else (some false)) else (some false)) else (some false))))) = some r := h
 clear h
 replace H := Option.bind_eq_some_iff.mp H
 obtain ⟨⟨t745, t746⟩, A10, H⟩ := H
 replace H : ((cuts_Side.f k 1 1 3212836864 2147483648).bind fun bt747 => ((cuts_Signs.f k 1 11 1073741824 0).bind fun bt749 => (if t745 = true then (if t746 = 0 then (if bt747.1 = (-1) then (if bt747.2 = 0 then (if bt749.1 = 0 then (if bt749.2.1 = (-1) then (some (bt749.2.2 == 0)) else (some false)) else (some false)) else (some false)) else (some false)) else (some false)) else (some false)))) = some r := H
 have A1 := A0_ A10
 clear A10
 replace H := Option.bind_eq_some_iff.mp H
 obtain ⟨⟨t747, t748⟩, A20, H⟩ := H
 replace H : ((cuts_Signs.f k 1 11 1073741824 0).bind fun bt749 => (if t745 = true then (if t746 = 0 then (if t747 = (-1) then (if t748 = 0 then (if bt749.1 = 0 then (if bt749.2.1 = (-1) then (some (bt749.2.2 == 0)) else (some false)) else (some false)) else (some false)) else (some false)) else (some false)) else (some false))) = some r := H
 have A2 := A0_ A20
 clear A20
 replace H := Option.bind_eq_some_iff.mp H
 obtain ⟨⟨t749, t750, t751⟩, A30, H⟩ := H
 replace H : (if t745 = true then (if t746 = 0 then (if t747 = (-1) then (if t748 = 0 then (if t749 = 0 then (if t750 = (-1) then (some (t751 == 0)) else (some false)) else (some false)) else (some false)) else (some false)) else (some false)) else (some false)) = some r := H
 have A3 := A0_ A30
 clear A30
 by_cases c4 : t745 = true
 ·subst c4
  have H1 : (if t746 = 0 then (if t747 = (-1) then (if t748 = 0 then (if t749 = 0 then (if t750 = (-1) then (some (t751 == 0)) else (some false)) else (some false)) else (some false)) else (some false)) else (some false)) = some r := by rw [if_pos rfl] at H; exact H
  clear H
  have H := H1
  clear H1
  by_cases c5 : t746 = 0
  ·rw [if_pos c5] at H
   have c5b0 : (t746 == 0) = true := beq_iff_eq.mpr c5
   have c5b1 : (t746 != 0) = false := bne_eq_false_iff_eq.mpr c5
   clear c5
   by_cases c6 : t747 = (-1)
   ·rw [if_pos c6] at H
    have c6b0 : (t747 == (-1)) = true := beq_iff_eq.mpr c6
    have c6b1 : (t747 != (-1)) = false := bne_eq_false_iff_eq.mpr c6
    clear c6
    by_cases c7 : t748 = 0
    ·rw [if_pos c7] at H
     have c7b0 : (t748 == 0) = true := beq_iff_eq.mpr c7
     have c7b1 : (t748 != 0) = false := bne_eq_false_iff_eq.mpr c7
     clear c7
     by_cases c8 : t749 = 0
     ·rw [if_pos c8] at H
      have c8b0 : (t749 == 0) = true := beq_iff_eq.mpr c8
      have c8b1 : (t749 != 0) = false := bne_eq_false_iff_eq.mpr c8
      clear c8
      by_cases c9 : t750 = (-1)
      ·rw [if_pos c9] at H
       have c9b0 : (t750 == (-1)) = true := beq_iff_eq.mpr c9
       have c9b1 : (t750 != (-1)) = false := bne_eq_false_iff_eq.mpr c9
       clear c9
       obtain rfl := Option.some.inj H
       go_enter Try.func37, Try.ntmps37
       go_wp2_with (first | ((with_reducible refine gate_dst (N := 1) rfl ?_); refine box_event ?hg (N := 1) ?hd (cs := #[.int .u64 0, .int .u64 0]) (t := 25) ?hr ?_; (case hd => rfl); (case hg => rfl); (case hr => first | (go_simp; done) | (go_simp; rfl)); intro gb744 hg w10 hbox hb; have n0_ := A0_ (below_step (qm_ HB.out) hb); have n1_ := A0_ (hbox); have n2_ := A0_ ((by rw [hg]; exact (below_size (qm_ HB.out)) : w.heap.size ≤ gb744)); have n3_ := A0_ ((by rw [hg]; exact (below_size (qm_ HB.out)) : w.heap.size ≤ gb744)); clear HB; have HB := n0_; have BK744 := n1_; have GW744 := n2_; have GE744 := n3_; clear n0_ n1_ n2_ n3_ hb hbox hg; have hcz11 := bc2_ BK744.out; have hfz11 := bf2_ BK744.out) | ((with_reducible refine gate_callee (f := 33) rfl ?_); refine goesL_ (some 12) rfl rfl Try.func33 (by kernel_rfl) rfl #[.int .u8 1, .int .u8 1, .agg #[.int .u64 3212836864, .int .u64 2147483648]] rfl (by (try simp only [List.map_toArray, List.map_cons, List.map_nil]); first | done | rfl | (simp only [List.length_drop, List.length_take]; rfl)) ?_; (with_reducible refine (cuts_On.calls k 1 1 3212836864 2147483648 true t746 _ A1.out).mono ?_); rintro e w12 ⟨rfl, hb⟩; refine ⟨_, rfl, ?_⟩; have n0_ := A0_ (blk_below (g := gb744) (o := .cells #[.int .u64 3212836864, .int .u64 2147483648] 25 (0, 0)) (by (with_reducible repeat first | apply bN_ | apply bD_ | apply bA_); refine blk_put (cs := #[.int .u64 3212836864, .int .u64 0]) ?_ 1 _ rfl; (with_reducible repeat first | apply bN_ | apply bD_ | apply bA_); refine blk_put (cs := #[.int .u64 0, .int .u64 0]) ?_ 0 _ rfl; (with_reducible repeat first | apply bN_ | apply bD_ | apply bA_); exact BK744.out) hb); have n1_ := A0_ (below_step (by repeat (first | (with_reducible first | exact qm_ HB.out | apply qA_ | apply qN_ | apply qD_ | refine below_set ?_ GE744.out) | exact HB.out)) hb); clear BK744 HB; have BK744 := n0_; have HB := n1_; clear n0_ n1_; (try clear hb); have hcz13 := bc2_ BK744.out; have hfz13 := bf2_ BK744.out) | ((with_reducible refine gate_callee (f := 34) rfl ?_); refine goesL_ (some 17) rfl rfl Try.func34 (by kernel_rfl) rfl #[.int .u8 1, .int .u8 1, .agg #[.int .u64 3212836864, .int .u64 2147483648]] rfl (by (try simp only [List.map_toArray, List.map_cons, List.map_nil]); first | done | rfl | (simp only [List.length_drop, List.length_take]; rfl)) ?_; (with_reducible refine (cuts_Side.calls k 1 1 3212836864 2147483648 t747 t748 _ A2.out).mono ?_); rintro e w14 ⟨rfl, hb⟩; refine ⟨_, rfl, ?_⟩; have n0_ := A0_ (blk_below (bm_ BK744.out) hb); have n1_ := A0_ (below_step (by repeat (first | (with_reducible first | exact qm_ HB.out | apply qA_ | apply qN_ | apply qD_ | refine below_set ?_ GE744.out) | exact HB.out)) hb); clear BK744 HB; have BK744 := n0_; have HB := n1_; clear n0_ n1_; (try clear hb)) | ((with_reducible refine gate_callee (f := 35) rfl ?_); refine goesL_ (some 22) rfl rfl Try.func35 (by kernel_rfl) rfl #[.int .u8 1, .int .u8 11, .agg #[.int .u64 1073741824, .int .u64 0]] rfl (by (try simp only [List.map_toArray, List.map_cons, List.map_nil]); first | done | rfl | (simp only [List.length_drop, List.length_take]; rfl)) ?_; (with_reducible refine (cuts_Signs.calls k 1 11 1073741824 0 t749 t750 t751 _ A3.out).mono ?_); rintro e w15 ⟨rfl, hb⟩; refine ⟨_, rfl, ?_⟩; have n0_ := A0_ (blk_below (bm_ BK744.out) hb); have n1_ := A0_ (below_step (by repeat (first | (with_reducible first | exact qm_ HB.out | apply qA_ | apply qN_ | apply qD_ | refine below_set ?_ GE744.out) | exact HB.out)) hb); clear BK744 HB; have BK744 := n0_; have HB := n1_; clear n0_ n1_; (try clear hb)))
       go_ret
       exact ⟨by first | rfl | (simp [errW_none, errW_some] <;> rfl) | (simp [*, errW_none, errW_some] <;> rfl), by repeat (first | (with_reducible first | exact qm_ HB.out | apply qA_ | apply qN_ | apply qD_ | refine below_set ?_ GE744.out) | exact HB.out)⟩
      ·rw [if_neg c9] at H
       have c9b0 : (t750 == (-1)) = false := beq_eq_false_iff_ne.mpr c9
       have c9b1 : (t750 != (-1)) = true := bne_iff_ne.mpr c9
       obtain rfl := Option.some.inj H
       go_enter Try.func37, Try.ntmps37
       go_wp2_with (first | ((with_reducible refine gate_dst (N := 1) rfl ?_); refine box_event ?hg (N := 1) ?hd (cs := #[.int .u64 0, .int .u64 0]) (t := 25) ?hr ?_; (case hd => rfl); (case hg => rfl); (case hr => first | (go_simp; done) | (go_simp; rfl)); intro gb744 hg w16 hbox hb; have n0_ := A0_ (below_step (qm_ HB.out) hb); have n1_ := A0_ (hbox); have n2_ := A0_ ((by rw [hg]; exact (below_size (qm_ HB.out)) : w.heap.size ≤ gb744)); have n3_ := A0_ ((by rw [hg]; exact (below_size (qm_ HB.out)) : w.heap.size ≤ gb744)); clear HB; have HB := n0_; have BK744 := n1_; have GW744 := n2_; have GE744 := n3_; clear n0_ n1_ n2_ n3_ hb hbox hg; have hcz17 := bc2_ BK744.out; have hfz17 := bf2_ BK744.out) | ((with_reducible refine gate_callee (f := 33) rfl ?_); refine goesL_ (some 12) rfl rfl Try.func33 (by kernel_rfl) rfl #[.int .u8 1, .int .u8 1, .agg #[.int .u64 3212836864, .int .u64 2147483648]] rfl (by (try simp only [List.map_toArray, List.map_cons, List.map_nil]); first | done | rfl | (simp only [List.length_drop, List.length_take]; rfl)) ?_; (with_reducible refine (cuts_On.calls k 1 1 3212836864 2147483648 true t746 _ A1.out).mono ?_); rintro e w18 ⟨rfl, hb⟩; refine ⟨_, rfl, ?_⟩; have n0_ := A0_ (blk_below (g := gb744) (o := .cells #[.int .u64 3212836864, .int .u64 2147483648] 25 (0, 0)) (by (with_reducible repeat first | apply bN_ | apply bD_ | apply bA_); refine blk_put (cs := #[.int .u64 3212836864, .int .u64 0]) ?_ 1 _ rfl; (with_reducible repeat first | apply bN_ | apply bD_ | apply bA_); refine blk_put (cs := #[.int .u64 0, .int .u64 0]) ?_ 0 _ rfl; (with_reducible repeat first | apply bN_ | apply bD_ | apply bA_); exact BK744.out) hb); have n1_ := A0_ (below_step (by repeat (first | (with_reducible first | exact qm_ HB.out | apply qA_ | apply qN_ | apply qD_ | refine below_set ?_ GE744.out) | exact HB.out)) hb); clear BK744 HB; have BK744 := n0_; have HB := n1_; clear n0_ n1_; (try clear hb); have hcz19 := bc2_ BK744.out; have hfz19 := bf2_ BK744.out) | ((with_reducible refine gate_callee (f := 34) rfl ?_); refine goesL_ (some 17) rfl rfl Try.func34 (by kernel_rfl) rfl #[.int .u8 1, .int .u8 1, .agg #[.int .u64 3212836864, .int .u64 2147483648]] rfl (by (try simp only [List.map_toArray, List.map_cons, List.map_nil]); first | done | rfl | (simp only [List.length_drop, List.length_take]; rfl)) ?_; (with_reducible refine (cuts_Side.calls k 1 1 3212836864 2147483648 t747 t748 _ A2.out).mono ?_); rintro e w20 ⟨rfl, hb⟩; refine ⟨_, rfl, ?_⟩; have n0_ := A0_ (blk_below (bm_ BK744.out) hb); have n1_ := A0_ (below_step (by repeat (first | (with_reducible first | exact qm_ HB.out | apply qA_ | apply qN_ | apply qD_ | refine below_set ?_ GE744.out) | exact HB.out)) hb); clear BK744 HB; have BK744 := n0_; have HB := n1_; clear n0_ n1_; (try clear hb)) | ((with_reducible refine gate_callee (f := 35) rfl ?_); refine goesL_ (some 22) rfl rfl Try.func35 (by kernel_rfl) rfl #[.int .u8 1, .int .u8 11, .agg #[.int .u64 1073741824, .int .u64 0]] rfl (by (try simp only [List.map_toArray, List.map_cons, List.map_nil]); first | done | rfl | (simp only [List.length_drop, List.length_take]; rfl)) ?_; (with_reducible refine (cuts_Signs.calls k 1 11 1073741824 0 t749 t750 t751 _ A3.out).mono ?_); rintro e w21 ⟨rfl, hb⟩; refine ⟨_, rfl, ?_⟩; have n0_ := A0_ (blk_below (bm_ BK744.out) hb); have n1_ := A0_ (below_step (by repeat (first | (with_reducible first | exact qm_ HB.out | apply qA_ | apply qN_ | apply qD_ | refine below_set ?_ GE744.out) | exact HB.out)) hb); clear BK744 HB; have BK744 := n0_; have HB := n1_; clear n0_ n1_; (try clear hb)))
       go_ret
       exact ⟨by first | rfl | (simp [errW_none, errW_some] <;> rfl) | (simp [*, errW_none, errW_some] <;> rfl), by repeat (first | (with_reducible first | exact qm_ HB.out | apply qA_ | apply qN_ | apply qD_ | refine below_set ?_ GE744.out) | exact HB.out)⟩
     ·rw [if_neg c8] at H
      have c8b0 : (t749 == 0) = false := beq_eq_false_iff_ne.mpr c8
      have c8b1 : (t749 != 0) = true := bne_iff_ne.mpr c8
      obtain rfl := Option.some.inj H
      go_enter Try.func37, Try.ntmps37
      go_wp2_with (first | ((with_reducible refine gate_dst (N := 1) rfl ?_); refine box_event ?hg (N := 1) ?hd (cs := #[.int .u64 0, .int .u64 0]) (t := 25) ?hr ?_; (case hd => rfl); (case hg => rfl); (case hr => first | (go_simp; done) | (go_simp; rfl)); intro gb744 hg w22 hbox hb; have n0_ := A0_ (below_step (qm_ HB.out) hb); have n1_ := A0_ (hbox); have n2_ := A0_ ((by rw [hg]; exact (below_size (qm_ HB.out)) : w.heap.size ≤ gb744)); have n3_ := A0_ ((by rw [hg]; exact (below_size (qm_ HB.out)) : w.heap.size ≤ gb744)); clear HB; have HB := n0_; have BK744 := n1_; have GW744 := n2_; have GE744 := n3_; clear n0_ n1_ n2_ n3_ hb hbox hg; have hcz23 := bc2_ BK744.out; have hfz23 := bf2_ BK744.out) | ((with_reducible refine gate_callee (f := 33) rfl ?_); refine goesL_ (some 12) rfl rfl Try.func33 (by kernel_rfl) rfl #[.int .u8 1, .int .u8 1, .agg #[.int .u64 3212836864, .int .u64 2147483648]] rfl (by (try simp only [List.map_toArray, List.map_cons, List.map_nil]); first | done | rfl | (simp only [List.length_drop, List.length_take]; rfl)) ?_; (with_reducible refine (cuts_On.calls k 1 1 3212836864 2147483648 true t746 _ A1.out).mono ?_); rintro e w24 ⟨rfl, hb⟩; refine ⟨_, rfl, ?_⟩; have n0_ := A0_ (blk_below (g := gb744) (o := .cells #[.int .u64 3212836864, .int .u64 2147483648] 25 (0, 0)) (by (with_reducible repeat first | apply bN_ | apply bD_ | apply bA_); refine blk_put (cs := #[.int .u64 3212836864, .int .u64 0]) ?_ 1 _ rfl; (with_reducible repeat first | apply bN_ | apply bD_ | apply bA_); refine blk_put (cs := #[.int .u64 0, .int .u64 0]) ?_ 0 _ rfl; (with_reducible repeat first | apply bN_ | apply bD_ | apply bA_); exact BK744.out) hb); have n1_ := A0_ (below_step (by repeat (first | (with_reducible first | exact qm_ HB.out | apply qA_ | apply qN_ | apply qD_ | refine below_set ?_ GE744.out) | exact HB.out)) hb); clear BK744 HB; have BK744 := n0_; have HB := n1_; clear n0_ n1_; (try clear hb); have hcz25 := bc2_ BK744.out; have hfz25 := bf2_ BK744.out) | ((with_reducible refine gate_callee (f := 34) rfl ?_); refine goesL_ (some 17) rfl rfl Try.func34 (by kernel_rfl) rfl #[.int .u8 1, .int .u8 1, .agg #[.int .u64 3212836864, .int .u64 2147483648]] rfl (by (try simp only [List.map_toArray, List.map_cons, List.map_nil]); first | done | rfl | (simp only [List.length_drop, List.length_take]; rfl)) ?_; (with_reducible refine (cuts_Side.calls k 1 1 3212836864 2147483648 t747 t748 _ A2.out).mono ?_); rintro e w26 ⟨rfl, hb⟩; refine ⟨_, rfl, ?_⟩; have n0_ := A0_ (blk_below (bm_ BK744.out) hb); have n1_ := A0_ (below_step (by repeat (first | (with_reducible first | exact qm_ HB.out | apply qA_ | apply qN_ | apply qD_ | refine below_set ?_ GE744.out) | exact HB.out)) hb); clear BK744 HB; have BK744 := n0_; have HB := n1_; clear n0_ n1_; (try clear hb)) | ((with_reducible refine gate_callee (f := 35) rfl ?_); refine goesL_ (some 22) rfl rfl Try.func35 (by kernel_rfl) rfl #[.int .u8 1, .int .u8 11, .agg #[.int .u64 1073741824, .int .u64 0]] rfl (by (try simp only [List.map_toArray, List.map_cons, List.map_nil]); first | done | rfl | (simp only [List.length_drop, List.length_take]; rfl)) ?_; (with_reducible refine (cuts_Signs.calls k 1 11 1073741824 0 t749 t750 t751 _ A3.out).mono ?_); rintro e w27 ⟨rfl, hb⟩; refine ⟨_, rfl, ?_⟩; have n0_ := A0_ (blk_below (bm_ BK744.out) hb); have n1_ := A0_ (below_step (by repeat (first | (with_reducible first | exact qm_ HB.out | apply qA_ | apply qN_ | apply qD_ | refine below_set ?_ GE744.out) | exact HB.out)) hb); clear BK744 HB; have BK744 := n0_; have HB := n1_; clear n0_ n1_; (try clear hb)))
      go_ret
      exact ⟨by first | rfl | (simp [errW_none, errW_some] <;> rfl) | (simp [*, errW_none, errW_some] <;> rfl), by repeat (first | (with_reducible first | exact qm_ HB.out | apply qA_ | apply qN_ | apply qD_ | refine below_set ?_ GE744.out) | exact HB.out)⟩
    ·rw [if_neg c7] at H
     have c7b0 : (t748 == 0) = false := beq_eq_false_iff_ne.mpr c7
     have c7b1 : (t748 != 0) = true := bne_iff_ne.mpr c7
     obtain rfl := Option.some.inj H
     go_enter Try.func37, Try.ntmps37
     go_wp2_with (first | ((with_reducible refine gate_dst (N := 1) rfl ?_); refine box_event ?hg (N := 1) ?hd (cs := #[.int .u64 0, .int .u64 0]) (t := 25) ?hr ?_; (case hd => rfl); (case hg => rfl); (case hr => first | (go_simp; done) | (go_simp; rfl)); intro gb744 hg w28 hbox hb; have n0_ := A0_ (below_step (qm_ HB.out) hb); have n1_ := A0_ (hbox); have n2_ := A0_ ((by rw [hg]; exact (below_size (qm_ HB.out)) : w.heap.size ≤ gb744)); have n3_ := A0_ ((by rw [hg]; exact (below_size (qm_ HB.out)) : w.heap.size ≤ gb744)); clear HB; have HB := n0_; have BK744 := n1_; have GW744 := n2_; have GE744 := n3_; clear n0_ n1_ n2_ n3_ hb hbox hg; have hcz29 := bc2_ BK744.out; have hfz29 := bf2_ BK744.out) | ((with_reducible refine gate_callee (f := 33) rfl ?_); refine goesL_ (some 12) rfl rfl Try.func33 (by kernel_rfl) rfl #[.int .u8 1, .int .u8 1, .agg #[.int .u64 3212836864, .int .u64 2147483648]] rfl (by (try simp only [List.map_toArray, List.map_cons, List.map_nil]); first | done | rfl | (simp only [List.length_drop, List.length_take]; rfl)) ?_; (with_reducible refine (cuts_On.calls k 1 1 3212836864 2147483648 true t746 _ A1.out).mono ?_); rintro e w30 ⟨rfl, hb⟩; refine ⟨_, rfl, ?_⟩; have n0_ := A0_ (blk_below (g := gb744) (o := .cells #[.int .u64 3212836864, .int .u64 2147483648] 25 (0, 0)) (by (with_reducible repeat first | apply bN_ | apply bD_ | apply bA_); refine blk_put (cs := #[.int .u64 3212836864, .int .u64 0]) ?_ 1 _ rfl; (with_reducible repeat first | apply bN_ | apply bD_ | apply bA_); refine blk_put (cs := #[.int .u64 0, .int .u64 0]) ?_ 0 _ rfl; (with_reducible repeat first | apply bN_ | apply bD_ | apply bA_); exact BK744.out) hb); have n1_ := A0_ (below_step (by repeat (first | (with_reducible first | exact qm_ HB.out | apply qA_ | apply qN_ | apply qD_ | refine below_set ?_ GE744.out) | exact HB.out)) hb); clear BK744 HB; have BK744 := n0_; have HB := n1_; clear n0_ n1_; (try clear hb); have hcz31 := bc2_ BK744.out; have hfz31 := bf2_ BK744.out) | ((with_reducible refine gate_callee (f := 34) rfl ?_); refine goesL_ (some 17) rfl rfl Try.func34 (by kernel_rfl) rfl #[.int .u8 1, .int .u8 1, .agg #[.int .u64 3212836864, .int .u64 2147483648]] rfl (by (try simp only [List.map_toArray, List.map_cons, List.map_nil]); first | done | rfl | (simp only [List.length_drop, List.length_take]; rfl)) ?_; (with_reducible refine (cuts_Side.calls k 1 1 3212836864 2147483648 t747 t748 _ A2.out).mono ?_); rintro e w32 ⟨rfl, hb⟩; refine ⟨_, rfl, ?_⟩; have n0_ := A0_ (blk_below (bm_ BK744.out) hb); have n1_ := A0_ (below_step (by repeat (first | (with_reducible first | exact qm_ HB.out | apply qA_ | apply qN_ | apply qD_ | refine below_set ?_ GE744.out) | exact HB.out)) hb); clear BK744 HB; have BK744 := n0_; have HB := n1_; clear n0_ n1_; (try clear hb)) | ((with_reducible refine gate_callee (f := 35) rfl ?_); refine goesL_ (some 22) rfl rfl Try.func35 (by kernel_rfl) rfl #[.int .u8 1, .int .u8 11, .agg #[.int .u64 1073741824, .int .u64 0]] rfl (by (try simp only [List.map_toArray, List.map_cons, List.map_nil]); first | done | rfl | (simp only [List.length_drop, List.length_take]; rfl)) ?_; (with_reducible refine (cuts_Signs.calls k 1 11 1073741824 0 t749 t750 t751 _ A3.out).mono ?_); rintro e w33 ⟨rfl, hb⟩; refine ⟨_, rfl, ?_⟩; have n0_ := A0_ (blk_below (bm_ BK744.out) hb); have n1_ := A0_ (below_step (by repeat (first | (with_reducible first | exact qm_ HB.out | apply qA_ | apply qN_ | apply qD_ | refine below_set ?_ GE744.out) | exact HB.out)) hb); clear BK744 HB; have BK744 := n0_; have HB := n1_; clear n0_ n1_; (try clear hb)))
     go_ret
     exact ⟨by first | rfl | (simp [errW_none, errW_some] <;> rfl) | (simp [*, errW_none, errW_some] <;> rfl), by repeat (first | (with_reducible first | exact qm_ HB.out | apply qA_ | apply qN_ | apply qD_ | refine below_set ?_ GE744.out) | exact HB.out)⟩
   ·rw [if_neg c6] at H
    have c6b0 : (t747 == (-1)) = false := beq_eq_false_iff_ne.mpr c6
    have c6b1 : (t747 != (-1)) = true := bne_iff_ne.mpr c6
    obtain rfl := Option.some.inj H
    go_enter Try.func37, Try.ntmps37
    go_wp2_with (first | ((with_reducible refine gate_dst (N := 1) rfl ?_); refine box_event ?hg (N := 1) ?hd (cs := #[.int .u64 0, .int .u64 0]) (t := 25) ?hr ?_; (case hd => rfl); (case hg => rfl); (case hr => first | (go_simp; done) | (go_simp; rfl)); intro gb744 hg w34 hbox hb; have n0_ := A0_ (below_step (qm_ HB.out) hb); have n1_ := A0_ (hbox); have n2_ := A0_ ((by rw [hg]; exact (below_size (qm_ HB.out)) : w.heap.size ≤ gb744)); have n3_ := A0_ ((by rw [hg]; exact (below_size (qm_ HB.out)) : w.heap.size ≤ gb744)); clear HB; have HB := n0_; have BK744 := n1_; have GW744 := n2_; have GE744 := n3_; clear n0_ n1_ n2_ n3_ hb hbox hg; have hcz35 := bc2_ BK744.out; have hfz35 := bf2_ BK744.out) | ((with_reducible refine gate_callee (f := 33) rfl ?_); refine goesL_ (some 12) rfl rfl Try.func33 (by kernel_rfl) rfl #[.int .u8 1, .int .u8 1, .agg #[.int .u64 3212836864, .int .u64 2147483648]] rfl (by (try simp only [List.map_toArray, List.map_cons, List.map_nil]); first | done | rfl | (simp only [List.length_drop, List.length_take]; rfl)) ?_; (with_reducible refine (cuts_On.calls k 1 1 3212836864 2147483648 true t746 _ A1.out).mono ?_); rintro e w36 ⟨rfl, hb⟩; refine ⟨_, rfl, ?_⟩; have n0_ := A0_ (blk_below (g := gb744) (o := .cells #[.int .u64 3212836864, .int .u64 2147483648] 25 (0, 0)) (by (with_reducible repeat first | apply bN_ | apply bD_ | apply bA_); refine blk_put (cs := #[.int .u64 3212836864, .int .u64 0]) ?_ 1 _ rfl; (with_reducible repeat first | apply bN_ | apply bD_ | apply bA_); refine blk_put (cs := #[.int .u64 0, .int .u64 0]) ?_ 0 _ rfl; (with_reducible repeat first | apply bN_ | apply bD_ | apply bA_); exact BK744.out) hb); have n1_ := A0_ (below_step (by repeat (first | (with_reducible first | exact qm_ HB.out | apply qA_ | apply qN_ | apply qD_ | refine below_set ?_ GE744.out) | exact HB.out)) hb); clear BK744 HB; have BK744 := n0_; have HB := n1_; clear n0_ n1_; (try clear hb); have hcz37 := bc2_ BK744.out; have hfz37 := bf2_ BK744.out) | ((with_reducible refine gate_callee (f := 34) rfl ?_); refine goesL_ (some 17) rfl rfl Try.func34 (by kernel_rfl) rfl #[.int .u8 1, .int .u8 1, .agg #[.int .u64 3212836864, .int .u64 2147483648]] rfl (by (try simp only [List.map_toArray, List.map_cons, List.map_nil]); first | done | rfl | (simp only [List.length_drop, List.length_take]; rfl)) ?_; (with_reducible refine (cuts_Side.calls k 1 1 3212836864 2147483648 t747 t748 _ A2.out).mono ?_); rintro e w38 ⟨rfl, hb⟩; refine ⟨_, rfl, ?_⟩; have n0_ := A0_ (blk_below (bm_ BK744.out) hb); have n1_ := A0_ (below_step (by repeat (first | (with_reducible first | exact qm_ HB.out | apply qA_ | apply qN_ | apply qD_ | refine below_set ?_ GE744.out) | exact HB.out)) hb); clear BK744 HB; have BK744 := n0_; have HB := n1_; clear n0_ n1_; (try clear hb)) | ((with_reducible refine gate_callee (f := 35) rfl ?_); refine goesL_ (some 22) rfl rfl Try.func35 (by kernel_rfl) rfl #[.int .u8 1, .int .u8 11, .agg #[.int .u64 1073741824, .int .u64 0]] rfl (by (try simp only [List.map_toArray, List.map_cons, List.map_nil]); first | done | rfl | (simp only [List.length_drop, List.length_take]; rfl)) ?_; (with_reducible refine (cuts_Signs.calls k 1 11 1073741824 0 t749 t750 t751 _ A3.out).mono ?_); rintro e w39 ⟨rfl, hb⟩; refine ⟨_, rfl, ?_⟩; have n0_ := A0_ (blk_below (bm_ BK744.out) hb); have n1_ := A0_ (below_step (by repeat (first | (with_reducible first | exact qm_ HB.out | apply qA_ | apply qN_ | apply qD_ | refine below_set ?_ GE744.out) | exact HB.out)) hb); clear BK744 HB; have BK744 := n0_; have HB := n1_; clear n0_ n1_; (try clear hb)))
    go_ret
    exact ⟨by first | rfl | (simp [errW_none, errW_some] <;> rfl) | (simp [*, errW_none, errW_some] <;> rfl), by repeat (first | (with_reducible first | exact qm_ HB.out | apply qA_ | apply qN_ | apply qD_ | refine below_set ?_ GE744.out) | exact HB.out)⟩
  ·rw [if_neg c5] at H
   have c5b0 : (t746 == 0) = false := beq_eq_false_iff_ne.mpr c5
   have c5b1 : (t746 != 0) = true := bne_iff_ne.mpr c5
   obtain rfl := Option.some.inj H
   go_enter Try.func37, Try.ntmps37
   go_wp2_with (first | ((with_reducible refine gate_dst (N := 1) rfl ?_); refine box_event ?hg (N := 1) ?hd (cs := #[.int .u64 0, .int .u64 0]) (t := 25) ?hr ?_; (case hd => rfl); (case hg => rfl); (case hr => first | (go_simp; done) | (go_simp; rfl)); intro gb744 hg w40 hbox hb; have n0_ := A0_ (below_step (qm_ HB.out) hb); have n1_ := A0_ (hbox); have n2_ := A0_ ((by rw [hg]; exact (below_size (qm_ HB.out)) : w.heap.size ≤ gb744)); have n3_ := A0_ ((by rw [hg]; exact (below_size (qm_ HB.out)) : w.heap.size ≤ gb744)); clear HB; have HB := n0_; have BK744 := n1_; have GW744 := n2_; have GE744 := n3_; clear n0_ n1_ n2_ n3_ hb hbox hg; have hcz41 := bc2_ BK744.out; have hfz41 := bf2_ BK744.out) | ((with_reducible refine gate_callee (f := 33) rfl ?_); refine goesL_ (some 12) rfl rfl Try.func33 (by kernel_rfl) rfl #[.int .u8 1, .int .u8 1, .agg #[.int .u64 3212836864, .int .u64 2147483648]] rfl (by (try simp only [List.map_toArray, List.map_cons, List.map_nil]); first | done | rfl | (simp only [List.length_drop, List.length_take]; rfl)) ?_; (with_reducible refine (cuts_On.calls k 1 1 3212836864 2147483648 true t746 _ A1.out).mono ?_); rintro e w42 ⟨rfl, hb⟩; refine ⟨_, rfl, ?_⟩; have n0_ := A0_ (blk_below (g := gb744) (o := .cells #[.int .u64 3212836864, .int .u64 2147483648] 25 (0, 0)) (by (with_reducible repeat first | apply bN_ | apply bD_ | apply bA_); refine blk_put (cs := #[.int .u64 3212836864, .int .u64 0]) ?_ 1 _ rfl; (with_reducible repeat first | apply bN_ | apply bD_ | apply bA_); refine blk_put (cs := #[.int .u64 0, .int .u64 0]) ?_ 0 _ rfl; (with_reducible repeat first | apply bN_ | apply bD_ | apply bA_); exact BK744.out) hb); have n1_ := A0_ (below_step (by repeat (first | (with_reducible first | exact qm_ HB.out | apply qA_ | apply qN_ | apply qD_ | refine below_set ?_ GE744.out) | exact HB.out)) hb); clear BK744 HB; have BK744 := n0_; have HB := n1_; clear n0_ n1_; (try clear hb); have hcz43 := bc2_ BK744.out; have hfz43 := bf2_ BK744.out) | ((with_reducible refine gate_callee (f := 34) rfl ?_); refine goesL_ (some 17) rfl rfl Try.func34 (by kernel_rfl) rfl #[.int .u8 1, .int .u8 1, .agg #[.int .u64 3212836864, .int .u64 2147483648]] rfl (by (try simp only [List.map_toArray, List.map_cons, List.map_nil]); first | done | rfl | (simp only [List.length_drop, List.length_take]; rfl)) ?_; (with_reducible refine (cuts_Side.calls k 1 1 3212836864 2147483648 t747 t748 _ A2.out).mono ?_); rintro e w44 ⟨rfl, hb⟩; refine ⟨_, rfl, ?_⟩; have n0_ := A0_ (blk_below (bm_ BK744.out) hb); have n1_ := A0_ (below_step (by repeat (first | (with_reducible first | exact qm_ HB.out | apply qA_ | apply qN_ | apply qD_ | refine below_set ?_ GE744.out) | exact HB.out)) hb); clear BK744 HB; have BK744 := n0_; have HB := n1_; clear n0_ n1_; (try clear hb)) | ((with_reducible refine gate_callee (f := 35) rfl ?_); refine goesL_ (some 22) rfl rfl Try.func35 (by kernel_rfl) rfl #[.int .u8 1, .int .u8 11, .agg #[.int .u64 1073741824, .int .u64 0]] rfl (by (try simp only [List.map_toArray, List.map_cons, List.map_nil]); first | done | rfl | (simp only [List.length_drop, List.length_take]; rfl)) ?_; (with_reducible refine (cuts_Signs.calls k 1 11 1073741824 0 t749 t750 t751 _ A3.out).mono ?_); rintro e w45 ⟨rfl, hb⟩; refine ⟨_, rfl, ?_⟩; have n0_ := A0_ (blk_below (bm_ BK744.out) hb); have n1_ := A0_ (below_step (by repeat (first | (with_reducible first | exact qm_ HB.out | apply qA_ | apply qN_ | apply qD_ | refine below_set ?_ GE744.out) | exact HB.out)) hb); clear BK744 HB; have BK744 := n0_; have HB := n1_; clear n0_ n1_; (try clear hb)))
   go_ret
   exact ⟨by first | rfl | (simp [errW_none, errW_some] <;> rfl) | (simp [*, errW_none, errW_some] <;> rfl), by repeat (first | (with_reducible first | exact qm_ HB.out | apply qA_ | apply qN_ | apply qD_ | refine below_set ?_ GE744.out) | exact HB.out)⟩
 ·replace c4 := Bool.eq_false_iff.mpr c4
  subst c4
  have H1 : (some false) = some r := by rw [if_neg (show ¬ (false = true) by decide)] at H; exact H
  clear H
  have H := H1
  clear H1
  obtain rfl := Option.some.inj H
  go_enter Try.func37, Try.ntmps37
  go_wp2_with (first | ((with_reducible refine gate_dst (N := 1) rfl ?_); refine box_event ?hg (N := 1) ?hd (cs := #[.int .u64 0, .int .u64 0]) (t := 25) ?hr ?_; (case hd => rfl); (case hg => rfl); (case hr => first | (go_simp; done) | (go_simp; rfl)); intro gb744 hg w46 hbox hb; have n0_ := A0_ (below_step (qm_ HB.out) hb); have n1_ := A0_ (hbox); have n2_ := A0_ ((by rw [hg]; exact (below_size (qm_ HB.out)) : w.heap.size ≤ gb744)); have n3_ := A0_ ((by rw [hg]; exact (below_size (qm_ HB.out)) : w.heap.size ≤ gb744)); clear HB; have HB := n0_; have BK744 := n1_; have GW744 := n2_; have GE744 := n3_; clear n0_ n1_ n2_ n3_ hb hbox hg; have hcz47 := bc2_ BK744.out; have hfz47 := bf2_ BK744.out) | ((with_reducible refine gate_callee (f := 33) rfl ?_); refine goesL_ (some 12) rfl rfl Try.func33 (by kernel_rfl) rfl #[.int .u8 1, .int .u8 1, .agg #[.int .u64 3212836864, .int .u64 2147483648]] rfl (by (try simp only [List.map_toArray, List.map_cons, List.map_nil]); first | done | rfl | (simp only [List.length_drop, List.length_take]; rfl)) ?_; (with_reducible refine (cuts_On.calls k 1 1 3212836864 2147483648 false t746 _ A1.out).mono ?_); rintro e w48 ⟨rfl, hb⟩; refine ⟨_, rfl, ?_⟩; have n0_ := A0_ (blk_below (g := gb744) (o := .cells #[.int .u64 3212836864, .int .u64 2147483648] 25 (0, 0)) (by (with_reducible repeat first | apply bN_ | apply bD_ | apply bA_); refine blk_put (cs := #[.int .u64 3212836864, .int .u64 0]) ?_ 1 _ rfl; (with_reducible repeat first | apply bN_ | apply bD_ | apply bA_); refine blk_put (cs := #[.int .u64 0, .int .u64 0]) ?_ 0 _ rfl; (with_reducible repeat first | apply bN_ | apply bD_ | apply bA_); exact BK744.out) hb); have n1_ := A0_ (below_step (by repeat (first | (with_reducible first | exact qm_ HB.out | apply qA_ | apply qN_ | apply qD_ | refine below_set ?_ GE744.out) | exact HB.out)) hb); clear BK744 HB; have BK744 := n0_; have HB := n1_; clear n0_ n1_; (try clear hb); have hcz49 := bc2_ BK744.out; have hfz49 := bf2_ BK744.out) | ((with_reducible refine gate_callee (f := 34) rfl ?_); refine goesL_ (some 17) rfl rfl Try.func34 (by kernel_rfl) rfl #[.int .u8 1, .int .u8 1, .agg #[.int .u64 3212836864, .int .u64 2147483648]] rfl (by (try simp only [List.map_toArray, List.map_cons, List.map_nil]); first | done | rfl | (simp only [List.length_drop, List.length_take]; rfl)) ?_; (with_reducible refine (cuts_Side.calls k 1 1 3212836864 2147483648 t747 t748 _ A2.out).mono ?_); rintro e w50 ⟨rfl, hb⟩; refine ⟨_, rfl, ?_⟩; have n0_ := A0_ (blk_below (bm_ BK744.out) hb); have n1_ := A0_ (below_step (by repeat (first | (with_reducible first | exact qm_ HB.out | apply qA_ | apply qN_ | apply qD_ | refine below_set ?_ GE744.out) | exact HB.out)) hb); clear BK744 HB; have BK744 := n0_; have HB := n1_; clear n0_ n1_; (try clear hb)) | ((with_reducible refine gate_callee (f := 35) rfl ?_); refine goesL_ (some 22) rfl rfl Try.func35 (by kernel_rfl) rfl #[.int .u8 1, .int .u8 11, .agg #[.int .u64 1073741824, .int .u64 0]] rfl (by (try simp only [List.map_toArray, List.map_cons, List.map_nil]); first | done | rfl | (simp only [List.length_drop, List.length_take]; rfl)) ?_; (with_reducible refine (cuts_Signs.calls k 1 11 1073741824 0 t749 t750 t751 _ A3.out).mono ?_); rintro e w51 ⟨rfl, hb⟩; refine ⟨_, rfl, ?_⟩; have n0_ := A0_ (blk_below (bm_ BK744.out) hb); have n1_ := A0_ (below_step (by repeat (first | (with_reducible first | exact qm_ HB.out | apply qA_ | apply qN_ | apply qD_ | refine below_set ?_ GE744.out) | exact HB.out)) hb); clear BK744 HB; have BK744 := n0_; have HB := n1_; clear n0_ n1_; (try clear hb)))
  go_ret
  exact ⟨by first | rfl | (simp [errW_none, errW_some] <;> rfl) | (simp [*, errW_none, errW_some] <;> rfl), by repeat (first | (with_reducible first | exact qm_ HB.out | apply qA_ | apply qN_ | apply qD_ | refine below_set ?_ GE744.out) | exact HB.out)⟩
end Go.Proofs.Ytgaabjjenlbmhaa.PA
end

section
namespace Go.Proofs.Ytgaabjjenlbmhaa.PA
open Go.RowKit Go.Proofs.YtgaabjjenlbmhaaW.PrintWords Go.Proofs.YtgaabjjenlbmhaaW.PrintLast Go.Proofs.YtgaabjjenlbmhaaW.PrintMore
attribute [local go_sem] max2_int min2_int max_two min_two max_three min_three max_four min_four   -- for this text's walks alone
set_option linter.unusedVariables false
set_option linter.unusedSimpArgs false
theorem eqA54 (d : Nat) (w : World) (x0 y0 : Bool) (x1 y1 : Int) (x2 y2 : Bool) :
    (Op.equalIn (d + 2) 54 (.agg #[.bool x0, .int .i64 x1, .bool x2]) (.agg #[.bool y0, .int .i64 y1, .bool y2])).run Try.prog w = .ok (x0 == y0 && (x1 == y1 && (x2 == y2))) w := by
  refine eqA_of Try.underlying54 (by kernel_rfl) ?_
  refine eqf_cons (by rfl) (by go_simp; rfl) (by go_simp; rfl) (by go_simp) ?_
  refine eqf_cons (by rfl) (by go_simp; rfl) (by go_simp; rfl) (by go_simp) ?_
  exact eqf_last (by rfl) (by go_simp; rfl) (by go_simp; rfl) (by go_simp)
end Go.Proofs.Ytgaabjjenlbmhaa.PA
end

section
namespace Go.Proofs.Ytgaabjjenlbmhaa.PA
open Go.RowKit Go.Proofs.YtgaabjjenlbmhaaW.PrintWords Go.Proofs.YtgaabjjenlbmhaaW.PrintLast Go.Proofs.YtgaabjjenlbmhaaW.PrintMore
attribute [local go_sem] max2_int min2_int max_two min_two max_three min_three max_four min_four   -- for this text's walks alone
set_option linter.unusedVariables false
set_option linter.unusedSimpArgs false
attribute [local go_sem high] eqA54
attribute [local go_sem] run_store_func run_store_nilFunc
def cuts_Rays.f (a0 : Int) : Option (List S54 × Int) := some (if cis a0 then (crays a0, 0) else ([], 2))
set_option maxHeartbeats 4000000 in
set_option maxRecDepth 100000 in
theorem cuts_Rays.calls (a0 : Int) (r1 : List S54) (r2 : Int) (w : World) (h : cuts_Rays.f a0 = some (r1, r2)) : Calls Try.prog 42 #[.int .u8 a0] w fun e w' => ∃ v0_ : Value, e = .returned (.tuple #[v0_, .int .i64 r2]) ∧ Kd.R k54 54 w' w.heap.size (fun _ => True) v0_ r1 ∧ Below w.heap.size w w' := by
 have hu54 := Try.underlying54
 have HB := A0_ (Below.refl w.heap.size w)
 unfold cuts_Rays.f at h
 cases hcis : cis a0
 ·rw [hcis] at h
  simp only [Bool.false_eq_true, if_false, if_true, Option.some.injEq, Prod.mk.injEq] at h
  obtain ⟨rfl, rfl⟩ := h
  go_enter Try.func42, Try.ntmps42
  go_wp2_with (first | (go_at_call 68; (with_reducible refine (cuts_table.no a0 hcis _).mono ?_); rintro e w8 ⟨A_, c_, rfl, hb⟩;  have HB0_ := HB.out; have n1_ := A0_ (below_step (qm_ HB.out) hb); clear HB; have HB := n1_; clear n1_;  clear hb HB0_) | ((with_reducible refine gate_dst (N := 4) rfl ?_); refine box_event ?hg (N := 4) ?hd (cs := #[.slice none 0 0, .int .u8 0, .nilFunc]) (t := 94) ?hr ?_; (case hd => rfl); (case hg => rfl); (case hr => first | (go_simp; done) | (go_simp; rfl)); intro gb4 hg w4 hbox hb;  have n0_ := A0_ (below_step (qm_ HB.out) hb); have n1_ := A0_ hbox; have n2_ := A0_ ((by rw [hg]; exact (below_size (qm_ HB.out))) : w.heap.size ≤ gb4); clear HB; have HB := n0_; have BK4 := n1_; have GE4 := n2_; clear n0_ n1_ n2_ hb hbox hg; have hcz4_0 : w4.cell? ⟨gb4, 0, none⟩ = some (.slice none 0 0) := (blk_cell BK4.out 0).trans rfl; have hfz4_0 := blk_frozen BK4.out 0; have hcz4_1 : w4.cell? ⟨gb4, 1, none⟩ = some (.int .u8 0) := (blk_cell BK4.out 1).trans rfl; have hfz4_1 := blk_frozen BK4.out 1; have hcz4_2 : w4.cell? ⟨gb4, 2, none⟩ = some (.nilFunc) := (blk_cell BK4.out 2).trans rfl; have hfz4_2 := blk_frozen BK4.out 2;))
  refine bodyPost_ret (v := .tuple #[.slice none 0 0, .int .i64 2]) ?_ rfl ?_
  ·simp [results, Try.results42, go_sem]
  ·exact ⟨.slice none 0 0, rfl, Kd.R_nil _ _ _ _ _, below_set (below_set (below_set HB.out GE4.out) GE4.out) GE4.out⟩
 ·rw [hcis] at h
  simp only [Bool.false_eq_true, if_false, if_true, Option.some.injEq, Prod.mk.injEq] at h
  obtain ⟨rfl, rfl⟩ := h
  go_enter Try.func42, Try.ntmps42
  go_wp2_with (first | (go_at_call 68; (with_reducible refine (cuts_table.yes a0 hcis _).mono ?_); rintro e w8 ⟨A_, c_, rfl, ho, hb⟩;  have HB0_ := HB.out; have n1_ := A0_ (below_step (qm_ HB.out) hb); clear HB; have HB := n1_; clear n1_; have n0_ := A0_ (Kd.R_lower ho (below_size HB0_)); have HO := n0_; clear n0_ ho hb HB0_) | ((with_reducible refine gate_dst (N := 4) rfl ?_); refine box_event ?hg (N := 4) ?hd (cs := #[.slice none 0 0, .int .u8 0, .nilFunc]) (t := 94) ?hr ?_; (case hd => rfl); (case hg => rfl); (case hr => first | (go_simp; done) | (go_simp; rfl)); intro gb4 hg w4 hbox hb;  have n0_ := A0_ (below_step (qm_ HB.out) hb); have n1_ := A0_ hbox; have n2_ := A0_ ((by rw [hg]; exact (below_size (qm_ HB.out))) : w.heap.size ≤ gb4); clear HB; have HB := n0_; have BK4 := n1_; have GE4 := n2_; clear n0_ n1_ n2_; have nb_ := A0_ (Kd.R_below HO.out hb); clear HO; have HO := nb_; clear nb_ hb hbox hg; have hcz4_0 : w4.cell? ⟨gb4, 0, none⟩ = some (.slice none 0 0) := (blk_cell BK4.out 0).trans rfl; have hfz4_0 := blk_frozen BK4.out 0; have hcz4_1 : w4.cell? ⟨gb4, 1, none⟩ = some (.int .u8 0) := (blk_cell BK4.out 1).trans rfl; have hfz4_1 := blk_frozen BK4.out 1; have hcz4_2 : w4.cell? ⟨gb4, 2, none⟩ = some (.nilFunc) := (blk_cell BK4.out 2).trans rfl; have hfz4_2 := blk_frozen BK4.out 2;))
  refine bodyPost_ret (v := .tuple #[.slice A_ (crays a0).length c_, .int .i64 0]) ?_ rfl ?_
  ·simp [results, Try.results42, go_sem]
  ·exact ⟨.slice A_ (crays a0).length c_, rfl, Kd.R_set (Kd.R_set (Kd.R_set HO.out BK4.out ne94 0 _) (blk_set BK4.out 0 _) ne94 1 _) (blk_set (blk_set BK4.out 0 _) 1 _) ne94 2 _, below_set (below_set (below_set HB.out GE4.out) GE4.out) GE4.out⟩
attribute [local go_sem] run_store_func run_store_nilFunc
def cuts_Parity.f (a0 : Int) : Option (Int × Int) := some (if cis a0 then (cpar a0, 0) else (0, 2))
set_option maxHeartbeats 4000000 in
set_option maxRecDepth 100000 in
theorem cuts_Parity.calls (a0 : Int) (r1 r2 : Int) (w : World) (h : cuts_Parity.f a0 = some (r1, r2)) : Calls Try.prog 43 #[.int .u8 a0] w fun e w' => e = .returned (.tuple #[.int .u8 r1, .int .i64 r2]) ∧ Below w.heap.size w w' := by
 have hu54 := Try.underlying54
 have HB := A0_ (Below.refl w.heap.size w)
 unfold cuts_Parity.f at h
 cases hcis : cis a0
 ·rw [hcis] at h
  simp only [Bool.false_eq_true, if_false, if_true, Option.some.injEq, Prod.mk.injEq] at h
  obtain ⟨rfl, rfl⟩ := h
  go_enter Try.func43, Try.ntmps43
  go_wp2_with (first | (go_at_call 68; (with_reducible refine (cuts_table.no a0 hcis _).mono ?_); rintro e w8 ⟨A_, c_, rfl, hb⟩;  have HB0_ := HB.out; have n1_ := A0_ (below_step (qm_ HB.out) hb); clear HB; have HB := n1_; clear n1_;  clear hb HB0_) | ((with_reducible refine gate_dst (N := 4) rfl ?_); refine box_event ?hg (N := 4) ?hd (cs := #[.slice none 0 0, .int .u8 0, .nilFunc]) (t := 94) ?hr ?_; (case hd => rfl); (case hg => rfl); (case hr => first | (go_simp; done) | (go_simp; rfl)); intro gb4 hg w4 hbox hb;  have n0_ := A0_ (below_step (qm_ HB.out) hb); have n1_ := A0_ hbox; have n2_ := A0_ ((by rw [hg]; exact (below_size (qm_ HB.out))) : w.heap.size ≤ gb4); clear HB; have HB := n0_; have BK4 := n1_; have GE4 := n2_; clear n0_ n1_ n2_ hb hbox hg; have hcz4_0 : w4.cell? ⟨gb4, 0, none⟩ = some (.slice none 0 0) := (blk_cell BK4.out 0).trans rfl; have hfz4_0 := blk_frozen BK4.out 0; have hcz4_1 : w4.cell? ⟨gb4, 1, none⟩ = some (.int .u8 0) := (blk_cell BK4.out 1).trans rfl; have hfz4_1 := blk_frozen BK4.out 1; have hcz4_2 : w4.cell? ⟨gb4, 2, none⟩ = some (.nilFunc) := (blk_cell BK4.out 2).trans rfl; have hfz4_2 := blk_frozen BK4.out 2;))
  refine bodyPost_ret (v := .tuple #[.int .u8 0, .int .i64 2]) ?_ rfl ?_
  ·simp [results, Try.results43, go_sem]
  ·exact ⟨rfl, below_set (below_set (below_set HB.out GE4.out) GE4.out) GE4.out⟩
 ·rw [hcis] at h
  simp only [Bool.false_eq_true, if_false, if_true, Option.some.injEq, Prod.mk.injEq] at h
  obtain ⟨rfl, rfl⟩ := h
  go_enter Try.func43, Try.ntmps43
  go_wp2_with (first | (go_at_call 68; (with_reducible refine (cuts_table.yes a0 hcis _).mono ?_); rintro e w8 ⟨A_, c_, rfl, ho, hb⟩;  have HB0_ := HB.out; have n1_ := A0_ (below_step (qm_ HB.out) hb); clear HB; have HB := n1_; clear n1_; have n0_ := A0_ (Kd.R_lower ho (below_size HB0_)); have HO := n0_; clear n0_ ho hb HB0_) | ((with_reducible refine gate_dst (N := 4) rfl ?_); refine box_event ?hg (N := 4) ?hd (cs := #[.slice none 0 0, .int .u8 0, .nilFunc]) (t := 94) ?hr ?_; (case hd => rfl); (case hg => rfl); (case hr => first | (go_simp; done) | (go_simp; rfl)); intro gb4 hg w4 hbox hb;  have n0_ := A0_ (below_step (qm_ HB.out) hb); have n1_ := A0_ hbox; have n2_ := A0_ ((by rw [hg]; exact (below_size (qm_ HB.out))) : w.heap.size ≤ gb4); clear HB; have HB := n0_; have BK4 := n1_; have GE4 := n2_; clear n0_ n1_ n2_; have nb_ := A0_ (Kd.R_below HO.out hb); clear HO; have HO := nb_; clear nb_ hb hbox hg; have hcz4_0 : w4.cell? ⟨gb4, 0, none⟩ = some (.slice none 0 0) := (blk_cell BK4.out 0).trans rfl; have hfz4_0 := blk_frozen BK4.out 0; have hcz4_1 : w4.cell? ⟨gb4, 1, none⟩ = some (.int .u8 0) := (blk_cell BK4.out 1).trans rfl; have hfz4_1 := blk_frozen BK4.out 1; have hcz4_2 : w4.cell? ⟨gb4, 2, none⟩ = some (.nilFunc) := (blk_cell BK4.out 2).trans rfl; have hfz4_2 := blk_frozen BK4.out 2;))
  refine bodyPost_ret (v := .tuple #[.int .u8 (cpar a0), .int .i64 0]) ?_ rfl ?_
  ·simp [results, Try.results43, go_sem]
  ·exact ⟨rfl, below_set (below_set (below_set HB.out GE4.out) GE4.out) GE4.out⟩
end Go.Proofs.Ytgaabjjenlbmhaa.PA
end
