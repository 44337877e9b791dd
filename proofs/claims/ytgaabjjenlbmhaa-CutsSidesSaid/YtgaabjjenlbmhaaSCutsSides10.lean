/- Steps of Go functions that the law CutsSides uses, told as plain Lean functions, each with the proof that its call comes to what it tells; words on memory; plain facts. No condition beyond those that each text names. -/
import Derived.Test.YtgaabjjenlbmhaaProg
import Derived.WalkMore
import Derived.Test.YtgaabjjenlbmhaaSCutsSides0
import Derived.Test.YtgaabjjenlbmhaaSCutsSides1
import Derived.Test.YtgaabjjenlbmhaaSCutsSides2
import Derived.Test.YtgaabjjenlbmhaaSCutsSides3
import Derived.Test.YtgaabjjenlbmhaaSCutsSides4
import Derived.Test.YtgaabjjenlbmhaaSCutsSides5
import Derived.Test.YtgaabjjenlbmhaaSCutsSides6
import Derived.Test.YtgaabjjenlbmhaaSCutsSides7
import Derived.Test.YtgaabjjenlbmhaaSCutsSides8
import Derived.Test.YtgaabjjenlbmhaaSCutsSides9
set_option maxHeartbeats 16000000
set_option maxRecDepth 100000
section
namespace Go.Proofs.Ytgaabjjenlbmhaa.PA
open Go.RowKit Go.Proofs.YtgaabjjenlbmhaaW.PrintWords Go.Proofs.YtgaabjjenlbmhaaW.PrintLast Go.Proofs.YtgaabjjenlbmhaaW.PrintMore
attribute [local go_sem] max2_int min2_int max_two min_two max_three min_three max_four min_four   -- for this text's walks alone
set_option linter.unusedVariables false
set_option linter.unusedSimpArgs false
attribute [local go_sem] run_store_func run_store_nilFunc
def cuts_On.f (k : Nat) (a0 a1 a2_0 a2_1 : Int) : Option (Bool × Int) := (cuts_find.f k a0 a1 a2_0 a2_1).bind fun t => some (if t.2.2.2.2 = 7 then (false, 0) else (t.2.2.2.2 == 0, t.2.2.2.2))
set_option maxHeartbeats 4000000 in
set_option maxRecDepth 100000 in
theorem cuts_On.calls (k : Nat) (a0 a1 a2_0 a2_1 : Int) (r1 : Bool) (r2 : Int) (w : World) (h : cuts_On.f k a0 a1 a2_0 a2_1 = some (r1, r2)) : Calls Try.prog 33 #[.int .u8 a0, .int .u8 a1, .agg #[.int .u64 a2_0, .int .u64 a2_1]] w fun e w' => e = .returned (.tuple #[.bool r1, .int .i64 r2]) ∧ Below w.heap.size w w' := by
 have hu25 := Try.underlying25
 have hu54 := Try.underlying54
 have HB := A0_ (Below.refl w.heap.size w)
 unfold cuts_On.f at h
 obtain ⟨⟨s, o, m, d, er⟩, A1, h⟩ := Option.bind_eq_some_iff.mp h
 have A1 := A0_ A1
 simp only at h
 by_cases c : er = 7
 ·have c7 : (er == 7) = true := beq_iff_eq.mpr c
  rw [if_pos c] at h
  simp only [Option.some.injEq, Prod.mk.injEq] at h
  obtain ⟨rfl, rfl⟩ := h
  clear c
  go_enter Try.func33, Try.ntmps33
  go_wp2_with (first | ((with_reducible refine gate_dst (N := 5) rfl ?_); refine box_event ?hg (N := 5) ?hd (cs := #[.int .u64 a2_0, .int .u64 a2_1]) (t := 25) ?hr ?_; (case hd => rfl); (case hg => rfl); (case hr => first | (go_simp; done) | (go_simp; rfl)); intro gb5 hg w5 hbox hb;  have BK5 := A0_ hbox; have GE5 := A0_ ((by rw [hg]; exact (below_size (qm_ HB.out))) : w.heap.size ≤ gb5); replace HB := hs_ hb; clear hb hbox hg; have hcz5 := bc2_ BK5.out))
  refine (cuts_find.calls k a0 a1 a2_0 a2_1 _ _ _ _ _ _ A1.out).mono ?_
  rintro e wf ⟨A_, n_, c_, p_, fv, rfl, hz, hfv, hb⟩
  replace HB := A0_ (below_step HB.out hb)
  clear hcz5 hb
  have HZ := A0_ hz
  clear hz
  rcases hfv with rfl | ⟨j, rfl⟩
  ·go_wp2_with (first | ((with_reducible refine gate_dst (N := 8) rfl ?_); refine box_event ?hg (N := 8) ?hd (cs := #[.slice none 0 0, .int .u8 0, .nilFunc]) (t := 94) ?hr ?_; (case hd => rfl); (case hg => rfl); (case hr => first | (go_simp; done) | (go_simp; rfl)); intro gb8 hg w8 hbox hb;  have BK8 := A0_ hbox; have GE8 := A0_ ((by rw [hg]; exact (below_size (qm_ HB.out))) : w.heap.size ≤ gb8); replace HB := hs_ hb; clear hb hbox hg) | ((with_reducible refine gate_dst (N := 9) rfl ?_); refine box_event ?hg (N := 9) ?hd (cs := #[.int .i64 0, .int .i64 0, .int .i64 0, .int .i64 0]) (t := 96) ?hr ?_; (case hd => rfl); (case hg => rfl); (case hr => first | (go_simp; done) | (go_simp; rfl)); intro gb9 hg w9 hbox hb; have nb_ := A0_ (blk_below BK8.out hb); clear BK8; have BK8 := nb_; clear nb_; have BK9 := A0_ hbox; have GE9 := A0_ ((by rw [hg]; exact (below_size (qm_ HB.out))) : w.heap.size ≤ gb9); replace HB := hs_ hb; clear hb hbox hg; have hn89 : gb8 ≠ gb9 := blk_ne BK8.out BK9.out (by decide); have hn98 := Ne.symm hn89; have hcz8_0 : w9.cell? ⟨gb8, 0, none⟩ = some (.slice none 0 0) := (blk_cell BK8.out 0).trans rfl; have hfz8_0 := blk_frozen BK8.out 0; have hcz8_1 : w9.cell? ⟨gb8, 1, none⟩ = some (.int .u8 0) := (blk_cell BK8.out 1).trans rfl; have hfz8_1 := blk_frozen BK8.out 1; have hcz8_2 : w9.cell? ⟨gb8, 2, none⟩ = some (.nilFunc) := (blk_cell BK8.out 2).trans rfl; have hfz8_2 := blk_frozen BK8.out 2;have hcz9_0 : w9.cell? ⟨gb9, 0, none⟩ = some (.int .i64 0) := (blk_cell BK9.out 0).trans rfl; have hfz9_0 := blk_frozen BK9.out 0; have hcz9_1 : w9.cell? ⟨gb9, 1, none⟩ = some (.int .i64 0) := (blk_cell BK9.out 1).trans rfl; have hfz9_1 := blk_frozen BK9.out 1; have hcz9_2 : w9.cell? ⟨gb9, 2, none⟩ = some (.int .i64 0) := (blk_cell BK9.out 2).trans rfl; have hfz9_2 := blk_frozen BK9.out 2; have hcz9_3 : w9.cell? ⟨gb9, 3, none⟩ = some (.int .i64 0) := (blk_cell BK9.out 3).trans rfl; have hfz9_3 := blk_frozen BK9.out 3;))
   refine bodyPost_ret (v := .tuple #[.bool false, .int .i64 0]) ?_ rfl ⟨rfl, below_set (below_set (below_set (below_set (below_set (below_set (below_set HB.out GE8.out) GE8.out) GE8.out) GE9.out) GE9.out) GE9.out) GE9.out⟩
   simp [results, Try.results33, go_sem, hn89, hn98]
  ·go_wp2_with (first | ((with_reducible refine gate_dst (N := 8) rfl ?_); refine box_event ?hg (N := 8) ?hd (cs := #[.slice none 0 0, .int .u8 0, .nilFunc]) (t := 94) ?hr ?_; (case hd => rfl); (case hg => rfl); (case hr => first | (go_simp; done) | (go_simp; rfl)); intro gb8 hg w8 hbox hb;  have BK8 := A0_ hbox; have GE8 := A0_ ((by rw [hg]; exact (below_size (qm_ HB.out))) : w.heap.size ≤ gb8); replace HB := hs_ hb; clear hb hbox hg) | ((with_reducible refine gate_dst (N := 9) rfl ?_); refine box_event ?hg (N := 9) ?hd (cs := #[.int .i64 0, .int .i64 0, .int .i64 0, .int .i64 0]) (t := 96) ?hr ?_; (case hd => rfl); (case hg => rfl); (case hr => first | (go_simp; done) | (go_simp; rfl)); intro gb9 hg w9 hbox hb; have nb_ := A0_ (blk_below BK8.out hb); clear BK8; have BK8 := nb_; clear nb_; have BK9 := A0_ hbox; have GE9 := A0_ ((by rw [hg]; exact (below_size (qm_ HB.out))) : w.heap.size ≤ gb9); replace HB := hs_ hb; clear hb hbox hg; have hn89 : gb8 ≠ gb9 := blk_ne BK8.out BK9.out (by decide); have hn98 := Ne.symm hn89; have hcz8_0 : w9.cell? ⟨gb8, 0, none⟩ = some (.slice none 0 0) := (blk_cell BK8.out 0).trans rfl; have hfz8_0 := blk_frozen BK8.out 0; have hcz8_1 : w9.cell? ⟨gb8, 1, none⟩ = some (.int .u8 0) := (blk_cell BK8.out 1).trans rfl; have hfz8_1 := blk_frozen BK8.out 1; have hcz8_2 : w9.cell? ⟨gb8, 2, none⟩ = some (.nilFunc) := (blk_cell BK8.out 2).trans rfl; have hfz8_2 := blk_frozen BK8.out 2;have hcz9_0 : w9.cell? ⟨gb9, 0, none⟩ = some (.int .i64 0) := (blk_cell BK9.out 0).trans rfl; have hfz9_0 := blk_frozen BK9.out 0; have hcz9_1 : w9.cell? ⟨gb9, 1, none⟩ = some (.int .i64 0) := (blk_cell BK9.out 1).trans rfl; have hfz9_1 := blk_frozen BK9.out 1; have hcz9_2 : w9.cell? ⟨gb9, 2, none⟩ = some (.int .i64 0) := (blk_cell BK9.out 2).trans rfl; have hfz9_2 := blk_frozen BK9.out 2; have hcz9_3 : w9.cell? ⟨gb9, 3, none⟩ = some (.int .i64 0) := (blk_cell BK9.out 3).trans rfl; have hfz9_3 := blk_frozen BK9.out 3;))
   refine bodyPost_ret (v := .tuple #[.bool false, .int .i64 0]) ?_ rfl ⟨rfl, below_set (below_set (below_set (below_set (below_set (below_set (below_set HB.out GE8.out) GE8.out) GE8.out) GE9.out) GE9.out) GE9.out) GE9.out⟩
   simp [results, Try.results33, go_sem, hn89, hn98]
 ·have c7 : (er == 7) = false := beq_eq_false_iff_ne.mpr c
  rw [if_neg c] at h
  simp only [Option.some.injEq, Prod.mk.injEq] at h
  obtain ⟨rfl, rfl⟩ := h
  clear c
  go_enter Try.func33, Try.ntmps33
  go_wp2_with (first | ((with_reducible refine gate_dst (N := 5) rfl ?_); refine box_event ?hg (N := 5) ?hd (cs := #[.int .u64 a2_0, .int .u64 a2_1]) (t := 25) ?hr ?_; (case hd => rfl); (case hg => rfl); (case hr => first | (go_simp; done) | (go_simp; rfl)); intro gb5 hg w5 hbox hb;  have BK5 := A0_ hbox; have GE5 := A0_ ((by rw [hg]; exact (below_size (qm_ HB.out))) : w.heap.size ≤ gb5); replace HB := hs_ hb; clear hb hbox hg; have hcz5 := bc2_ BK5.out))
  refine (cuts_find.calls k a0 a1 a2_0 a2_1 _ _ _ _ _ _ A1.out).mono ?_
  rintro e wf ⟨A_, n_, c_, p_, fv, rfl, hz, hfv, hb⟩
  replace HB := A0_ (below_step HB.out hb)
  clear hcz5 hb
  have HZ := A0_ hz
  clear hz
  rcases hfv with rfl | ⟨j, rfl⟩
  ·go_wp2_with (first | ((with_reducible refine gate_dst (N := 8) rfl ?_); refine box_event ?hg (N := 8) ?hd (cs := #[.slice none 0 0, .int .u8 0, .nilFunc]) (t := 94) ?hr ?_; (case hd => rfl); (case hg => rfl); (case hr => first | (go_simp; done) | (go_simp; rfl)); intro gb8 hg w8 hbox hb;  have BK8 := A0_ hbox; have GE8 := A0_ ((by rw [hg]; exact (below_size (qm_ HB.out))) : w.heap.size ≤ gb8); replace HB := hs_ hb; clear hb hbox hg) | ((with_reducible refine gate_dst (N := 9) rfl ?_); refine box_event ?hg (N := 9) ?hd (cs := #[.int .i64 0, .int .i64 0, .int .i64 0, .int .i64 0]) (t := 96) ?hr ?_; (case hd => rfl); (case hg => rfl); (case hr => first | (go_simp; done) | (go_simp; rfl)); intro gb9 hg w9 hbox hb; have nb_ := A0_ (blk_below BK8.out hb); clear BK8; have BK8 := nb_; clear nb_; have BK9 := A0_ hbox; have GE9 := A0_ ((by rw [hg]; exact (below_size (qm_ HB.out))) : w.heap.size ≤ gb9); replace HB := hs_ hb; clear hb hbox hg; have hn89 : gb8 ≠ gb9 := blk_ne BK8.out BK9.out (by decide); have hn98 := Ne.symm hn89; have hcz8_0 : w9.cell? ⟨gb8, 0, none⟩ = some (.slice none 0 0) := (blk_cell BK8.out 0).trans rfl; have hfz8_0 := blk_frozen BK8.out 0; have hcz8_1 : w9.cell? ⟨gb8, 1, none⟩ = some (.int .u8 0) := (blk_cell BK8.out 1).trans rfl; have hfz8_1 := blk_frozen BK8.out 1; have hcz8_2 : w9.cell? ⟨gb8, 2, none⟩ = some (.nilFunc) := (blk_cell BK8.out 2).trans rfl; have hfz8_2 := blk_frozen BK8.out 2;have hcz9_0 : w9.cell? ⟨gb9, 0, none⟩ = some (.int .i64 0) := (blk_cell BK9.out 0).trans rfl; have hfz9_0 := blk_frozen BK9.out 0; have hcz9_1 : w9.cell? ⟨gb9, 1, none⟩ = some (.int .i64 0) := (blk_cell BK9.out 1).trans rfl; have hfz9_1 := blk_frozen BK9.out 1; have hcz9_2 : w9.cell? ⟨gb9, 2, none⟩ = some (.int .i64 0) := (blk_cell BK9.out 2).trans rfl; have hfz9_2 := blk_frozen BK9.out 2; have hcz9_3 : w9.cell? ⟨gb9, 3, none⟩ = some (.int .i64 0) := (blk_cell BK9.out 3).trans rfl; have hfz9_3 := blk_frozen BK9.out 3;))
   refine bodyPost_ret (v := .tuple #[.bool (er == 0), .int .i64 er]) ?_ rfl ⟨rfl, below_set (below_set (below_set (below_set (below_set (below_set (below_set HB.out GE8.out) GE8.out) GE8.out) GE9.out) GE9.out) GE9.out) GE9.out⟩
   simp [results, Try.results33, go_sem, hn89, hn98]
  ·go_wp2_with (first | ((with_reducible refine gate_dst (N := 8) rfl ?_); refine box_event ?hg (N := 8) ?hd (cs := #[.slice none 0 0, .int .u8 0, .nilFunc]) (t := 94) ?hr ?_; (case hd => rfl); (case hg => rfl); (case hr => first | (go_simp; done) | (go_simp; rfl)); intro gb8 hg w8 hbox hb;  have BK8 := A0_ hbox; have GE8 := A0_ ((by rw [hg]; exact (below_size (qm_ HB.out))) : w.heap.size ≤ gb8); replace HB := hs_ hb; clear hb hbox hg) | ((with_reducible refine gate_dst (N := 9) rfl ?_); refine box_event ?hg (N := 9) ?hd (cs := #[.int .i64 0, .int .i64 0, .int .i64 0, .int .i64 0]) (t := 96) ?hr ?_; (case hd => rfl); (case hg => rfl); (case hr => first | (go_simp; done) | (go_simp; rfl)); intro gb9 hg w9 hbox hb; have nb_ := A0_ (blk_below BK8.out hb); clear BK8; have BK8 := nb_; clear nb_; have BK9 := A0_ hbox; have GE9 := A0_ ((by rw [hg]; exact (below_size (qm_ HB.out))) : w.heap.size ≤ gb9); replace HB := hs_ hb; clear hb hbox hg; have hn89 : gb8 ≠ gb9 := blk_ne BK8.out BK9.out (by decide); have hn98 := Ne.symm hn89; have hcz8_0 : w9.cell? ⟨gb8, 0, none⟩ = some (.slice none 0 0) := (blk_cell BK8.out 0).trans rfl; have hfz8_0 := blk_frozen BK8.out 0; have hcz8_1 : w9.cell? ⟨gb8, 1, none⟩ = some (.int .u8 0) := (blk_cell BK8.out 1).trans rfl; have hfz8_1 := blk_frozen BK8.out 1; have hcz8_2 : w9.cell? ⟨gb8, 2, none⟩ = some (.nilFunc) := (blk_cell BK8.out 2).trans rfl; have hfz8_2 := blk_frozen BK8.out 2;have hcz9_0 : w9.cell? ⟨gb9, 0, none⟩ = some (.int .i64 0) := (blk_cell BK9.out 0).trans rfl; have hfz9_0 := blk_frozen BK9.out 0; have hcz9_1 : w9.cell? ⟨gb9, 1, none⟩ = some (.int .i64 0) := (blk_cell BK9.out 1).trans rfl; have hfz9_1 := blk_frozen BK9.out 1; have hcz9_2 : w9.cell? ⟨gb9, 2, none⟩ = some (.int .i64 0) := (blk_cell BK9.out 2).trans rfl; have hfz9_2 := blk_frozen BK9.out 2; have hcz9_3 : w9.cell? ⟨gb9, 3, none⟩ = some (.int .i64 0) := (blk_cell BK9.out 3).trans rfl; have hfz9_3 := blk_frozen BK9.out 3;))
   refine bodyPost_ret (v := .tuple #[.bool (er == 0), .int .i64 er]) ?_ rfl ⟨rfl, below_set (below_set (below_set (below_set (below_set (below_set (below_set HB.out GE8.out) GE8.out) GE8.out) GE9.out) GE9.out) GE9.out) GE9.out⟩
   simp [results, Try.results33, go_sem, hn89, hn98]
attribute [local go_sem] run_store_func run_store_nilFunc
def cuts_Side.f (k : Nat) (a0 a1 a2_0 a2_1 : Int) : Option (Int × Int) := (cuts_find.f k a0 a1 a2_0 a2_1).bind fun t => some (t.2.2.2.1, t.2.2.2.2)
set_option maxHeartbeats 4000000 in
set_option maxRecDepth 100000 in
theorem cuts_Side.calls (k : Nat) (a0 a1 a2_0 a2_1 : Int) (r1 r2 : Int) (w : World) (h : cuts_Side.f k a0 a1 a2_0 a2_1 = some (r1, r2)) : Calls Try.prog 34 #[.int .u8 a0, .int .u8 a1, .agg #[.int .u64 a2_0, .int .u64 a2_1]] w fun e w' => e = .returned (.tuple #[.int .i64 r1, .int .i64 r2]) ∧ Below w.heap.size w w' := by
 have hu25 := Try.underlying25
 have hu54 := Try.underlying54
 have HB := A0_ (Below.refl w.heap.size w)
 unfold cuts_Side.f at h
 obtain ⟨⟨s, o, m, d, er⟩, A1, h⟩ := Option.bind_eq_some_iff.mp h
 have A1 := A0_ A1
 ·simp only [Option.some.injEq, Prod.mk.injEq] at h
  obtain ⟨rfl, rfl⟩ := h
  go_enter Try.func34, Try.ntmps34
  go_wp2_with (first | ((with_reducible refine gate_dst (N := 5) rfl ?_); refine box_event ?hg (N := 5) ?hd (cs := #[.int .u64 a2_0, .int .u64 a2_1]) (t := 25) ?hr ?_; (case hd => rfl); (case hg => rfl); (case hr => first | (go_simp; done) | (go_simp; rfl)); intro gb5 hg w5 hbox hb;  have BK5 := A0_ hbox; have GE5 := A0_ ((by rw [hg]; exact (below_size (qm_ HB.out))) : w.heap.size ≤ gb5); replace HB := hs_ hb; clear hb hbox hg; have hcz5 := bc2_ BK5.out))
  refine (cuts_find.calls k a0 a1 a2_0 a2_1 _ _ _ _ _ _ A1.out).mono ?_
  rintro e wf ⟨A_, n_, c_, p_, fv, rfl, hz, hfv, hb⟩
  replace HB := A0_ (below_step HB.out hb)
  clear hcz5 hb
  have HZ := A0_ hz
  clear hz
  rcases hfv with rfl | ⟨j, rfl⟩
  ·go_wp2_with (first | ((with_reducible refine gate_dst (N := 8) rfl ?_); refine box_event ?hg (N := 8) ?hd (cs := #[.slice none 0 0, .int .u8 0, .nilFunc]) (t := 94) ?hr ?_; (case hd => rfl); (case hg => rfl); (case hr => first | (go_simp; done) | (go_simp; rfl)); intro gb8 hg w8 hbox hb;  have BK8 := A0_ hbox; have GE8 := A0_ ((by rw [hg]; exact (below_size (qm_ HB.out))) : w.heap.size ≤ gb8); replace HB := hs_ hb; clear hb hbox hg) | ((with_reducible refine gate_dst (N := 9) rfl ?_); refine box_event ?hg (N := 9) ?hd (cs := #[.int .i64 0, .int .i64 0, .int .i64 0, .int .i64 0]) (t := 96) ?hr ?_; (case hd => rfl); (case hg => rfl); (case hr => first | (go_simp; done) | (go_simp; rfl)); intro gb9 hg w9 hbox hb; have nb_ := A0_ (blk_below BK8.out hb); clear BK8; have BK8 := nb_; clear nb_; have BK9 := A0_ hbox; have GE9 := A0_ ((by rw [hg]; exact (below_size (qm_ HB.out))) : w.heap.size ≤ gb9); replace HB := hs_ hb; clear hb hbox hg; have hn89 : gb8 ≠ gb9 := blk_ne BK8.out BK9.out (by decide); have hn98 := Ne.symm hn89; have hcz8_0 : w9.cell? ⟨gb8, 0, none⟩ = some (.slice none 0 0) := (blk_cell BK8.out 0).trans rfl; have hfz8_0 := blk_frozen BK8.out 0; have hcz8_1 : w9.cell? ⟨gb8, 1, none⟩ = some (.int .u8 0) := (blk_cell BK8.out 1).trans rfl; have hfz8_1 := blk_frozen BK8.out 1; have hcz8_2 : w9.cell? ⟨gb8, 2, none⟩ = some (.nilFunc) := (blk_cell BK8.out 2).trans rfl; have hfz8_2 := blk_frozen BK8.out 2;have hcz9_0 : w9.cell? ⟨gb9, 0, none⟩ = some (.int .i64 0) := (blk_cell BK9.out 0).trans rfl; have hfz9_0 := blk_frozen BK9.out 0; have hcz9_1 : w9.cell? ⟨gb9, 1, none⟩ = some (.int .i64 0) := (blk_cell BK9.out 1).trans rfl; have hfz9_1 := blk_frozen BK9.out 1; have hcz9_2 : w9.cell? ⟨gb9, 2, none⟩ = some (.int .i64 0) := (blk_cell BK9.out 2).trans rfl; have hfz9_2 := blk_frozen BK9.out 2; have hcz9_3 : w9.cell? ⟨gb9, 3, none⟩ = some (.int .i64 0) := (blk_cell BK9.out 3).trans rfl; have hfz9_3 := blk_frozen BK9.out 3;))
   refine bodyPost_ret (v := .tuple #[.int .i64 d, .int .i64 er]) ?_ rfl ⟨rfl, below_set (below_set (below_set (below_set (below_set (below_set (below_set HB.out GE8.out) GE8.out) GE8.out) GE9.out) GE9.out) GE9.out) GE9.out⟩
   simp [results, Try.results34, go_sem, hn89, hn98]
  ·go_wp2_with (first | ((with_reducible refine gate_dst (N := 8) rfl ?_); refine box_event ?hg (N := 8) ?hd (cs := #[.slice none 0 0, .int .u8 0, .nilFunc]) (t := 94) ?hr ?_; (case hd => rfl); (case hg => rfl); (case hr => first | (go_simp; done) | (go_simp; rfl)); intro gb8 hg w8 hbox hb;  have BK8 := A0_ hbox; have GE8 := A0_ ((by rw [hg]; exact (below_size (qm_ HB.out))) : w.heap.size ≤ gb8); replace HB := hs_ hb; clear hb hbox hg) | ((with_reducible refine gate_dst (N := 9) rfl ?_); refine box_event ?hg (N := 9) ?hd (cs := #[.int .i64 0, .int .i64 0, .int .i64 0, .int .i64 0]) (t := 96) ?hr ?_; (case hd => rfl); (case hg => rfl); (case hr => first | (go_simp; done) | (go_simp; rfl)); intro gb9 hg w9 hbox hb; have nb_ := A0_ (blk_below BK8.out hb); clear BK8; have BK8 := nb_; clear nb_; have BK9 := A0_ hbox; have GE9 := A0_ ((by rw [hg]; exact (below_size (qm_ HB.out))) : w.heap.size ≤ gb9); replace HB := hs_ hb; clear hb hbox hg; have hn89 : gb8 ≠ gb9 := blk_ne BK8.out BK9.out (by decide); have hn98 := Ne.symm hn89; have hcz8_0 : w9.cell? ⟨gb8, 0, none⟩ = some (.slice none 0 0) := (blk_cell BK8.out 0).trans rfl; have hfz8_0 := blk_frozen BK8.out 0; have hcz8_1 : w9.cell? ⟨gb8, 1, none⟩ = some (.int .u8 0) := (blk_cell BK8.out 1).trans rfl; have hfz8_1 := blk_frozen BK8.out 1; have hcz8_2 : w9.cell? ⟨gb8, 2, none⟩ = some (.nilFunc) := (blk_cell BK8.out 2).trans rfl; have hfz8_2 := blk_frozen BK8.out 2;have hcz9_0 : w9.cell? ⟨gb9, 0, none⟩ = some (.int .i64 0) := (blk_cell BK9.out 0).trans rfl; have hfz9_0 := blk_frozen BK9.out 0; have hcz9_1 : w9.cell? ⟨gb9, 1, none⟩ = some (.int .i64 0) := (blk_cell BK9.out 1).trans rfl; have hfz9_1 := blk_frozen BK9.out 1; have hcz9_2 : w9.cell? ⟨gb9, 2, none⟩ = some (.int .i64 0) := (blk_cell BK9.out 2).trans rfl; have hfz9_2 := blk_frozen BK9.out 2; have hcz9_3 : w9.cell? ⟨gb9, 3, none⟩ = some (.int .i64 0) := (blk_cell BK9.out 3).trans rfl; have hfz9_3 := blk_frozen BK9.out 3;))
   refine bodyPost_ret (v := .tuple #[.int .i64 d, .int .i64 er]) ?_ rfl ⟨rfl, below_set (below_set (below_set (below_set (below_set (below_set (below_set HB.out GE8.out) GE8.out) GE8.out) GE9.out) GE9.out) GE9.out) GE9.out⟩
   simp [results, Try.results34, go_sem, hn89, hn98]
attribute [local go_sem] run_store_func run_store_nilFunc
/-- the signs that a place has -/
def csigns (n : Nat) (s o m d : Int) : Int × Int := if n = 90 then (s, d) else if n = 91 then (d, s) else if n = 92 then (0, d) else if n = 93 then (wrap64 (-m), d) else if n = 95 then (mx 0 (wrap64 (-s)), wrap64 (-d)) else (mx 0 (wrap64 (-m)), d)
def cuts_Signs.f (k : Nat) (a0 a1 a2_0 a2_1 : Int) : Option (Int × Int × Int) := (cuts_find.f k a0 a1 a2_0 a2_1).bind fun t => some (if t.2.2.2.2 = 0 then ((csigns (cno a1) t.1 t.2.1 t.2.2.1 t.2.2.2.1).1, (csigns (cno a1) t.1 t.2.1 t.2.2.1 t.2.2.2.1).2, 0) else (0, 0, t.2.2.2.2))
theorem cno_cases (fn : Int) : cno fn = 90 ∨ cno fn = 91 ∨ cno fn = 92 ∨ cno fn = 93 ∨ cno fn = 95 ∨ cno fn = 96 := by
 unfold cno
 repeat' split
 all_goals simp
theorem cuts_find.ok {k : Nat} {a0 a1 a2_0 a2_1 s o m d : Int} (h : cuts_find.f k a0 a1 a2_0 a2_1 = some (s, o, m, d, 0)) : cis a1 = true := by
 unfold cuts_find.f at h
 obtain ⟨e0, A1, h⟩ := Option.bind_eq_some_iff.mp h
 by_cases he : e0 = 0
 ·rw [if_pos he] at h
  cases hcis : cis a1
  ·rw [hcis, if_neg (by decide)] at h
   simp only [Option.some.injEq, Prod.mk.injEq] at h
   exact absurd h.2.2.2.2 (by decide)
  ·rfl
 ·rw [if_neg he] at h
  simp only [Option.some.injEq, Prod.mk.injEq] at h
  exact absurd h.2.2.2.2 he
set_option maxHeartbeats 4000000 in
set_option maxRecDepth 100000 in
theorem cuts_Signs.calls (k : Nat) (a0 a1 a2_0 a2_1 : Int) (r1 r2 r3 : Int) (w : World) (h : cuts_Signs.f k a0 a1 a2_0 a2_1 = some (r1, r2, r3)) : Calls Try.prog 35 #[.int .u8 a0, .int .u8 a1, .agg #[.int .u64 a2_0, .int .u64 a2_1]] w fun e w' => e = .returned (.tuple #[.int .i64 r1, .int .i64 r2, .int .i64 r3]) ∧ Below w.heap.size w w' := by
 have hu25 := Try.underlying25
 have hu54 := Try.underlying54
 have HB := A0_ (Below.refl w.heap.size w)
 unfold cuts_Signs.f at h
 obtain ⟨⟨s, o, m, d, er⟩, A1, h⟩ := Option.bind_eq_some_iff.mp h
 have A1 := A0_ A1
 simp only at h
 by_cases c : er = 0
 rotate_left
 ·have c7 : (er != 0) = true := bne_iff_ne.mpr c
  rw [if_neg c] at h
  simp only [Option.some.injEq, Prod.mk.injEq] at h
  obtain ⟨rfl, rfl, rfl⟩ := h
  clear c
  go_enter Try.func35, Try.ntmps35
  go_wp2_with (first | ((with_reducible refine gate_dst (N := 5) rfl ?_); refine box_event ?hg (N := 5) ?hd (cs := #[.int .u64 a2_0, .int .u64 a2_1]) (t := 25) ?hr ?_; (case hd => rfl); (case hg => rfl); (case hr => first | (go_simp; done) | (go_simp; rfl)); intro gb5 hg w5 hbox hb;  have BK5 := A0_ hbox; have GE5 := A0_ ((by rw [hg]; exact (below_size (qm_ HB.out))) : w.heap.size ≤ gb5); replace HB := hs_ hb; clear hb hbox hg; have hcz5 := bc2_ BK5.out))
  refine (cuts_find.calls k a0 a1 a2_0 a2_1 _ _ _ _ _ _ A1.out).mono ?_
  rintro e wf ⟨A_, n_, c_, p_, fv, rfl, hz, hfv, hb⟩
  replace HB := A0_ (below_step HB.out hb)
  clear hcz5 hb
  have HZ := A0_ hz
  clear hz
  rcases hfv with rfl | ⟨j, rfl⟩
  ·go_wp2_with (first | ((with_reducible refine gate_dst (N := 9) rfl ?_); refine box_event ?hg (N := 9) ?hd (cs := #[.slice none 0 0, .int .u8 0, .nilFunc]) (t := 94) ?hr ?_; (case hd => rfl); (case hg => rfl); (case hr => first | (go_simp; done) | (go_simp; rfl)); intro gb8 hg w8 hbox hb;  have BK8 := A0_ hbox; have GE8 := A0_ ((by rw [hg]; exact (below_size (qm_ HB.out))) : w.heap.size ≤ gb8); replace HB := hs_ hb; clear hb hbox hg) | ((with_reducible refine gate_dst (N := 10) rfl ?_); refine box_event ?hg (N := 10) ?hd (cs := #[.int .i64 0, .int .i64 0, .int .i64 0, .int .i64 0]) (t := 96) ?hr ?_; (case hd => rfl); (case hg => rfl); (case hr => first | (go_simp; done) | (go_simp; rfl)); intro gb9 hg w9 hbox hb; have nb_ := A0_ (blk_below BK8.out hb); clear BK8; have BK8 := nb_; clear nb_; have BK9 := A0_ hbox; have GE9 := A0_ ((by rw [hg]; exact (below_size (qm_ HB.out))) : w.heap.size ≤ gb9); replace HB := hs_ hb; clear hb hbox hg; have hn89 : gb8 ≠ gb9 := blk_ne BK8.out BK9.out (by decide); have hn98 := Ne.symm hn89; have hcz8_0 : w9.cell? ⟨gb8, 0, none⟩ = some (.slice none 0 0) := (blk_cell BK8.out 0).trans rfl; have hfz8_0 := blk_frozen BK8.out 0; have hcz8_1 : w9.cell? ⟨gb8, 1, none⟩ = some (.int .u8 0) := (blk_cell BK8.out 1).trans rfl; have hfz8_1 := blk_frozen BK8.out 1; have hcz8_2 : w9.cell? ⟨gb8, 2, none⟩ = some (.nilFunc) := (blk_cell BK8.out 2).trans rfl; have hfz8_2 := blk_frozen BK8.out 2;have hcz9_0 : w9.cell? ⟨gb9, 0, none⟩ = some (.int .i64 0) := (blk_cell BK9.out 0).trans rfl; have hfz9_0 := blk_frozen BK9.out 0; have hcz9_1 : w9.cell? ⟨gb9, 1, none⟩ = some (.int .i64 0) := (blk_cell BK9.out 1).trans rfl; have hfz9_1 := blk_frozen BK9.out 1; have hcz9_2 : w9.cell? ⟨gb9, 2, none⟩ = some (.int .i64 0) := (blk_cell BK9.out 2).trans rfl; have hfz9_2 := blk_frozen BK9.out 2; have hcz9_3 : w9.cell? ⟨gb9, 3, none⟩ = some (.int .i64 0) := (blk_cell BK9.out 3).trans rfl; have hfz9_3 := blk_frozen BK9.out 3;))
   refine bodyPost_ret (v := .tuple #[.int .i64 0, .int .i64 0, .int .i64 er]) ?_ rfl ⟨rfl, below_set (below_set (below_set (below_set (below_set (below_set (below_set HB.out GE8.out) GE8.out) GE8.out) GE9.out) GE9.out) GE9.out) GE9.out⟩
   simp [results, Try.results35, go_sem, hn89, hn98]
  ·go_wp2_with (first | ((with_reducible refine gate_dst (N := 9) rfl ?_); refine box_event ?hg (N := 9) ?hd (cs := #[.slice none 0 0, .int .u8 0, .nilFunc]) (t := 94) ?hr ?_; (case hd => rfl); (case hg => rfl); (case hr => first | (go_simp; done) | (go_simp; rfl)); intro gb8 hg w8 hbox hb;  have BK8 := A0_ hbox; have GE8 := A0_ ((by rw [hg]; exact (below_size (qm_ HB.out))) : w.heap.size ≤ gb8); replace HB := hs_ hb; clear hb hbox hg) | ((with_reducible refine gate_dst (N := 10) rfl ?_); refine box_event ?hg (N := 10) ?hd (cs := #[.int .i64 0, .int .i64 0, .int .i64 0, .int .i64 0]) (t := 96) ?hr ?_; (case hd => rfl); (case hg => rfl); (case hr => first | (go_simp; done) | (go_simp; rfl)); intro gb9 hg w9 hbox hb; have nb_ := A0_ (blk_below BK8.out hb); clear BK8; have BK8 := nb_; clear nb_; have BK9 := A0_ hbox; have GE9 := A0_ ((by rw [hg]; exact (below_size (qm_ HB.out))) : w.heap.size ≤ gb9); replace HB := hs_ hb; clear hb hbox hg; have hn89 : gb8 ≠ gb9 := blk_ne BK8.out BK9.out (by decide); have hn98 := Ne.symm hn89; have hcz8_0 : w9.cell? ⟨gb8, 0, none⟩ = some (.slice none 0 0) := (blk_cell BK8.out 0).trans rfl; have hfz8_0 := blk_frozen BK8.out 0; have hcz8_1 : w9.cell? ⟨gb8, 1, none⟩ = some (.int .u8 0) := (blk_cell BK8.out 1).trans rfl; have hfz8_1 := blk_frozen BK8.out 1; have hcz8_2 : w9.cell? ⟨gb8, 2, none⟩ = some (.nilFunc) := (blk_cell BK8.out 2).trans rfl; have hfz8_2 := blk_frozen BK8.out 2;have hcz9_0 : w9.cell? ⟨gb9, 0, none⟩ = some (.int .i64 0) := (blk_cell BK9.out 0).trans rfl; have hfz9_0 := blk_frozen BK9.out 0; have hcz9_1 : w9.cell? ⟨gb9, 1, none⟩ = some (.int .i64 0) := (blk_cell BK9.out 1).trans rfl; have hfz9_1 := blk_frozen BK9.out 1; have hcz9_2 : w9.cell? ⟨gb9, 2, none⟩ = some (.int .i64 0) := (blk_cell BK9.out 2).trans rfl; have hfz9_2 := blk_frozen BK9.out 2; have hcz9_3 : w9.cell? ⟨gb9, 3, none⟩ = some (.int .i64 0) := (blk_cell BK9.out 3).trans rfl; have hfz9_3 := blk_frozen BK9.out 3;))
   refine bodyPost_ret (v := .tuple #[.int .i64 0, .int .i64 0, .int .i64 er]) ?_ rfl ⟨rfl, below_set (below_set (below_set (below_set (below_set (below_set (below_set HB.out GE8.out) GE8.out) GE8.out) GE9.out) GE9.out) GE9.out) GE9.out⟩
   simp [results, Try.results35, go_sem, hn89, hn98]
 ·subst c
  have hcis : cis a1 = true := cuts_find.ok A1.out
  rw [if_pos rfl] at h
  simp only [Option.some.injEq, Prod.mk.injEq] at h
  obtain ⟨h1, h2, h3⟩ := h
  subst h3
  go_enter Try.func35, Try.ntmps35
  go_wp2_with (first | ((with_reducible refine gate_dst (N := 5) rfl ?_); refine box_event ?hg (N := 5) ?hd (cs := #[.int .u64 a2_0, .int .u64 a2_1]) (t := 25) ?hr ?_; (case hd => rfl); (case hg => rfl); (case hr => first | (go_simp; done) | (go_simp; rfl)); intro gb5 hg w5 hbox hb;  have BK5 := A0_ hbox; have GE5 := A0_ ((by rw [hg]; exact (below_size (qm_ HB.out))) : w.heap.size ≤ gb5); replace HB := hs_ hb; clear hb hbox hg; have hcz5 := bc2_ BK5.out))
  refine (cuts_find.calls k a0 a1 a2_0 a2_1 _ _ _ _ _ _ A1.out).mono ?_
  rintro e wf ⟨A_, n_, c_, p_, fv, rfl, hz, hfv, hb⟩
  replace HB := A0_ (below_step HB.out hb)
  clear hcz5 hb
  have HZ := A0_ hz
  clear hz
  have hfv := HZ.out rfl
  rw [show csig a1 = .func (Fn.func (cno a1)) #[] #[] from by unfold csig; rw [hcis]; rfl] at hfv
  subst hfv
  clear HZ
  rcases cno_cases a1 with hn | hn | hn | hn | hn | hn
  ·rw [hn]
   go_wp2_with (first | ((with_reducible refine gate_dst (N := 9) rfl ?_); refine box_event ?hg (N := 9) ?hd (cs := #[.slice none 0 0, .int .u8 0, .nilFunc]) (t := 94) ?hr ?_; (case hd => rfl); (case hg => rfl); (case hr => first | (go_simp; done) | (go_simp; rfl)); intro gb8 hg w8 hbox hb;  have BK8 := A0_ hbox; have GE8 := A0_ ((by rw [hg]; exact (below_size (qm_ HB.out))) : w.heap.size ≤ gb8); replace HB := hs_ hb; clear hb hbox hg) | ((with_reducible refine gate_dst (N := 10) rfl ?_); refine box_event ?hg (N := 10) ?hd (cs := #[.int .i64 0, .int .i64 0, .int .i64 0, .int .i64 0]) (t := 96) ?hr ?_; (case hd => rfl); (case hg => rfl); (case hr => first | (go_simp; done) | (go_simp; rfl)); intro gb9 hg w9 hbox hb; have nb_ := A0_ (blk_below BK8.out hb); clear BK8; have BK8 := nb_; clear nb_; have BK9 := A0_ hbox; have GE9 := A0_ ((by rw [hg]; exact (below_size (qm_ HB.out))) : w.heap.size ≤ gb9); replace HB := hs_ hb; clear hb hbox hg; have hn89 : gb8 ≠ gb9 := blk_ne BK8.out BK9.out (by decide); have hn98 := Ne.symm hn89; have hcz8_0 : w9.cell? ⟨gb8, 0, none⟩ = some (.slice none 0 0) := (blk_cell BK8.out 0).trans rfl; have hfz8_0 := blk_frozen BK8.out 0; have hcz8_1 : w9.cell? ⟨gb8, 1, none⟩ = some (.int .u8 0) := (blk_cell BK8.out 1).trans rfl; have hfz8_1 := blk_frozen BK8.out 1; have hcz8_2 : w9.cell? ⟨gb8, 2, none⟩ = some (.nilFunc) := (blk_cell BK8.out 2).trans rfl; have hfz8_2 := blk_frozen BK8.out 2;have hcz9_0 : w9.cell? ⟨gb9, 0, none⟩ = some (.int .i64 0) := (blk_cell BK9.out 0).trans rfl; have hfz9_0 := blk_frozen BK9.out 0; have hcz9_1 : w9.cell? ⟨gb9, 1, none⟩ = some (.int .i64 0) := (blk_cell BK9.out 1).trans rfl; have hfz9_1 := blk_frozen BK9.out 1; have hcz9_2 : w9.cell? ⟨gb9, 2, none⟩ = some (.int .i64 0) := (blk_cell BK9.out 2).trans rfl; have hfz9_2 := blk_frozen BK9.out 2; have hcz9_3 : w9.cell? ⟨gb9, 3, none⟩ = some (.int .i64 0) := (blk_cell BK9.out 3).trans rfl; have hfz9_3 := blk_frozen BK9.out 3;) | (go_at_call 90; (with_reducible refine (cuts_table_1.calls s o m d _ _ _ rfl).mono ?_); rintro e wq ⟨rfl, hb⟩; have n1_ := A0_ (below_step (below_set (below_set (below_set (below_set (below_set (below_set (below_set HB.out GE8.out) GE8.out) GE8.out) GE9.out) GE9.out) GE9.out) GE9.out) hb); clear HB; have HB := n1_; clear n1_ hb))
   refine bodyPost_ret (v := .tuple #[.int .i64 (s), .int .i64 (d), .int .i64 0]) ?_ rfl ⟨by rw [← h1, ← h2, hn]; rfl, HB.out⟩
   simp [results, Try.results35, go_sem]
  ·rw [hn]
   go_wp2_with (first | ((with_reducible refine gate_dst (N := 9) rfl ?_); refine box_event ?hg (N := 9) ?hd (cs := #[.slice none 0 0, .int .u8 0, .nilFunc]) (t := 94) ?hr ?_; (case hd => rfl); (case hg => rfl); (case hr => first | (go_simp; done) | (go_simp; rfl)); intro gb8 hg w8 hbox hb;  have BK8 := A0_ hbox; have GE8 := A0_ ((by rw [hg]; exact (below_size (qm_ HB.out))) : w.heap.size ≤ gb8); replace HB := hs_ hb; clear hb hbox hg) | ((with_reducible refine gate_dst (N := 10) rfl ?_); refine box_event ?hg (N := 10) ?hd (cs := #[.int .i64 0, .int .i64 0, .int .i64 0, .int .i64 0]) (t := 96) ?hr ?_; (case hd => rfl); (case hg => rfl); (case hr => first | (go_simp; done) | (go_simp; rfl)); intro gb9 hg w9 hbox hb; have nb_ := A0_ (blk_below BK8.out hb); clear BK8; have BK8 := nb_; clear nb_; have BK9 := A0_ hbox; have GE9 := A0_ ((by rw [hg]; exact (below_size (qm_ HB.out))) : w.heap.size ≤ gb9); replace HB := hs_ hb; clear hb hbox hg; have hn89 : gb8 ≠ gb9 := blk_ne BK8.out BK9.out (by decide); have hn98 := Ne.symm hn89; have hcz8_0 : w9.cell? ⟨gb8, 0, none⟩ = some (.slice none 0 0) := (blk_cell BK8.out 0).trans rfl; have hfz8_0 := blk_frozen BK8.out 0; have hcz8_1 : w9.cell? ⟨gb8, 1, none⟩ = some (.int .u8 0) := (blk_cell BK8.out 1).trans rfl; have hfz8_1 := blk_frozen BK8.out 1; have hcz8_2 : w9.cell? ⟨gb8, 2, none⟩ = some (.nilFunc) := (blk_cell BK8.out 2).trans rfl; have hfz8_2 := blk_frozen BK8.out 2;have hcz9_0 : w9.cell? ⟨gb9, 0, none⟩ = some (.int .i64 0) := (blk_cell BK9.out 0).trans rfl; have hfz9_0 := blk_frozen BK9.out 0; have hcz9_1 : w9.cell? ⟨gb9, 1, none⟩ = some (.int .i64 0) := (blk_cell BK9.out 1).trans rfl; have hfz9_1 := blk_frozen BK9.out 1; have hcz9_2 : w9.cell? ⟨gb9, 2, none⟩ = some (.int .i64 0) := (blk_cell BK9.out 2).trans rfl; have hfz9_2 := blk_frozen BK9.out 2; have hcz9_3 : w9.cell? ⟨gb9, 3, none⟩ = some (.int .i64 0) := (blk_cell BK9.out 3).trans rfl; have hfz9_3 := blk_frozen BK9.out 3;) | (go_at_call 91; (with_reducible refine (cuts_table_2.calls s o m d _ _ _ rfl).mono ?_); rintro e wq ⟨rfl, hb⟩; have n1_ := A0_ (below_step (below_set (below_set (below_set (below_set (below_set (below_set (below_set HB.out GE8.out) GE8.out) GE8.out) GE9.out) GE9.out) GE9.out) GE9.out) hb); clear HB; have HB := n1_; clear n1_ hb))
   refine bodyPost_ret (v := .tuple #[.int .i64 (d), .int .i64 (s), .int .i64 0]) ?_ rfl ⟨by rw [← h1, ← h2, hn]; rfl, HB.out⟩
   simp [results, Try.results35, go_sem]
  ·rw [hn]
   go_wp2_with (first | ((with_reducible refine gate_dst (N := 9) rfl ?_); refine box_event ?hg (N := 9) ?hd (cs := #[.slice none 0 0, .int .u8 0, .nilFunc]) (t := 94) ?hr ?_; (case hd => rfl); (case hg => rfl); (case hr => first | (go_simp; done) | (go_simp; rfl)); intro gb8 hg w8 hbox hb;  have BK8 := A0_ hbox; have GE8 := A0_ ((by rw [hg]; exact (below_size (qm_ HB.out))) : w.heap.size ≤ gb8); replace HB := hs_ hb; clear hb hbox hg) | ((with_reducible refine gate_dst (N := 10) rfl ?_); refine box_event ?hg (N := 10) ?hd (cs := #[.int .i64 0, .int .i64 0, .int .i64 0, .int .i64 0]) (t := 96) ?hr ?_; (case hd => rfl); (case hg => rfl); (case hr => first | (go_simp; done) | (go_simp; rfl)); intro gb9 hg w9 hbox hb; have nb_ := A0_ (blk_below BK8.out hb); clear BK8; have BK8 := nb_; clear nb_; have BK9 := A0_ hbox; have GE9 := A0_ ((by rw [hg]; exact (below_size (qm_ HB.out))) : w.heap.size ≤ gb9); replace HB := hs_ hb; clear hb hbox hg; have hn89 : gb8 ≠ gb9 := blk_ne BK8.out BK9.out (by decide); have hn98 := Ne.symm hn89; have hcz8_0 : w9.cell? ⟨gb8, 0, none⟩ = some (.slice none 0 0) := (blk_cell BK8.out 0).trans rfl; have hfz8_0 := blk_frozen BK8.out 0; have hcz8_1 : w9.cell? ⟨gb8, 1, none⟩ = some (.int .u8 0) := (blk_cell BK8.out 1).trans rfl; have hfz8_1 := blk_frozen BK8.out 1; have hcz8_2 : w9.cell? ⟨gb8, 2, none⟩ = some (.nilFunc) := (blk_cell BK8.out 2).trans rfl; have hfz8_2 := blk_frozen BK8.out 2;have hcz9_0 : w9.cell? ⟨gb9, 0, none⟩ = some (.int .i64 0) := (blk_cell BK9.out 0).trans rfl; have hfz9_0 := blk_frozen BK9.out 0; have hcz9_1 : w9.cell? ⟨gb9, 1, none⟩ = some (.int .i64 0) := (blk_cell BK9.out 1).trans rfl; have hfz9_1 := blk_frozen BK9.out 1; have hcz9_2 : w9.cell? ⟨gb9, 2, none⟩ = some (.int .i64 0) := (blk_cell BK9.out 2).trans rfl; have hfz9_2 := blk_frozen BK9.out 2; have hcz9_3 : w9.cell? ⟨gb9, 3, none⟩ = some (.int .i64 0) := (blk_cell BK9.out 3).trans rfl; have hfz9_3 := blk_frozen BK9.out 3;) | (go_at_call 92; (with_reducible refine (cuts_table_3.calls s o m d _ _ _ rfl).mono ?_); rintro e wq ⟨rfl, hb⟩; have n1_ := A0_ (below_step (below_set (below_set (below_set (below_set (below_set (below_set (below_set HB.out GE8.out) GE8.out) GE8.out) GE9.out) GE9.out) GE9.out) GE9.out) hb); clear HB; have HB := n1_; clear n1_ hb))
   refine bodyPost_ret (v := .tuple #[.int .i64 (0), .int .i64 (d), .int .i64 0]) ?_ rfl ⟨by rw [← h1, ← h2, hn]; rfl, HB.out⟩
   simp [results, Try.results35, go_sem]
  ·rw [hn]
   go_wp2_with (first | ((with_reducible refine gate_dst (N := 9) rfl ?_); refine box_event ?hg (N := 9) ?hd (cs := #[.slice none 0 0, .int .u8 0, .nilFunc]) (t := 94) ?hr ?_; (case hd => rfl); (case hg => rfl); (case hr => first | (go_simp; done) | (go_simp; rfl)); intro gb8 hg w8 hbox hb;  have BK8 := A0_ hbox; have GE8 := A0_ ((by rw [hg]; exact (below_size (qm_ HB.out))) : w.heap.size ≤ gb8); replace HB := hs_ hb; clear hb hbox hg) | ((with_reducible refine gate_dst (N := 10) rfl ?_); refine box_event ?hg (N := 10) ?hd (cs := #[.int .i64 0, .int .i64 0, .int .i64 0, .int .i64 0]) (t := 96) ?hr ?_; (case hd => rfl); (case hg => rfl); (case hr => first | (go_simp; done) | (go_simp; rfl)); intro gb9 hg w9 hbox hb; have nb_ := A0_ (blk_below BK8.out hb); clear BK8; have BK8 := nb_; clear nb_; have BK9 := A0_ hbox; have GE9 := A0_ ((by rw [hg]; exact (below_size (qm_ HB.out))) : w.heap.size ≤ gb9); replace HB := hs_ hb; clear hb hbox hg; have hn89 : gb8 ≠ gb9 := blk_ne BK8.out BK9.out (by decide); have hn98 := Ne.symm hn89; have hcz8_0 : w9.cell? ⟨gb8, 0, none⟩ = some (.slice none 0 0) := (blk_cell BK8.out 0).trans rfl; have hfz8_0 := blk_frozen BK8.out 0; have hcz8_1 : w9.cell? ⟨gb8, 1, none⟩ = some (.int .u8 0) := (blk_cell BK8.out 1).trans rfl; have hfz8_1 := blk_frozen BK8.out 1; have hcz8_2 : w9.cell? ⟨gb8, 2, none⟩ = some (.nilFunc) := (blk_cell BK8.out 2).trans rfl; have hfz8_2 := blk_frozen BK8.out 2;have hcz9_0 : w9.cell? ⟨gb9, 0, none⟩ = some (.int .i64 0) := (blk_cell BK9.out 0).trans rfl; have hfz9_0 := blk_frozen BK9.out 0; have hcz9_1 : w9.cell? ⟨gb9, 1, none⟩ = some (.int .i64 0) := (blk_cell BK9.out 1).trans rfl; have hfz9_1 := blk_frozen BK9.out 1; have hcz9_2 : w9.cell? ⟨gb9, 2, none⟩ = some (.int .i64 0) := (blk_cell BK9.out 2).trans rfl; have hfz9_2 := blk_frozen BK9.out 2; have hcz9_3 : w9.cell? ⟨gb9, 3, none⟩ = some (.int .i64 0) := (blk_cell BK9.out 3).trans rfl; have hfz9_3 := blk_frozen BK9.out 3;) | (go_at_call 93; (with_reducible refine (cuts_table_4.calls s o m d _ _ _ rfl).mono ?_); rintro e wq ⟨rfl, hb⟩; have n1_ := A0_ (below_step (below_set (below_set (below_set (below_set (below_set (below_set (below_set HB.out GE8.out) GE8.out) GE8.out) GE9.out) GE9.out) GE9.out) GE9.out) hb); clear HB; have HB := n1_; clear n1_ hb))
   refine bodyPost_ret (v := .tuple #[.int .i64 (wrap64 (-m)), .int .i64 (d), .int .i64 0]) ?_ rfl ⟨by rw [← h1, ← h2, hn]; rfl, HB.out⟩
   simp [results, Try.results35, go_sem]
  ·rw [hn]
   go_wp2_with (first | ((with_reducible refine gate_dst (N := 9) rfl ?_); refine box_event ?hg (N := 9) ?hd (cs := #[.slice none 0 0, .int .u8 0, .nilFunc]) (t := 94) ?hr ?_; (case hd => rfl); (case hg => rfl); (case hr => first | (go_simp; done) | (go_simp; rfl)); intro gb8 hg w8 hbox hb;  have BK8 := A0_ hbox; have GE8 := A0_ ((by rw [hg]; exact (below_size (qm_ HB.out))) : w.heap.size ≤ gb8); replace HB := hs_ hb; clear hb hbox hg) | ((with_reducible refine gate_dst (N := 10) rfl ?_); refine box_event ?hg (N := 10) ?hd (cs := #[.int .i64 0, .int .i64 0, .int .i64 0, .int .i64 0]) (t := 96) ?hr ?_; (case hd => rfl); (case hg => rfl); (case hr => first | (go_simp; done) | (go_simp; rfl)); intro gb9 hg w9 hbox hb; have nb_ := A0_ (blk_below BK8.out hb); clear BK8; have BK8 := nb_; clear nb_; have BK9 := A0_ hbox; have GE9 := A0_ ((by rw [hg]; exact (below_size (qm_ HB.out))) : w.heap.size ≤ gb9); replace HB := hs_ hb; clear hb hbox hg; have hn89 : gb8 ≠ gb9 := blk_ne BK8.out BK9.out (by decide); have hn98 := Ne.symm hn89; have hcz8_0 : w9.cell? ⟨gb8, 0, none⟩ = some (.slice none 0 0) := (blk_cell BK8.out 0).trans rfl; have hfz8_0 := blk_frozen BK8.out 0; have hcz8_1 : w9.cell? ⟨gb8, 1, none⟩ = some (.int .u8 0) := (blk_cell BK8.out 1).trans rfl; have hfz8_1 := blk_frozen BK8.out 1; have hcz8_2 : w9.cell? ⟨gb8, 2, none⟩ = some (.nilFunc) := (blk_cell BK8.out 2).trans rfl; have hfz8_2 := blk_frozen BK8.out 2;have hcz9_0 : w9.cell? ⟨gb9, 0, none⟩ = some (.int .i64 0) := (blk_cell BK9.out 0).trans rfl; have hfz9_0 := blk_frozen BK9.out 0; have hcz9_1 : w9.cell? ⟨gb9, 1, none⟩ = some (.int .i64 0) := (blk_cell BK9.out 1).trans rfl; have hfz9_1 := blk_frozen BK9.out 1; have hcz9_2 : w9.cell? ⟨gb9, 2, none⟩ = some (.int .i64 0) := (blk_cell BK9.out 2).trans rfl; have hfz9_2 := blk_frozen BK9.out 2; have hcz9_3 : w9.cell? ⟨gb9, 3, none⟩ = some (.int .i64 0) := (blk_cell BK9.out 3).trans rfl; have hfz9_3 := blk_frozen BK9.out 3;) | (go_at_call 95; (with_reducible refine (cuts_table_5.calls s o m d _ _ _ rfl).mono ?_); rintro e wq ⟨rfl, hb⟩; have n1_ := A0_ (below_step (below_set (below_set (below_set (below_set (below_set (below_set (below_set HB.out GE8.out) GE8.out) GE8.out) GE9.out) GE9.out) GE9.out) GE9.out) hb); clear HB; have HB := n1_; clear n1_ hb))
   refine bodyPost_ret (v := .tuple #[.int .i64 (mx 0 (wrap64 (-s))), .int .i64 (wrap64 (-d)), .int .i64 0]) ?_ rfl ⟨by rw [← h1, ← h2, hn]; rfl, HB.out⟩
   simp [results, Try.results35, go_sem]
  ·rw [hn]
   go_wp2_with (first | ((with_reducible refine gate_dst (N := 9) rfl ?_); refine box_event ?hg (N := 9) ?hd (cs := #[.slice none 0 0, .int .u8 0, .nilFunc]) (t := 94) ?hr ?_; (case hd => rfl); (case hg => rfl); (case hr => first | (go_simp; done) | (go_simp; rfl)); intro gb8 hg w8 hbox hb;  have BK8 := A0_ hbox; have GE8 := A0_ ((by rw [hg]; exact (below_size (qm_ HB.out))) : w.heap.size ≤ gb8); replace HB := hs_ hb; clear hb hbox hg) | ((with_reducible refine gate_dst (N := 10) rfl ?_); refine box_event ?hg (N := 10) ?hd (cs := #[.int .i64 0, .int .i64 0, .int .i64 0, .int .i64 0]) (t := 96) ?hr ?_; (case hd => rfl); (case hg => rfl); (case hr => first | (go_simp; done) | (go_simp; rfl)); intro gb9 hg w9 hbox hb; have nb_ := A0_ (blk_below BK8.out hb); clear BK8; have BK8 := nb_; clear nb_; have BK9 := A0_ hbox; have GE9 := A0_ ((by rw [hg]; exact (below_size (qm_ HB.out))) : w.heap.size ≤ gb9); replace HB := hs_ hb; clear hb hbox hg; have hn89 : gb8 ≠ gb9 := blk_ne BK8.out BK9.out (by decide); have hn98 := Ne.symm hn89; have hcz8_0 : w9.cell? ⟨gb8, 0, none⟩ = some (.slice none 0 0) := (blk_cell BK8.out 0).trans rfl; have hfz8_0 := blk_frozen BK8.out 0; have hcz8_1 : w9.cell? ⟨gb8, 1, none⟩ = some (.int .u8 0) := (blk_cell BK8.out 1).trans rfl; have hfz8_1 := blk_frozen BK8.out 1; have hcz8_2 : w9.cell? ⟨gb8, 2, none⟩ = some (.nilFunc) := (blk_cell BK8.out 2).trans rfl; have hfz8_2 := blk_frozen BK8.out 2;have hcz9_0 : w9.cell? ⟨gb9, 0, none⟩ = some (.int .i64 0) := (blk_cell BK9.out 0).trans rfl; have hfz9_0 := blk_frozen BK9.out 0; have hcz9_1 : w9.cell? ⟨gb9, 1, none⟩ = some (.int .i64 0) := (blk_cell BK9.out 1).trans rfl; have hfz9_1 := blk_frozen BK9.out 1; have hcz9_2 : w9.cell? ⟨gb9, 2, none⟩ = some (.int .i64 0) := (blk_cell BK9.out 2).trans rfl; have hfz9_2 := blk_frozen BK9.out 2; have hcz9_3 : w9.cell? ⟨gb9, 3, none⟩ = some (.int .i64 0) := (blk_cell BK9.out 3).trans rfl; have hfz9_3 := blk_frozen BK9.out 3;) | (go_at_call 96; (with_reducible refine (cuts_table_6.calls s o m d _ _ _ rfl).mono ?_); rintro e wq ⟨rfl, hb⟩; have n1_ := A0_ (below_step (below_set (below_set (below_set (below_set (below_set (below_set (below_set HB.out GE8.out) GE8.out) GE8.out) GE9.out) GE9.out) GE9.out) GE9.out) hb); clear HB; have HB := n1_; clear n1_ hb))
   refine bodyPost_ret (v := .tuple #[.int .i64 (mx 0 (wrap64 (-m))), .int .i64 (d), .int .i64 0]) ?_ rfl ⟨by rw [← h1, ← h2, hn]; rfl, HB.out⟩
   simp [results, Try.results35, go_sem]
def cutplaneref20_Is.f (a0 : Int) : Option (Bool) := if a0 ≥ 1 then (some (decide (a0 ≤ 15))) else (some false)
theorem cutplaneref20_Is.calls (a0 : Int) (r : Bool) (w : World) (h : cutplaneref20_Is.f a0 = some r) :
  Calls Try.prog 36 #[.int .u8 a0] w fun e w' => e = .returned (.bool r) ∧ Drawn0 w w' := by
 have H := h
 clear h
 unfold cutplaneref20_Is.f at H
 by_cases c2 : a0 ≥ 1
 ·rw [if_pos c2] at H
  have c2b0 : decide (1 ≤ a0) = true := decide_eq_true c2
  clear c2
  obtain rfl := Option.some.inj H
  go_enter Try.func36, Try.ntmps36
  go_wp2
  go_ret
  exact ⟨by first | rfl | (simp; done) | (simp [*]; done), by repeat (first | exact Drawn0.refl _ | apply Drawn0.step)⟩
 ·rw [if_neg c2] at H
  have c2b0 : decide (1 ≤ a0) = false := decide_eq_false c2
  clear c2
  obtain rfl := Option.some.inj H
  go_enter Try.func36, Try.ntmps36
  go_wp2
  go_ret
  exact ⟨by first | rfl | (simp; done) | (simp [*]; done), by repeat (first | exact Drawn0.refl _ | apply Drawn0.step)⟩
end Go.Proofs.Ytgaabjjenlbmhaa.PA
end

section
namespace Go.Proofs.Ytgaabjjenlbmhaa.PA
open Go.RowKit Go.Proofs.YtgaabjjenlbmhaaW.PrintWords Go.Proofs.YtgaabjjenlbmhaaW.PrintLast Go.Proofs.YtgaabjjenlbmhaaW.PrintMore
attribute [local go_sem] max2_int min2_int max_two min_two max_three min_three max_four min_four   -- for this text's walks alone
set_option linter.unusedVariables false
set_option linter.unusedSimpArgs false
def cutplanelaw20_known.f (k : Nat)  : Option (Bool) := (cuts_On.f k 1 1 3212836864 2147483648).bind fun bt745 => ((cuts_Side.f k 1 1 3212836864 2147483648).bind fun bt747 => ((cuts_Signs.f k 1 11 1073741824 0).bind fun bt749 => (if bt745.1 = true then (if bt745.2 = 0 then (if bt747.1 = (-1) then (if bt747.2 = 0 then (if bt749.1 = 0 then (if bt749.2.1 = (-1) then (some (bt749.2.2 == 0)) else (some false)) else (some false)) else (some false)) else (some false)) else (some false)) else (some false))))
theorem cutplanelaw20_known.calls (k : Nat)  (r : Bool) (w : World) (h : cutplanelaw20_known.f k  = some r) :
  Calls Try.prog 37 #[] w fun e w' => e = .returned (.bool r) ∧ Below w.heap.size w w' := by
 have hu25 := Try.underlying25
 have HB := A0_ (Below.refl w.heap.size w)
 have H := h
 clear h
 unfold cutplanelaw20_known.f at H
 obtain ⟨⟨t745, t746⟩, A1, H⟩ := bs_ H
 try dsimp -simprocs only at H
 obtain ⟨⟨t747, t748⟩, A2, H⟩ := bs_ H
 try dsimp -simprocs only at H
 obtain ⟨⟨t749, t750, t751⟩, A3, H⟩ := bs_ H
 try dsimp -simprocs only at H
 by_cases c4 : t745 = true
 ·subst c4
  rw [if_pos rfl] at H
  by_cases c5 : t746 = 0
  ·rw [if_pos c5] at H
   have c5b0 : (t746 == 0) = true := beq_iff_eq.mpr c5
   have c5b1 : (t746 != 0) = false := bne_eq_false_iff_eq.mpr c5
   clear c5
   by_cases c6 : t747 = (-1)
   ·rw [if_pos c6] at H
    have c6b0 : (t747 == (-1)) = true := beq_iff_eq.mpr c6
    have c6b1 : (t747 != (-1)) = false := bne_eq_false_iff_eq.mpr c6
    clear c6
    by_cases c7 : t748 = 0
    ·rw [if_pos c7] at H
     have c7b0 : (t748 == 0) = true := beq_iff_eq.mpr c7
     have c7b1 : (t748 != 0) = false := bne_eq_false_iff_eq.mpr c7
     clear c7
     by_cases c8 : t749 = 0
     ·rw [if_pos c8] at H
      have c8b0 : (t749 == 0) = true := beq_iff_eq.mpr c8
      have c8b1 : (t749 != 0) = false := bne_eq_false_iff_eq.mpr c8
      clear c8
      by_cases c9 : t750 = (-1)
      ·rw [if_pos c9] at H
       have c9b0 : (t750 == (-1)) = true := beq_iff_eq.mpr c9
       have c9b1 : (t750 != (-1)) = false := bne_eq_false_iff_eq.mpr c9
       clear c9
       obtain rfl := Option.some.inj H
       go_enter Try.func37, Try.ntmps37
       go_wp2_with (first | ((with_reducible refine gate_dst (N := 1) rfl ?_); refine box_event ?hg (N := 1) ?hd (cs := #[.int .u64 0, .int .u64 0]) (t := 25) ?hr ?_; (case hd => rfl); (case hg => rfl); (case hr => first | (go_simp; done) | (go_simp; rfl)); intro gb744 hg w10 hbox hb; have BK744 := A0_ (hbox); have GW744 := A0_ ((by rw [hg]; exact (below_size (qm_ HB.out)) : w.heap.size ≤ gb744)); have GE744 := GW744; replace HB := hs_ hb; clear hb hbox hg; have hcz11 := bc2_ BK744.out; have hfz11 := bf2_ BK744.out) | ((with_reducible refine gate_callee (f := 33) rfl ?_); refine goesL_ (some 12) rfl rfl Try.func33 (by kernel_rfl) rfl #[.int .u8 1, .int .u8 1, .agg #[.int .u64 3212836864, .int .u64 2147483648]] rfl (am_ rfl) ?_; (with_reducible refine (cuts_On.calls k 1 1 3212836864 2147483648 true t746 _ A1.out).mono ?_); rintro e w12 ⟨rfl, hb⟩; refine ⟨_, rfl, ?_⟩; replace BK744 := A0_ (blk_below (g := gb744) (o := .cells #[.int .u64 3212836864, .int .u64 2147483648] 25 (0, 0)) (by (with_reducible repeat first | apply bN_ | apply bD_ | apply bA_); refine blk_put (cs := #[.int .u64 3212836864, .int .u64 0]) ?_ 1 _ rfl; refine blk_put (cs := #[.int .u64 0, .int .u64 0]) ?_ 0 _ rfl; exact bm_ BK744.out) hb); replace HB := hs_ hb; (try clear hb); have hcz13 := bc2_ BK744.out; have hfz13 := bf2_ BK744.out) | ((with_reducible refine gate_callee (f := 34) rfl ?_); refine goesL_ (some 17) rfl rfl Try.func34 (by kernel_rfl) rfl #[.int .u8 1, .int .u8 1, .agg #[.int .u64 3212836864, .int .u64 2147483648]] rfl (am_ rfl) ?_; (with_reducible refine (cuts_Side.calls k 1 1 3212836864 2147483648 t747 t748 _ A2.out).mono ?_); rintro e w14 ⟨rfl, hb⟩; refine ⟨_, rfl, ?_⟩; replace BK744 := bb_ BK744 hb; replace HB := hs_ hb; (try clear hb)) | ((with_reducible refine gate_callee (f := 35) rfl ?_); refine goesL_ (some 22) rfl rfl Try.func35 (by kernel_rfl) rfl #[.int .u8 1, .int .u8 11, .agg #[.int .u64 1073741824, .int .u64 0]] rfl (am_ rfl) ?_; (with_reducible refine (cuts_Signs.calls k 1 11 1073741824 0 t749 t750 t751 _ A3.out).mono ?_); rintro e w15 ⟨rfl, hb⟩; refine ⟨_, rfl, ?_⟩; replace BK744 := bb_ BK744 hb; replace HB := hs_ hb; (try clear hb)))
       go_ret
       exact ⟨by first | rfl | (simp [errW_none, errW_some] <;> rfl) | (simp [*, errW_none, errW_some] <;> rfl), qz_⟩
      ·rw [if_neg c9] at H
       have c9b0 : (t750 == (-1)) = false := beq_eq_false_iff_ne.mpr c9
       have c9b1 : (t750 != (-1)) = true := bne_iff_ne.mpr c9
       obtain rfl := Option.some.inj H
       go_enter Try.func37, Try.ntmps37
       go_wp2_with (first | ((with_reducible refine gate_dst (N := 1) rfl ?_); refine box_event ?hg (N := 1) ?hd (cs := #[.int .u64 0, .int .u64 0]) (t := 25) ?hr ?_; (case hd => rfl); (case hg => rfl); (case hr => first | (go_simp; done) | (go_simp; rfl)); intro gb744 hg w16 hbox hb; have BK744 := A0_ (hbox); have GW744 := A0_ ((by rw [hg]; exact (below_size (qm_ HB.out)) : w.heap.size ≤ gb744)); have GE744 := GW744; replace HB := hs_ hb; clear hb hbox hg; have hcz17 := bc2_ BK744.out; have hfz17 := bf2_ BK744.out) | ((with_reducible refine gate_callee (f := 33) rfl ?_); refine goesL_ (some 12) rfl rfl Try.func33 (by kernel_rfl) rfl #[.int .u8 1, .int .u8 1, .agg #[.int .u64 3212836864, .int .u64 2147483648]] rfl (am_ rfl) ?_; (with_reducible refine (cuts_On.calls k 1 1 3212836864 2147483648 true t746 _ A1.out).mono ?_); rintro e w18 ⟨rfl, hb⟩; refine ⟨_, rfl, ?_⟩; replace BK744 := A0_ (blk_below (g := gb744) (o := .cells #[.int .u64 3212836864, .int .u64 2147483648] 25 (0, 0)) (by (with_reducible repeat first | apply bN_ | apply bD_ | apply bA_); refine blk_put (cs := #[.int .u64 3212836864, .int .u64 0]) ?_ 1 _ rfl; refine blk_put (cs := #[.int .u64 0, .int .u64 0]) ?_ 0 _ rfl; exact bm_ BK744.out) hb); replace HB := hs_ hb; (try clear hb); have hcz19 := bc2_ BK744.out; have hfz19 := bf2_ BK744.out) | ((with_reducible refine gate_callee (f := 34) rfl ?_); refine goesL_ (some 17) rfl rfl Try.func34 (by kernel_rfl) rfl #[.int .u8 1, .int .u8 1, .agg #[.int .u64 3212836864, .int .u64 2147483648]] rfl (am_ rfl) ?_; (with_reducible refine (cuts_Side.calls k 1 1 3212836864 2147483648 t747 t748 _ A2.out).mono ?_); rintro e w20 ⟨rfl, hb⟩; refine ⟨_, rfl, ?_⟩; replace BK744 := bb_ BK744 hb; replace HB := hs_ hb; (try clear hb)) | ((with_reducible refine gate_callee (f := 35) rfl ?_); refine goesL_ (some 22) rfl rfl Try.func35 (by kernel_rfl) rfl #[.int .u8 1, .int .u8 11, .agg #[.int .u64 1073741824, .int .u64 0]] rfl (am_ rfl) ?_; (with_reducible refine (cuts_Signs.calls k 1 11 1073741824 0 t749 t750 t751 _ A3.out).mono ?_); rintro e w21 ⟨rfl, hb⟩; refine ⟨_, rfl, ?_⟩; replace BK744 := bb_ BK744 hb; replace HB := hs_ hb; (try clear hb)))
       go_ret
       exact ⟨by first | rfl | (simp [errW_none, errW_some] <;> rfl) | (simp [*, errW_none, errW_some] <;> rfl), qz_⟩
     ·rw [if_neg c8] at H
      have c8b0 : (t749 == 0) = false := beq_eq_false_iff_ne.mpr c8
      have c8b1 : (t749 != 0) = true := bne_iff_ne.mpr c8
      obtain rfl := Option.some.inj H
      go_enter Try.func37, Try.ntmps37
      go_wp2_with (first | ((with_reducible refine gate_dst (N := 1) rfl ?_); refine box_event ?hg (N := 1) ?hd (cs := #[.int .u64 0, .int .u64 0]) (t := 25) ?hr ?_; (case hd => rfl); (case hg => rfl); (case hr => first | (go_simp; done) | (go_simp; rfl)); intro gb744 hg w22 hbox hb; have BK744 := A0_ (hbox); have GW744 := A0_ ((by rw [hg]; exact (below_size (qm_ HB.out)) : w.heap.size ≤ gb744)); have GE744 := GW744; replace HB := hs_ hb; clear hb hbox hg; have hcz23 := bc2_ BK744.out; have hfz23 := bf2_ BK744.out) | ((with_reducible refine gate_callee (f := 33) rfl ?_); refine goesL_ (some 12) rfl rfl Try.func33 (by kernel_rfl) rfl #[.int .u8 1, .int .u8 1, .agg #[.int .u64 3212836864, .int .u64 2147483648]] rfl (am_ rfl) ?_; (with_reducible refine (cuts_On.calls k 1 1 3212836864 2147483648 true t746 _ A1.out).mono ?_); rintro e w24 ⟨rfl, hb⟩; refine ⟨_, rfl, ?_⟩; replace BK744 := A0_ (blk_below (g := gb744) (o := .cells #[.int .u64 3212836864, .int .u64 2147483648] 25 (0, 0)) (by (with_reducible repeat first | apply bN_ | apply bD_ | apply bA_); refine blk_put (cs := #[.int .u64 3212836864, .int .u64 0]) ?_ 1 _ rfl; refine blk_put (cs := #[.int .u64 0, .int .u64 0]) ?_ 0 _ rfl; exact bm_ BK744.out) hb); replace HB := hs_ hb; (try clear hb); have hcz25 := bc2_ BK744.out; have hfz25 := bf2_ BK744.out) | ((with_reducible refine gate_callee (f := 34) rfl ?_); refine goesL_ (some 17) rfl rfl Try.func34 (by kernel_rfl) rfl #[.int .u8 1, .int .u8 1, .agg #[.int .u64 3212836864, .int .u64 2147483648]] rfl (am_ rfl) ?_; (with_reducible refine (cuts_Side.calls k 1 1 3212836864 2147483648 t747 t748 _ A2.out).mono ?_); rintro e w26 ⟨rfl, hb⟩; refine ⟨_, rfl, ?_⟩; replace BK744 := bb_ BK744 hb; replace HB := hs_ hb; (try clear hb)) | ((with_reducible refine gate_callee (f := 35) rfl ?_); refine goesL_ (some 22) rfl rfl Try.func35 (by kernel_rfl) rfl #[.int .u8 1, .int .u8 11, .agg #[.int .u64 1073741824, .int .u64 0]] rfl (am_ rfl) ?_; (with_reducible refine (cuts_Signs.calls k 1 11 1073741824 0 t749 t750 t751 _ A3.out).mono ?_); rintro e w27 ⟨rfl, hb⟩; refine ⟨_, rfl, ?_⟩; replace BK744 := bb_ BK744 hb; replace HB := hs_ hb; (try clear hb)))
      go_ret
      exact ⟨by first | rfl | (simp [errW_none, errW_some] <;> rfl) | (simp [*, errW_none, errW_some] <;> rfl), qz_⟩
    ·rw [if_neg c7] at H
     have c7b0 : (t748 == 0) = false := beq_eq_false_iff_ne.mpr c7
     have c7b1 : (t748 != 0) = true := bne_iff_ne.mpr c7
     obtain rfl := Option.some.inj H
     go_enter Try.func37, Try.ntmps37
     go_wp2_with (first | ((with_reducible refine gate_dst (N := 1) rfl ?_); refine box_event ?hg (N := 1) ?hd (cs := #[.int .u64 0, .int .u64 0]) (t := 25) ?hr ?_; (case hd => rfl); (case hg => rfl); (case hr => first | (go_simp; done) | (go_simp; rfl)); intro gb744 hg w28 hbox hb; have BK744 := A0_ (hbox); have GW744 := A0_ ((by rw [hg]; exact (below_size (qm_ HB.out)) : w.heap.size ≤ gb744)); have GE744 := GW744; replace HB := hs_ hb; clear hb hbox hg; have hcz29 := bc2_ BK744.out; have hfz29 := bf2_ BK744.out) | ((with_reducible refine gate_callee (f := 33) rfl ?_); refine goesL_ (some 12) rfl rfl Try.func33 (by kernel_rfl) rfl #[.int .u8 1, .int .u8 1, .agg #[.int .u64 3212836864, .int .u64 2147483648]] rfl (am_ rfl) ?_; (with_reducible refine (cuts_On.calls k 1 1 3212836864 2147483648 true t746 _ A1.out).mono ?_); rintro e w30 ⟨rfl, hb⟩; refine ⟨_, rfl, ?_⟩; replace BK744 := A0_ (blk_below (g := gb744) (o := .cells #[.int .u64 3212836864, .int .u64 2147483648] 25 (0, 0)) (by (with_reducible repeat first | apply bN_ | apply bD_ | apply bA_); refine blk_put (cs := #[.int .u64 3212836864, .int .u64 0]) ?_ 1 _ rfl; refine blk_put (cs := #[.int .u64 0, .int .u64 0]) ?_ 0 _ rfl; exact bm_ BK744.out) hb); replace HB := hs_ hb; (try clear hb); have hcz31 := bc2_ BK744.out; have hfz31 := bf2_ BK744.out) | ((with_reducible refine gate_callee (f := 34) rfl ?_); refine goesL_ (some 17) rfl rfl Try.func34 (by kernel_rfl) rfl #[.int .u8 1, .int .u8 1, .agg #[.int .u64 3212836864, .int .u64 2147483648]] rfl (am_ rfl) ?_; (with_reducible refine (cuts_Side.calls k 1 1 3212836864 2147483648 t747 t748 _ A2.out).mono ?_); rintro e w32 ⟨rfl, hb⟩; refine ⟨_, rfl, ?_⟩; replace BK744 := bb_ BK744 hb; replace HB := hs_ hb; (try clear hb)) | ((with_reducible refine gate_callee (f := 35) rfl ?_); refine goesL_ (some 22) rfl rfl Try.func35 (by kernel_rfl) rfl #[.int .u8 1, .int .u8 11, .agg #[.int .u64 1073741824, .int .u64 0]] rfl (am_ rfl) ?_; (with_reducible refine (cuts_Signs.calls k 1 11 1073741824 0 t749 t750 t751 _ A3.out).mono ?_); rintro e w33 ⟨rfl, hb⟩; refine ⟨_, rfl, ?_⟩; replace BK744 := bb_ BK744 hb; replace HB := hs_ hb; (try clear hb)))
     go_ret
     exact ⟨by first | rfl | (simp [errW_none, errW_some] <;> rfl) | (simp [*, errW_none, errW_some] <;> rfl), qz_⟩
   ·rw [if_neg c6] at H
    have c6b0 : (t747 == (-1)) = false := beq_eq_false_iff_ne.mpr c6
    have c6b1 : (t747 != (-1)) = true := bne_iff_ne.mpr c6
    obtain rfl := Option.some.inj H
    go_enter Try.func37, Try.ntmps37
    go_wp2_with (first | ((with_reducible refine gate_dst (N := 1) rfl ?_); refine box_event ?hg (N := 1) ?hd (cs := #[.int .u64 0, .int .u64 0]) (t := 25) ?hr ?_; (case hd => rfl); (case hg => rfl); (case hr => first | (go_simp; done) | (go_simp; rfl)); intro gb744 hg w34 hbox hb; have BK744 := A0_ (hbox); have GW744 := A0_ ((by rw [hg]; exact (below_size (qm_ HB.out)) : w.heap.size ≤ gb744)); have GE744 := GW744; replace HB := hs_ hb; clear hb hbox hg; have hcz35 := bc2_ BK744.out; have hfz35 := bf2_ BK744.out) | ((with_reducible refine gate_callee (f := 33) rfl ?_); refine goesL_ (some 12) rfl rfl Try.func33 (by kernel_rfl) rfl #[.int .u8 1, .int .u8 1, .agg #[.int .u64 3212836864, .int .u64 2147483648]] rfl (am_ rfl) ?_; (with_reducible refine (cuts_On.calls k 1 1 3212836864 2147483648 true t746 _ A1.out).mono ?_); rintro e w36 ⟨rfl, hb⟩; refine ⟨_, rfl, ?_⟩; replace BK744 := A0_ (blk_below (g := gb744) (o := .cells #[.int .u64 3212836864, .int .u64 2147483648] 25 (0, 0)) (by (with_reducible repeat first | apply bN_ | apply bD_ | apply bA_); refine blk_put (cs := #[.int .u64 3212836864, .int .u64 0]) ?_ 1 _ rfl; refine blk_put (cs := #[.int .u64 0, .int .u64 0]) ?_ 0 _ rfl; exact bm_ BK744.out) hb); replace HB := hs_ hb; (try clear hb); have hcz37 := bc2_ BK744.out; have hfz37 := bf2_ BK744.out) | ((with_reducible refine gate_callee (f := 34) rfl ?_); refine goesL_ (some 17) rfl rfl Try.func34 (by kernel_rfl) rfl #[.int .u8 1, .int .u8 1, .agg #[.int .u64 3212836864, .int .u64 2147483648]] rfl (am_ rfl) ?_; (with_reducible refine (cuts_Side.calls k 1 1 3212836864 2147483648 t747 t748 _ A2.out).mono ?_); rintro e w38 ⟨rfl, hb⟩; refine ⟨_, rfl, ?_⟩; replace BK744 := bb_ BK744 hb; replace HB := hs_ hb; (try clear hb)) | ((with_reducible refine gate_callee (f := 35) rfl ?_); refine goesL_ (some 22) rfl rfl Try.func35 (by kernel_rfl) rfl #[.int .u8 1, .int .u8 11, .agg #[.int .u64 1073741824, .int .u64 0]] rfl (am_ rfl) ?_; (with_reducible refine (cuts_Signs.calls k 1 11 1073741824 0 t749 t750 t751 _ A3.out).mono ?_); rintro e w39 ⟨rfl, hb⟩; refine ⟨_, rfl, ?_⟩; replace BK744 := bb_ BK744 hb; replace HB := hs_ hb; (try clear hb)))
    go_ret
    exact ⟨by first | rfl | (simp [errW_none, errW_some] <;> rfl) | (simp [*, errW_none, errW_some] <;> rfl), qz_⟩
  ·rw [if_neg c5] at H
   have c5b0 : (t746 == 0) = false := beq_eq_false_iff_ne.mpr c5
   have c5b1 : (t746 != 0) = true := bne_iff_ne.mpr c5
   obtain rfl := Option.some.inj H
   go_enter Try.func37, Try.ntmps37
   go_wp2_with (first | ((with_reducible refine gate_dst (N := 1) rfl ?_); refine box_event ?hg (N := 1) ?hd (cs := #[.int .u64 0, .int .u64 0]) (t := 25) ?hr ?_; (case hd => rfl); (case hg => rfl); (case hr => first | (go_simp; done) | (go_simp; rfl)); intro gb744 hg w40 hbox hb; have BK744 := A0_ (hbox); have GW744 := A0_ ((by rw [hg]; exact (below_size (qm_ HB.out)) : w.heap.size ≤ gb744)); have GE744 := GW744; replace HB := hs_ hb; clear hb hbox hg; have hcz41 := bc2_ BK744.out; have hfz41 := bf2_ BK744.out) | ((with_reducible refine gate_callee (f := 33) rfl ?_); refine goesL_ (some 12) rfl rfl Try.func33 (by kernel_rfl) rfl #[.int .u8 1, .int .u8 1, .agg #[.int .u64 3212836864, .int .u64 2147483648]] rfl (am_ rfl) ?_; (with_reducible refine (cuts_On.calls k 1 1 3212836864 2147483648 true t746 _ A1.out).mono ?_); rintro e w42 ⟨rfl, hb⟩; refine ⟨_, rfl, ?_⟩; replace BK744 := A0_ (blk_below (g := gb744) (o := .cells #[.int .u64 3212836864, .int .u64 2147483648] 25 (0, 0)) (by (with_reducible repeat first | apply bN_ | apply bD_ | apply bA_); refine blk_put (cs := #[.int .u64 3212836864, .int .u64 0]) ?_ 1 _ rfl; refine blk_put (cs := #[.int .u64 0, .int .u64 0]) ?_ 0 _ rfl; exact bm_ BK744.out) hb); replace HB := hs_ hb; (try clear hb); have hcz43 := bc2_ BK744.out; have hfz43 := bf2_ BK744.out) | ((with_reducible refine gate_callee (f := 34) rfl ?_); refine goesL_ (some 17) rfl rfl Try.func34 (by kernel_rfl) rfl #[.int .u8 1, .int .u8 1, .agg #[.int .u64 3212836864, .int .u64 2147483648]] rfl (am_ rfl) ?_; (with_reducible refine (cuts_Side.calls k 1 1 3212836864 2147483648 t747 t748 _ A2.out).mono ?_); rintro e w44 ⟨rfl, hb⟩; refine ⟨_, rfl, ?_⟩; replace BK744 := bb_ BK744 hb; replace HB := hs_ hb; (try clear hb)) | ((with_reducible refine gate_callee (f := 35) rfl ?_); refine goesL_ (some 22) rfl rfl Try.func35 (by kernel_rfl) rfl #[.int .u8 1, .int .u8 11, .agg #[.int .u64 1073741824, .int .u64 0]] rfl (am_ rfl) ?_; (with_reducible refine (cuts_Signs.calls k 1 11 1073741824 0 t749 t750 t751 _ A3.out).mono ?_); rintro e w45 ⟨rfl, hb⟩; refine ⟨_, rfl, ?_⟩; replace BK744 := bb_ BK744 hb; replace HB := hs_ hb; (try clear hb)))
   go_ret
   exact ⟨by first | rfl | (simp [errW_none, errW_some] <;> rfl) | (simp [*, errW_none, errW_some] <;> rfl), qz_⟩
 ·replace c4 := Bool.eq_false_iff.mpr c4
  subst c4
  rw [if_neg (show ¬ (false = true) by decide)] at H
  obtain rfl := Option.some.inj H
  go_enter Try.func37, Try.ntmps37
  go_wp2_with (first | ((with_reducible refine gate_dst (N := 1) rfl ?_); refine box_event ?hg (N := 1) ?hd (cs := #[.int .u64 0, .int .u64 0]) (t := 25) ?hr ?_; (case hd => rfl); (case hg => rfl); (case hr => first | (go_simp; done) | (go_simp; rfl)); intro gb744 hg w46 hbox hb; have BK744 := A0_ (hbox); have GW744 := A0_ ((by rw [hg]; exact (below_size (qm_ HB.out)) : w.heap.size ≤ gb744)); have GE744 := GW744; replace HB := hs_ hb; clear hb hbox hg; have hcz47 := bc2_ BK744.out; have hfz47 := bf2_ BK744.out) | ((with_reducible refine gate_callee (f := 33) rfl ?_); refine goesL_ (some 12) rfl rfl Try.func33 (by kernel_rfl) rfl #[.int .u8 1, .int .u8 1, .agg #[.int .u64 3212836864, .int .u64 2147483648]] rfl (am_ rfl) ?_; (with_reducible refine (cuts_On.calls k 1 1 3212836864 2147483648 false t746 _ A1.out).mono ?_); rintro e w48 ⟨rfl, hb⟩; refine ⟨_, rfl, ?_⟩; replace BK744 := A0_ (blk_below (g := gb744) (o := .cells #[.int .u64 3212836864, .int .u64 2147483648] 25 (0, 0)) (by (with_reducible repeat first | apply bN_ | apply bD_ | apply bA_); refine blk_put (cs := #[.int .u64 3212836864, .int .u64 0]) ?_ 1 _ rfl; refine blk_put (cs := #[.int .u64 0, .int .u64 0]) ?_ 0 _ rfl; exact bm_ BK744.out) hb); replace HB := hs_ hb; (try clear hb); have hcz49 := bc2_ BK744.out; have hfz49 := bf2_ BK744.out) | ((with_reducible refine gate_callee (f := 34) rfl ?_); refine goesL_ (some 17) rfl rfl Try.func34 (by kernel_rfl) rfl #[.int .u8 1, .int .u8 1, .agg #[.int .u64 3212836864, .int .u64 2147483648]] rfl (am_ rfl) ?_; (with_reducible refine (cuts_Side.calls k 1 1 3212836864 2147483648 t747 t748 _ A2.out).mono ?_); rintro e w50 ⟨rfl, hb⟩; refine ⟨_, rfl, ?_⟩; replace BK744 := bb_ BK744 hb; replace HB := hs_ hb; (try clear hb)) | ((with_reducible refine gate_callee (f := 35) rfl ?_); refine goesL_ (some 22) rfl rfl Try.func35 (by kernel_rfl) rfl #[.int .u8 1, .int .u8 11, .agg #[.int .u64 1073741824, .int .u64 0]] rfl (am_ rfl) ?_; (with_reducible refine (cuts_Signs.calls k 1 11 1073741824 0 t749 t750 t751 _ A3.out).mono ?_); rintro e w51 ⟨rfl, hb⟩; refine ⟨_, rfl, ?_⟩; replace BK744 := bb_ BK744 hb; replace HB := hs_ hb; (try clear hb)))
  go_ret
  exact ⟨by first | rfl | (simp [errW_none, errW_some] <;> rfl) | (simp [*, errW_none, errW_some] <;> rfl), qz_⟩
end Go.Proofs.Ytgaabjjenlbmhaa.PA
end

section
namespace Go.Proofs.Ytgaabjjenlbmhaa.PA
open Go.RowKit Go.Proofs.YtgaabjjenlbmhaaW.PrintWords Go.Proofs.YtgaabjjenlbmhaaW.PrintLast Go.Proofs.YtgaabjjenlbmhaaW.PrintMore
attribute [local go_sem] max2_int min2_int max_two min_two max_three min_three max_four min_four   -- for this text's walks alone
set_option linter.unusedVariables false
set_option linter.unusedSimpArgs false
mutual
def cutplaneref20_Rays.j0 : Nat → Int → Bool → Option ((List (S54)))
 | 0, _, _ => none
 | k + 1, x3, x4 => if x4 = true then (some (([(⟨false, 0, true⟩ : S54)] : List (S54)))) else (if x3 = 10 then (cutplaneref20_Rays.j1 k x3 (x3 == 10)) else (if x3 = 15 then (cutplaneref20_Rays.j1 k x3 (x3 == 15)) else (cutplaneref20_Rays.j1 k x3 (x3 == 11))))
def cutplaneref20_Rays.j1 : Nat → Int → Bool → Option ((List (S54)))
 | 0, _, _ => none
 | k + 1, x3, x9 => if x9 = true then (some (([(⟨false, 1, false⟩ : S54), (⟨false, (-1), true⟩ : S54)] : List (S54)))) else (if x3 = 12 then (cutplaneref20_Rays.j2 k x3 (x3 == 12)) else (cutplaneref20_Rays.j2 k x3 (x3 == 13)))
def cutplaneref20_Rays.j2 : Nat → Int → Bool → Option ((List (S54)))
 | 0, _, _ => none
 | k + 1, x3, x16 => if x16 = true then (some (([(⟨true, 1, false⟩ : S54), (⟨true, (-1), true⟩ : S54)] : List (S54)))) else (if x3 = 14 then (some (([(⟨false, 1, true⟩ : S54)] : List (S54)))) else (some ([] : List (S54))))
end
def cutplaneref20_Rays.f (k : Nat) (a0 : Int) : Option ((List (S54))) := if a0 = 1 then (cutplaneref20_Rays.j0 k a0 (a0 == 1)) else (cutplaneref20_Rays.j0 k a0 (a0 == 3))
theorem cutplaneref20_Rays.calls (k : Nat) (a0 : Int) (r : List (S54)) (w : World) (h : cutplaneref20_Rays.f k a0 = some r) :
  Calls Try.prog 45 #[.int .u8 a0] w fun e w' => ∃ v0_ : Value, e = .returned (v0_) ∧ Kd.R k54 54 w' w.heap.size (fun _ => True) v0_ r ∧ Below w.heap.size w w' := by
 have hu54 := Try.underlying54
 have HB := A0_ (Below.refl w.heap.size w)
 have H := h
 clear h
 unfold cutplaneref20_Rays.f at H
 have HC2 := A0_ H
 clear H
 go_enter Try.func45, Try.ntmps45
 go_upto_if 4 with (fail)
 go_cut [4] (fun v4 wc => ∃ (kq : Nat) (x4_1 : Bool), v4 = .bool x4_1 ∧ Aside0 (cutplaneref20_Rays.j0 kq a0 x4_1 = some r) ∧ Aside0 (kq ≤ k) ∧ Aside0 (Below w.heap.size w wc))
 case first =>
  have H := HC2.out
  clear HC2
  by_cases c3 : a0 = 1
  ·rw [if_pos c3] at H
   have c3b0 : (a0 == 1) = true := beq_iff_eq.mpr c3
   have c3b1 : (a0 != 1) = false := bne_eq_false_iff_eq.mpr c3
   clear c3
   (first | rw [c3b0] | (simp only [i64_w, i32_w]; rw [c3b0]) | skip)
   have H' := A0_ H
   clear H
   go_wp2
   go_meet
   case rel => exact ⟨_, ((a0 == 1)), (by first | rfl | (simp; done) | (simp [*]; done)), H', ⟨by first | omega | exact Nat.le_refl _⟩, ⟨qm_ HB.out⟩⟩
  ·rw [if_neg c3] at H
   have c3b0 : (a0 == 1) = false := beq_eq_false_iff_ne.mpr c3
   have c3b1 : (a0 != 1) = true := bne_iff_ne.mpr c3
   (first | rw [c3b0] | (simp only [i64_w, i32_w]; rw [c3b0]) | skip)
   have H' := A0_ H
   clear H
   go_wp2
   go_meet
   case rel => exact ⟨_, ((a0 == 3)), (by first | rfl | (simp; done) | (simp [*]; done)), H', ⟨by first | omega | exact Nat.le_refl _⟩, ⟨qm_ HB.out⟩⟩
 case rest =>
  clear HC2
  try clear p2
  try clear c3
  try clear c3b0
  try clear c3b1
  obtain ⟨kq, x4_1, rfl, HA, HJ1, HB⟩ := hcut
  cases kq with
  | zero => exact absurd HA.out (by simp [cutplaneref20_Rays.j0])
  | succ kj1 =>
   have H := HA.out
   clear HA
   simp only [cutplaneref20_Rays.j0] at H
   by_cases c4 : x4_1 = true
   ·subst c4
    rw [if_pos rfl] at H
    obtain ⟨y752, hy752⟩ : ∃ y_ : List (S54), y_ = (([(⟨false, 0, true⟩ : S54)] : List (S54))) := ⟨_, rfl⟩
    replace H : (some y752) = some r := by first | (rw [hy752]; with_reducible exact H) | (have H2_ := (Option.bind_some _ _).symm.trans H; rw [hy752]; with_reducible exact H2_) | (have H2_ := (Option.bind_some _ _).symm.trans H; with_reducible exact H2_) | with_reducible exact H | (rw [hy752]; exact H) | exact H
    have Ny752 := A0_ hy752
    clear hy752
    obtain rfl := Option.some.inj H
    go_wp2_with (first | ((with_reducible refine gate_dst (N := 8) rfl ?_); refine Kd.R_lit k54 _ 54 ?hg (N := 8) ?hd (xs := ([(⟨false, 0, true⟩ : S54)] : List (S54))) (inner := [.bool false, .int .i64 0, .bool true]) (ok := fun _ => True) (okp := fun _ => True) ?hr ?hp (fun _ hk => hk) trivial (Below.refl _ _) (Nat.le_refl _) (by simp) ?_; (case hd => rfl); (case hg => rfl); (case hr => first | (go_simp; done) | (go_simp; rfl)); (case hp => exact (Reps.c3 (show Kd.M k54 _ _ _ (⟨false, 0, true⟩ : S54) [.bool false, .int .i64 0, .bool true] from (k54_mkM _ _ _ (⟨false, 0, true⟩ : S54) )) (Reps.none _ _))); intro v753 w5 ho6 hb hg_ hnew_; clear hg_ hnew_; (first | rw [← Ny752.out] at ho6 | (simp only [Int.reduceToNat] at ho6; rw [← Ny752.out] at ho6)); have HO754 := A0_ (Kd.R_lower ho6 (below_size (qm_ HB.out))); replace HB := hs_ hb; clear hb ho6))
    go_ret
    exact ⟨_, by first | rfl | (simp [errW_none, errW_some] <;> rfl) | (simp [*, errW_none, errW_some] <;> rfl), by (with_reducible repeat (first | apply Kd.R_alloc | apply Kd.R_drewN | apply Kd.R_drew)); exact HO754.out, qm_ HB.out⟩
   ·replace c4 := Bool.eq_false_iff.mpr c4
    subst c4
    rw [if_neg (show ¬ (false = true) by decide)] at H
    have HC7 := A0_ H
    clear H
    go_upto_if 9 with (fail)
    go_cut [9] (fun v9 wc => ∃ (kq : Nat) (x9_6 : Bool), v9 = .bool x9_6 ∧ Aside0 (cutplaneref20_Rays.j1 kq a0 x9_6 = some r) ∧ Aside0 (kq ≤ kj1) ∧ Aside0 (Below w.heap.size w wc))
    case first =>
     have H := HC7.out
     clear HC7
     by_cases c8 : a0 = 10
     ·rw [if_pos c8] at H
      have c8b0 : (a0 == 10) = true := beq_iff_eq.mpr c8
      have c8b1 : (a0 != 10) = false := bne_eq_false_iff_eq.mpr c8
      clear c8
      (first | rw [c8b0] | (simp only [i64_w, i32_w]; rw [c8b0]) | skip)
      have H' := A0_ H
      clear H
      go_wp2
      go_meet
      case rel => exact ⟨_, ((a0 == 10)), (by first | rfl | (simp; done) | (simp [*]; done)), H', ⟨by have := HJ1.out; first | omega | exact Nat.le_refl _⟩, ⟨qm_ HB.out⟩⟩
     ·rw [if_neg c8] at H
      have c8b0 : (a0 == 10) = false := beq_eq_false_iff_ne.mpr c8
      have c8b1 : (a0 != 10) = true := bne_iff_ne.mpr c8
      (first | rw [c8b0] | (simp only [i64_w, i32_w]; rw [c8b0]) | skip)
      by_cases c9 : a0 = 15
      ·rw [if_pos c9] at H
       have c9b0 : (a0 == 15) = true := beq_iff_eq.mpr c9
       have c9b1 : (a0 != 15) = false := bne_eq_false_iff_eq.mpr c9
       clear c9
       have H' := A0_ H
       clear H
       go_wp2
       go_meet
       case rel => exact ⟨_, ((a0 == 15)), (by first | rfl | (simp; done) | (simp [*]; done)), H', ⟨by have := HJ1.out; first | omega | exact Nat.le_refl _⟩, ⟨qm_ HB.out⟩⟩
      ·rw [if_neg c9] at H
       have c9b0 : (a0 == 15) = false := beq_eq_false_iff_ne.mpr c9
       have c9b1 : (a0 != 15) = true := bne_iff_ne.mpr c9
       have H' := A0_ H
       clear H
       go_wp2
       go_meet
       case rel => exact ⟨_, ((a0 == 11)), (by first | rfl | (simp; done) | (simp [*]; done)), H', ⟨by have := HJ1.out; first | omega | exact Nat.le_refl _⟩, ⟨qm_ HB.out⟩⟩
    case rest =>
     clear HC7
     try clear p2
     try clear c3
     try clear c3b0
     try clear c3b1
     try clear c4
     try clear c8
     try clear c8b0
     try clear c8b1
     try clear c9
     try clear c9b0
     try clear c9b1
     try clear p2
     obtain ⟨kq, x9_6, rfl, HA, HJ6, HB⟩ := hcut
     cases kq with
     | zero => exact absurd HA.out (by simp [cutplaneref20_Rays.j1])
     | succ kj6 =>
      have H := HA.out
      clear HA
      simp only [cutplaneref20_Rays.j1] at H
      by_cases c10 : x9_6 = true
      ·subst c10
       rw [if_pos rfl] at H
       obtain ⟨y755, hy755⟩ : ∃ y_ : List (S54), y_ = (([(⟨false, 1, false⟩ : S54), (⟨false, (-1), true⟩ : S54)] : List (S54))) := ⟨_, rfl⟩
       replace H : (some y755) = some r := by first | (rw [hy755]; with_reducible exact H) | (have H2_ := (Option.bind_some _ _).symm.trans H; rw [hy755]; with_reducible exact H2_) | (have H2_ := (Option.bind_some _ _).symm.trans H; with_reducible exact H2_) | with_reducible exact H | (rw [hy755]; exact H) | exact H
       have Ny755 := A0_ hy755
       clear hy755
       obtain rfl := Option.some.inj H
       go_wp2_with (first | ((with_reducible refine gate_dst (N := 15) rfl ?_); refine Kd.R_lit k54 _ 54 ?hg (N := 15) ?hd (xs := ([(⟨false, 1, false⟩ : S54), (⟨false, (-1), true⟩ : S54)] : List (S54))) (inner := [.bool false, .int .i64 1, .bool false, .bool false, .int .i64 (-1), .bool true]) (ok := fun _ => True) (okp := fun _ => True) ?hr ?hp (fun _ hk => hk) trivial (Below.refl _ _) (Nat.le_refl _) (by simp) ?_; (case hd => rfl); (case hg => rfl); (case hr => first | (go_simp; done) | (go_simp; rfl)); (case hp => exact (Reps.c3 (show Kd.M k54 _ _ _ (⟨false, 1, false⟩ : S54) [.bool false, .int .i64 1, .bool false] from (k54_mkM _ _ _ (⟨false, 1, false⟩ : S54) )) (Reps.c3 (show Kd.M k54 _ _ _ (⟨false, (-1), true⟩ : S54) [.bool false, .int .i64 (-1), .bool true] from (k54_mkM _ _ _ (⟨false, (-1), true⟩ : S54) )) (Reps.none _ _)))); intro v756 w11 ho12 hb hg_ hnew_; clear hg_ hnew_; (first | rw [← Ny755.out] at ho12 | (simp only [Int.reduceToNat] at ho12; rw [← Ny755.out] at ho12)); have HO757 := A0_ (Kd.R_lower ho12 (below_size (qm_ HB.out))); replace HB := hs_ hb; clear hb ho12))
       go_ret
       exact ⟨_, by first | rfl | (simp [errW_none, errW_some] <;> rfl) | (simp [*, errW_none, errW_some] <;> rfl), by (with_reducible repeat (first | apply Kd.R_alloc | apply Kd.R_drewN | apply Kd.R_drew)); exact HO757.out, qm_ HB.out⟩
      ·replace c10 := Bool.eq_false_iff.mpr c10
       subst c10
       rw [if_neg (show ¬ (false = true) by decide)] at H
       have HC13 := A0_ H
       clear H
       go_upto_if 16 with (fail)
       go_cut [16] (fun v16 wc => ∃ (kq : Nat) (x16_12 : Bool), v16 = .bool x16_12 ∧ Aside0 (cutplaneref20_Rays.j2 kq a0 x16_12 = some r) ∧ Aside0 (kq ≤ kj6) ∧ Aside0 (Below w.heap.size w wc))
       case first =>
        have H := HC13.out
        clear HC13
        by_cases c14 : a0 = 12
        ·rw [if_pos c14] at H
         have c14b0 : (a0 == 12) = true := beq_iff_eq.mpr c14
         have c14b1 : (a0 != 12) = false := bne_eq_false_iff_eq.mpr c14
         clear c14
         (first | rw [c14b0] | (simp only [i64_w, i32_w]; rw [c14b0]) | skip)
         have H' := A0_ H
         clear H
         go_wp2
         go_meet
         case rel => exact ⟨_, ((a0 == 12)), (by first | rfl | (simp; done) | (simp [*]; done)), H', ⟨by have := HJ1.out; have := HJ6.out; first | omega | exact Nat.le_refl _⟩, ⟨qm_ HB.out⟩⟩
        ·rw [if_neg c14] at H
         have c14b0 : (a0 == 12) = false := beq_eq_false_iff_ne.mpr c14
         have c14b1 : (a0 != 12) = true := bne_iff_ne.mpr c14
         (first | rw [c14b0] | (simp only [i64_w, i32_w]; rw [c14b0]) | skip)
         have H' := A0_ H
         clear H
         go_wp2
         go_meet
         case rel => exact ⟨_, ((a0 == 13)), (by first | rfl | (simp; done) | (simp [*]; done)), H', ⟨by have := HJ1.out; have := HJ6.out; first | omega | exact Nat.le_refl _⟩, ⟨qm_ HB.out⟩⟩
       case rest =>
        clear HC13
        try clear c1
        try clear p2
        try clear c3
        try clear c3b0
        try clear c3b1
        try clear c4
        try clear c8
        try clear c8b0
        try clear c8b1
        try clear c9
        try clear c9b0
        try clear c9b1
        try clear c10
        try clear c14
        try clear c14b0
        try clear c14b1
        try clear p2
        obtain ⟨kq, x16_12, rfl, HA, HJ12, HB⟩ := hcut
        cases kq with
        | zero => exact absurd HA.out (by simp [cutplaneref20_Rays.j2])
        | succ kj12 =>
         have H := HA.out
         clear HA
         simp only [cutplaneref20_Rays.j2] at H
         by_cases c15 : x16_12 = true
         ·subst c15
          rw [if_pos rfl] at H
          obtain ⟨y758, hy758⟩ : ∃ y_ : List (S54), y_ = (([(⟨true, 1, false⟩ : S54), (⟨true, (-1), true⟩ : S54)] : List (S54))) := ⟨_, rfl⟩
          replace H : (some y758) = some r := by first | (rw [hy758]; with_reducible exact H) | (have H2_ := (Option.bind_some _ _).symm.trans H; rw [hy758]; with_reducible exact H2_) | (have H2_ := (Option.bind_some _ _).symm.trans H; with_reducible exact H2_) | with_reducible exact H | (rw [hy758]; exact H) | exact H
          have Ny758 := A0_ hy758
          clear hy758
          obtain rfl := Option.some.inj H
          go_wp2_with (first | ((with_reducible refine gate_dst (N := 21) rfl ?_); refine Kd.R_lit k54 _ 54 ?hg (N := 21) ?hd (xs := ([(⟨true, 1, false⟩ : S54), (⟨true, (-1), true⟩ : S54)] : List (S54))) (inner := [.bool true, .int .i64 1, .bool false, .bool true, .int .i64 (-1), .bool true]) (ok := fun _ => True) (okp := fun _ => True) ?hr ?hp (fun _ hk => hk) trivial (Below.refl _ _) (Nat.le_refl _) (by simp) ?_; (case hd => rfl); (case hg => rfl); (case hr => first | (go_simp; done) | (go_simp; rfl)); (case hp => exact (Reps.c3 (show Kd.M k54 _ _ _ (⟨true, 1, false⟩ : S54) [.bool true, .int .i64 1, .bool false] from (k54_mkM _ _ _ (⟨true, 1, false⟩ : S54) )) (Reps.c3 (show Kd.M k54 _ _ _ (⟨true, (-1), true⟩ : S54) [.bool true, .int .i64 (-1), .bool true] from (k54_mkM _ _ _ (⟨true, (-1), true⟩ : S54) )) (Reps.none _ _)))); intro v759 w16 ho17 hb hg_ hnew_; clear hg_ hnew_; (first | rw [← Ny758.out] at ho17 | (simp only [Int.reduceToNat] at ho17; rw [← Ny758.out] at ho17)); have HO760 := A0_ (Kd.R_lower ho17 (below_size (qm_ HB.out))); replace HB := hs_ hb; clear hb ho17))
          go_ret
          exact ⟨_, by first | rfl | (simp [errW_none, errW_some] <;> rfl) | (simp [*, errW_none, errW_some] <;> rfl), by (with_reducible repeat (first | apply Kd.R_alloc | apply Kd.R_drewN | apply Kd.R_drew)); exact HO760.out, qm_ HB.out⟩
         ·replace c15 := Bool.eq_false_iff.mpr c15
          subst c15
          rw [if_neg (show ¬ (false = true) by decide)] at H
          by_cases c18 : a0 = 14
          ·rw [if_pos c18] at H
           have c18b0 : (a0 == 14) = true := beq_iff_eq.mpr c18
           have c18b1 : (a0 != 14) = false := bne_eq_false_iff_eq.mpr c18
           clear c18
           obtain ⟨y761, hy761⟩ : ∃ y_ : List (S54), y_ = (([(⟨false, 1, true⟩ : S54)] : List (S54))) := ⟨_, rfl⟩
           replace H : (some y761) = some r := by first | (rw [hy761]; with_reducible exact H) | (have H2_ := (Option.bind_some _ _).symm.trans H; rw [hy761]; with_reducible exact H2_) | (have H2_ := (Option.bind_some _ _).symm.trans H; with_reducible exact H2_) | with_reducible exact H | (rw [hy761]; exact H) | exact H
           have Ny761 := A0_ hy761
           clear hy761
           obtain rfl := Option.some.inj H
           go_wp2_with (first | ((with_reducible refine gate_dst (N := 25) rfl ?_); refine Kd.R_lit k54 _ 54 ?hg (N := 25) ?hd (xs := ([(⟨false, 1, true⟩ : S54)] : List (S54))) (inner := [.bool false, .int .i64 1, .bool true]) (ok := fun _ => True) (okp := fun _ => True) ?hr ?hp (fun _ hk => hk) trivial (Below.refl _ _) (Nat.le_refl _) (by simp) ?_; (case hd => rfl); (case hg => rfl); (case hr => first | (go_simp; done) | (go_simp; rfl)); (case hp => exact (Reps.c3 (show Kd.M k54 _ _ _ (⟨false, 1, true⟩ : S54) [.bool false, .int .i64 1, .bool true] from (k54_mkM _ _ _ (⟨false, 1, true⟩ : S54) )) (Reps.none _ _))); intro v762 w19 ho20 hb hg_ hnew_; clear hg_ hnew_; (first | rw [← Ny761.out] at ho20 | (simp only [Int.reduceToNat] at ho20; rw [← Ny761.out] at ho20)); have HO763 := A0_ (Kd.R_lower ho20 (below_size (qm_ HB.out))); replace HB := hs_ hb; clear hb ho20))
           go_ret
           exact ⟨_, by first | rfl | (simp [errW_none, errW_some] <;> rfl) | (simp [*, errW_none, errW_some] <;> rfl), by (with_reducible repeat (first | apply Kd.R_alloc | apply Kd.R_drewN | apply Kd.R_drew)); exact HO763.out, qm_ HB.out⟩
          ·rw [if_neg c18] at H
           have c18b0 : (a0 == 14) = false := beq_eq_false_iff_ne.mpr c18
           have c18b1 : (a0 != 14) = true := bne_iff_ne.mpr c18
           obtain rfl := Option.some.inj H
           go_wp2
           go_ret
           exact ⟨_, by first | rfl | (simp [errW_none, errW_some] <;> rfl) | (simp [*, errW_none, errW_some] <;> rfl), by first | exact Kd.R_nil _ _ _ _ _ | exact Kd.N_nil _ _ _ _ _ | exact Kd.V_nil _ _ _ _ _ | exact Kd.Q_nil _ _ _ _ _ | exact Kd.S_nil _ _ _ _ _, qm_ HB.out⟩
end Go.Proofs.Ytgaabjjenlbmhaa.PA
end

section
namespace Go.Proofs.Ytgaabjjenlbmhaa.PA
open Go.RowKit Go.Proofs.YtgaabjjenlbmhaaW.PrintWords Go.Proofs.YtgaabjjenlbmhaaW.PrintLast Go.Proofs.YtgaabjjenlbmhaaW.PrintMore
attribute [local go_sem] max2_int min2_int max_two min_two max_three min_three max_four min_four   -- for this text's walks alone
set_option linter.unusedVariables false
set_option linter.unusedSimpArgs false
def cutplaneref20_coordinates.f (a0_0 : Bool) (a0_1 : Int) (a0_2 : Bool) (a1_0 : Int) (a1_1 : Int) : Option (Int × Int) := if a0_0 = true then (some (a1_1, a1_0)) else (some (a1_0, a1_1))
theorem cutplaneref20_coordinates.calls (a0_0 : Bool) (a0_1 : Int) (a0_2 : Bool) (a1_0 : Int) (a1_1 : Int) (r1 : Int) (r2 : Int) (w : World) (h : cutplaneref20_coordinates.f a0_0 a0_1 a0_2 a1_0 a1_1 = some (r1, r2)) :
  Calls Try.prog 65 #[.agg #[.bool a0_0, .int .i64 a0_1, .bool a0_2], .agg #[.int .u64 a1_0, .int .u64 a1_1]] w fun e w' => e = .returned (.tuple #[.int .u64 r1, .int .u64 r2]) ∧ Below w.heap.size w w' := by
 have hu54 := Try.underlying54
 have hu25 := Try.underlying25
 have HB := A0_ (Below.refl w.heap.size w)
 have H := h
 clear h
 unfold cutplaneref20_coordinates.f at H
 by_cases c3 : a0_0 = true
 ·subst c3
  rw [if_pos rfl] at H
  simp only [Option.some.injEq, Prod.mk.injEq] at H
  obtain ⟨rfl, rfl⟩ := H
  go_enter Try.func65, Try.ntmps65
  go_wp2_with (first | ((with_reducible refine gate_dst (N := 2) rfl ?_); refine box_event ?hg (N := 2) ?hd (cs := #[.bool true, .int .i64 a0_1, .bool a0_2]) (t := 54) ?hr ?_; (case hd => rfl); (case hg => rfl); (case hr => first | (go_simp; done) | (go_simp; rfl)); intro gb764 hg w4 hbox hb; have BK764 := A0_ (hbox); have GW764 := A0_ ((by rw [hg]; exact (below_size (qm_ HB.out)) : w.heap.size ≤ gb764)); have GE764 := GW764; replace HB := hs_ hb; clear hb hbox hg) | ((with_reducible refine gate_dst (N := 3) rfl ?_); refine box_event ?hg (N := 3) ?hd (cs := #[.int .u64 a1_0, .int .u64 a1_1]) (t := 25) ?hr ?_; (case hd => rfl); (case hg => rfl); (case hr => first | (go_simp; done) | (go_simp; rfl)); intro gb765 hg w5 hbox hb; have BK765 := A0_ (hbox); have GW765 := A0_ ((by rw [hg]; exact (below_size qz_) : w.heap.size ≤ gb765)); have GE765 := GW765; replace HB := hs_ hb; have NB764_765 := nl_ hg BK764; have NB765_764 := ng_ hg BK764; replace BK764 := bb_ BK764 hb; clear hb hbox hg; have hnb6 := NB764_765.out; have hnc6 := NB765_764.out; have hcz7 := bc3_ BK764.out; have hfz7 := bf3_ BK764.out; have hcz8 := bc2_ BK765.out; have hfz8 := bf2_ BK765.out))
  repeat (go_quiet (first | ((with_reducible refine gate_dst (N := 2) rfl ?_); refine box_event ?hg (N := 2) ?hd (cs := #[.bool true, .int .i64 a0_1, .bool a0_2]) (t := 54) ?hr ?_; (case hd => rfl); (case hg => rfl); (case hr => first | (go_simp; done) | (go_simp; rfl)); intro gb764 hg w4 hbox hb; have BK764 := A0_ (hbox); have GW764 := A0_ ((by rw [hg]; exact (below_size (qm_ HB.out)) : w.heap.size ≤ gb764)); have GE764 := GW764; replace HB := hs_ hb; clear hb hbox hg) | ((with_reducible refine gate_dst (N := 3) rfl ?_); refine box_event ?hg (N := 3) ?hd (cs := #[.int .u64 a1_0, .int .u64 a1_1]) (t := 25) ?hr ?_; (case hd => rfl); (case hg => rfl); (case hr => first | (go_simp; done) | (go_simp; rfl)); intro gb765 hg w5 hbox hb; have BK765 := A0_ (hbox); have GW765 := A0_ ((by rw [hg]; exact (below_size qz_) : w.heap.size ≤ gb765)); have GE765 := GW765; replace HB := hs_ hb; have NB764_765 := nl_ hg BK764; have NB765_764 := ng_ hg BK764; replace BK764 := bb_ BK764 hb; clear hb hbox hg; have hnb6 := NB764_765.out; have hnc6 := NB765_764.out; have hcz7 := bc3_ BK764.out; have hfz7 := bf3_ BK764.out; have hcz8 := bc2_ BK765.out; have hfz8 := bf2_ BK765.out)); try go_wp2_with (first | ((with_reducible refine gate_dst (N := 2) rfl ?_); refine box_event ?hg (N := 2) ?hd (cs := #[.bool true, .int .i64 a0_1, .bool a0_2]) (t := 54) ?hr ?_; (case hd => rfl); (case hg => rfl); (case hr => first | (go_simp; done) | (go_simp; rfl)); intro gb764 hg w4 hbox hb; have BK764 := A0_ (hbox); have GW764 := A0_ ((by rw [hg]; exact (below_size (qm_ HB.out)) : w.heap.size ≤ gb764)); have GE764 := GW764; replace HB := hs_ hb; clear hb hbox hg) | ((with_reducible refine gate_dst (N := 3) rfl ?_); refine box_event ?hg (N := 3) ?hd (cs := #[.int .u64 a1_0, .int .u64 a1_1]) (t := 25) ?hr ?_; (case hd => rfl); (case hg => rfl); (case hr => first | (go_simp; done) | (go_simp; rfl)); intro gb765 hg w5 hbox hb; have BK765 := A0_ (hbox); have GW765 := A0_ ((by rw [hg]; exact (below_size qz_) : w.heap.size ≤ gb765)); have GE765 := GW765; replace HB := hs_ hb; have NB764_765 := nl_ hg BK764; have NB765_764 := ng_ hg BK764; replace BK764 := bb_ BK764 hb; clear hb hbox hg; have hnb6 := NB764_765.out; have hnc6 := NB765_764.out; have hcz7 := bc3_ BK764.out; have hfz7 := bf3_ BK764.out; have hcz8 := bc2_ BK765.out; have hfz8 := bf2_ BK765.out)))
  go_ret2
  exact ⟨by first | rfl | (simp [errW_none, errW_some] <;> rfl) | (simp [*, errW_none, errW_some] <;> rfl), qz_⟩
 ·replace c3 := Bool.eq_false_iff.mpr c3
  subst c3
  rw [if_neg (show ¬ (false = true) by decide)] at H
  simp only [Option.some.injEq, Prod.mk.injEq] at H
  obtain ⟨rfl, rfl⟩ := H
  go_enter Try.func65, Try.ntmps65
  go_wp2_with (first | ((with_reducible refine gate_dst (N := 2) rfl ?_); refine box_event ?hg (N := 2) ?hd (cs := #[.bool false, .int .i64 a0_1, .bool a0_2]) (t := 54) ?hr ?_; (case hd => rfl); (case hg => rfl); (case hr => first | (go_simp; done) | (go_simp; rfl)); intro gb764 hg w9 hbox hb; have BK764 := A0_ (hbox); have GW764 := A0_ ((by rw [hg]; exact (below_size (qm_ HB.out)) : w.heap.size ≤ gb764)); have GE764 := GW764; replace HB := hs_ hb; clear hb hbox hg) | ((with_reducible refine gate_dst (N := 3) rfl ?_); refine box_event ?hg (N := 3) ?hd (cs := #[.int .u64 a1_0, .int .u64 a1_1]) (t := 25) ?hr ?_; (case hd => rfl); (case hg => rfl); (case hr => first | (go_simp; done) | (go_simp; rfl)); intro gb765 hg w10 hbox hb; have BK765 := A0_ (hbox); have GW765 := A0_ ((by rw [hg]; exact (below_size qz_) : w.heap.size ≤ gb765)); have GE765 := GW765; replace HB := hs_ hb; have NB764_765 := nl_ hg BK764; have NB765_764 := ng_ hg BK764; replace BK764 := bb_ BK764 hb; clear hb hbox hg; have hnb11 := NB764_765.out; have hnc11 := NB765_764.out; have hcz12 := bc3_ BK764.out; have hfz12 := bf3_ BK764.out; have hcz13 := bc2_ BK765.out; have hfz13 := bf2_ BK765.out))
  repeat (go_quiet (first | ((with_reducible refine gate_dst (N := 2) rfl ?_); refine box_event ?hg (N := 2) ?hd (cs := #[.bool false, .int .i64 a0_1, .bool a0_2]) (t := 54) ?hr ?_; (case hd => rfl); (case hg => rfl); (case hr => first | (go_simp; done) | (go_simp; rfl)); intro gb764 hg w9 hbox hb; have BK764 := A0_ (hbox); have GW764 := A0_ ((by rw [hg]; exact (below_size (qm_ HB.out)) : w.heap.size ≤ gb764)); have GE764 := GW764; replace HB := hs_ hb; clear hb hbox hg) | ((with_reducible refine gate_dst (N := 3) rfl ?_); refine box_event ?hg (N := 3) ?hd (cs := #[.int .u64 a1_0, .int .u64 a1_1]) (t := 25) ?hr ?_; (case hd => rfl); (case hg => rfl); (case hr => first | (go_simp; done) | (go_simp; rfl)); intro gb765 hg w10 hbox hb; have BK765 := A0_ (hbox); have GW765 := A0_ ((by rw [hg]; exact (below_size qz_) : w.heap.size ≤ gb765)); have GE765 := GW765; replace HB := hs_ hb; have NB764_765 := nl_ hg BK764; have NB765_764 := ng_ hg BK764; replace BK764 := bb_ BK764 hb; clear hb hbox hg; have hnb11 := NB764_765.out; have hnc11 := NB765_764.out; have hcz12 := bc3_ BK764.out; have hfz12 := bf3_ BK764.out; have hcz13 := bc2_ BK765.out; have hfz13 := bf2_ BK765.out)); try go_wp2_with (first | ((with_reducible refine gate_dst (N := 2) rfl ?_); refine box_event ?hg (N := 2) ?hd (cs := #[.bool false, .int .i64 a0_1, .bool a0_2]) (t := 54) ?hr ?_; (case hd => rfl); (case hg => rfl); (case hr => first | (go_simp; done) | (go_simp; rfl)); intro gb764 hg w9 hbox hb; have BK764 := A0_ (hbox); have GW764 := A0_ ((by rw [hg]; exact (below_size (qm_ HB.out)) : w.heap.size ≤ gb764)); have GE764 := GW764; replace HB := hs_ hb; clear hb hbox hg) | ((with_reducible refine gate_dst (N := 3) rfl ?_); refine box_event ?hg (N := 3) ?hd (cs := #[.int .u64 a1_0, .int .u64 a1_1]) (t := 25) ?hr ?_; (case hd => rfl); (case hg => rfl); (case hr => first | (go_simp; done) | (go_simp; rfl)); intro gb765 hg w10 hbox hb; have BK765 := A0_ (hbox); have GW765 := A0_ ((by rw [hg]; exact (below_size qz_) : w.heap.size ≤ gb765)); have GE765 := GW765; replace HB := hs_ hb; have NB764_765 := nl_ hg BK764; have NB765_764 := ng_ hg BK764; replace BK764 := bb_ BK764 hb; clear hb hbox hg; have hnb11 := NB764_765.out; have hnc11 := NB765_764.out; have hcz12 := bc3_ BK764.out; have hfz12 := bf3_ BK764.out; have hcz13 := bc2_ BK765.out; have hfz13 := bf2_ BK765.out)))
  go_ret2
  exact ⟨by first | rfl | (simp [errW_none, errW_some] <;> rfl) | (simp [*, errW_none, errW_some] <;> rfl), qz_⟩
def cutplaneref02_Int.f (k : Nat) (a0 : Int) : Option (Bool × List Int × Int) := if a0 < 0 then ((cutplaneref01_Of.f k (IntKind.u64.wrap (-(IntKind.u64.wrap (a0))))).bind fun t767 => ((cutplaneref02_Form.f k true t767 0).bind fun bt770 => (some (bt770.1, bt770.2.1, bt770.2.2)))) else ((cutplaneref01_Of.f k (IntKind.u64.wrap (a0))).bind fun t775 => ((cutplaneref02_Form.f k false t775 0).bind fun bt778 => (some (bt778.1, bt778.2.1, bt778.2.2))))
theorem cutplaneref02_Int.calls (k : Nat) (a0 : Int) (r1 : Bool) (r2 : List Int) (r3 : Int) (w : World) (h : cutplaneref02_Int.f k a0 = some (r1, r2, r3)) :
  Calls Try.prog 89 #[.int .i64 a0] w fun e w' => ∃ v1_ : Value, e = .returned (.agg #[.bool r1, v1_, .int .i64 r3]) ∧ Kd.R (Kd.int .u32) 140 w' w.heap.size (fun _ => True) v1_ r2 ∧ Below w.heap.size w w' := by
 have hu124 := Try.underlying124
 have HB := A0_ (Below.refl w.heap.size w)
 have H := h
 clear h
 unfold cutplaneref02_Int.f at H
 by_cases c2 : a0 < 0
 ·rw [if_pos c2] at H
  have c2b0 : decide (a0 < 0) = true := decide_eq_true c2
  clear c2
  obtain ⟨t767, A3, H⟩ := bs_ H
  try dsimp -simprocs only at H
  obtain ⟨⟨t770, t771, t774⟩, A4, H⟩ := bs_ H
  try dsimp -simprocs only at H
  simp only [Option.some.injEq, Prod.mk.injEq] at H
  obtain ⟨rfl, rfl, rfl⟩ := H
  go_enter Try.func89, Try.ntmps89
  go_wp2_with (first | ((with_reducible refine gate_dst (N := 2) rfl ?_); refine box_event ?hg (N := 2) ?hd (cs := #[.bool false, .slice none 0 0, .int .i64 0]) (t := 124) ?hr ?_; (case hd => rfl); (case hg => rfl); (case hr => first | (go_simp; done) | (go_simp; rfl)); intro gb766 hg w5 hbox hb; have BK766 := A0_ (hbox); have GW766 := A0_ ((by rw [hg]; exact (below_size (qm_ HB.out)) : w.heap.size ≤ gb766)); have GE766 := GW766; replace HB := hs_ hb; clear hb hbox hg) | ((with_reducible refine gate_callee (f := 106) rfl ?_); refine goesL_ (some 13) rfl rfl Try.func106 (by kernel_rfl) rfl #[.int .u64 (IntKind.u64.wrap (-(IntKind.u64.wrap (a0))))] rfl (am_ rfl) ?_; (with_reducible refine (cutplaneref01_Of.calls k (IntKind.u64.wrap (-(IntKind.u64.wrap (a0)))) t767 _ A3.out).mono ?_); rintro e w6 ⟨v768, rfl, ho0, hb⟩; refine ⟨_, rfl, ?_⟩; have HO769 := A0_ (Kd.R_lower ho0 (below_size qz_)); replace BK766 := bb_ BK766 hb; replace HB := hs_ hb; (try clear hb); (try clear ho0); obtain ⟨Ao7, co7, eo7⟩ := Kd.R_slice HO769.out; subst eo7) | ((with_reducible refine gate_callee (f := 105) rfl ?_); refine goesL_ (some 14) rfl rfl Try.func105 (by kernel_rfl) rfl #[.bool true, .slice Ao7 t767.length co7, .int .i64 0] rfl (am_ rfl) ?_; (with_reducible refine (cutplaneref02_Form.calls k true _ _ t767 0 t770 t771 t774 _ ?side1 ?side2 A4.out).mono ?_); (case side1 => repeat (first | exact (Kd.R_reads' HO769.out).2.2 | (with_reducible refine Kd.C_alloc ?_ _) | (with_reducible refine Kd.C_drewN ?_ _) | (with_reducible refine Kd.C_drew ?_))); (case side2 => exact (Kd.R_reads' HO769.out).2.1); rintro e w8 ⟨v772, rfl, ho0, hb⟩; refine ⟨_, rfl, ?_⟩; have HO773 := A0_ (Kd.R_lower (Kd.R_new' ho0 (Kd.R_lt (by exact rm_ HO769.out))) (below_size qz_)); replace HO769 := A0_ (Kd.R_elder' (by exact rm_ HO769.out) (Kd.R_base ho0) hb); replace BK766 := bb_ BK766 hb; replace HB := hs_ hb; (try clear hb); (try clear ho0); have hcz9 := bc3_ BK766.out; have hfz9 := bf3_ BK766.out; obtain ⟨Ao10, co10, eo10⟩ := Kd.R_slice HO773.out; subst eo10))
  refine bodyPost_ret (results_cell_row rfl _ _ gb766 124 #[.bool t770, .slice Ao10 t771.length co10, .int .i64 t774] (0, 0) _ rfl (by (with_reducible repeat first | apply bN_ | apply bD_ | apply bA_); refine blk_put (cs := #[.bool t770, .slice Ao10 t771.length co10, .int .i64 0]) ?_ 2 _ rfl; refine blk_put (cs := #[.bool t770, .slice none 0 0, .int .i64 0]) ?_ 1 _ rfl; refine blk_put (cs := #[.bool false, .slice none 0 0, .int .i64 0]) ?_ 0 _ rfl; exact bm_ BK766.out) Try.underlying124 rfl (by kernel_rfl)) rfl ?_
  exact ⟨_, by first | rfl | (simp [errW_none, errW_some] <;> rfl) | (simp [*, errW_none, errW_some] <;> rfl), by (with_reducible repeat (first | apply Kd.R_alloc | apply Kd.R_drewN | apply Kd.R_drew)); exact Kd.R_mono (Kd.R_far (p := ⟨gb766, 2, none⟩) (Kd.R_far (p := ⟨gb766, 1, none⟩) (Kd.R_far (p := ⟨gb766, 0, none⟩) (Kd.R_types HO773.out BK766.out (by decide)) (fun _ hk => hk.2) (.bool t770)) (fun _ hk => hk.2) (.slice Ao10 t771.length co10)) (fun _ hk => hk.2) (.int .i64 t774)) (fun _ hk => trivial), qz_⟩
 ·rw [if_neg c2] at H
  have c2b0 : decide (a0 < 0) = false := decide_eq_false c2
  clear c2
  obtain ⟨t775, A11, H⟩ := bs_ H
  try dsimp -simprocs only at H
  obtain ⟨⟨t778, t779, t782⟩, A12, H⟩ := bs_ H
  try dsimp -simprocs only at H
  simp only [Option.some.injEq, Prod.mk.injEq] at H
  obtain ⟨rfl, rfl, rfl⟩ := H
  go_enter Try.func89, Try.ntmps89
  go_wp2_with (first | ((with_reducible refine gate_dst (N := 2) rfl ?_); refine box_event ?hg (N := 2) ?hd (cs := #[.bool false, .slice none 0 0, .int .i64 0]) (t := 124) ?hr ?_; (case hd => rfl); (case hg => rfl); (case hr => first | (go_simp; done) | (go_simp; rfl)); intro gb766 hg w13 hbox hb; have BK766 := A0_ (hbox); have GW766 := A0_ ((by rw [hg]; exact (below_size (qm_ HB.out)) : w.heap.size ≤ gb766)); have GE766 := GW766; replace HB := hs_ hb; clear hb hbox hg) | ((with_reducible refine gate_callee (f := 106) rfl ?_); refine goesL_ (some 13) rfl rfl Try.func106 (by kernel_rfl) rfl #[.int .u64 (IntKind.u64.wrap (a0))] rfl (am_ rfl) ?_; (with_reducible refine (cutplaneref01_Of.calls k (IntKind.u64.wrap (a0)) t775 _ A11.out).mono ?_); rintro e w14 ⟨v776, rfl, ho0, hb⟩; refine ⟨_, rfl, ?_⟩; have HO777 := A0_ (Kd.R_lower ho0 (below_size qz_)); replace BK766 := bb_ BK766 hb; replace HB := hs_ hb; (try clear hb); (try clear ho0); obtain ⟨Ao15, co15, eo15⟩ := Kd.R_slice HO777.out; subst eo15) | ((with_reducible refine gate_callee (f := 105) rfl ?_); refine goesL_ (some 14) rfl rfl Try.func105 (by kernel_rfl) rfl #[.bool false, .slice Ao15 t775.length co15, .int .i64 0] rfl (am_ rfl) ?_; (with_reducible refine (cutplaneref02_Form.calls k false _ _ t775 0 t778 t779 t782 _ ?side1 ?side2 A12.out).mono ?_); (case side1 => repeat (first | exact (Kd.R_reads' HO777.out).2.2 | (with_reducible refine Kd.C_alloc ?_ _) | (with_reducible refine Kd.C_drewN ?_ _) | (with_reducible refine Kd.C_drew ?_))); (case side2 => exact (Kd.R_reads' HO777.out).2.1); rintro e w16 ⟨v780, rfl, ho0, hb⟩; refine ⟨_, rfl, ?_⟩; have HO781 := A0_ (Kd.R_lower (Kd.R_new' ho0 (Kd.R_lt (by exact rm_ HO777.out))) (below_size qz_)); replace HO777 := A0_ (Kd.R_elder' (by exact rm_ HO777.out) (Kd.R_base ho0) hb); replace BK766 := bb_ BK766 hb; replace HB := hs_ hb; (try clear hb); (try clear ho0); have hcz17 := bc3_ BK766.out; have hfz17 := bf3_ BK766.out; obtain ⟨Ao18, co18, eo18⟩ := Kd.R_slice HO781.out; subst eo18))
  refine bodyPost_ret (results_cell_row rfl _ _ gb766 124 #[.bool t778, .slice Ao18 t779.length co18, .int .i64 t782] (0, 0) _ rfl (by (with_reducible repeat first | apply bN_ | apply bD_ | apply bA_); refine blk_put (cs := #[.bool t778, .slice Ao18 t779.length co18, .int .i64 0]) ?_ 2 _ rfl; refine blk_put (cs := #[.bool t778, .slice none 0 0, .int .i64 0]) ?_ 1 _ rfl; refine blk_put (cs := #[.bool false, .slice none 0 0, .int .i64 0]) ?_ 0 _ rfl; exact bm_ BK766.out) Try.underlying124 rfl (by kernel_rfl)) rfl ?_
  exact ⟨_, by first | rfl | (simp [errW_none, errW_some] <;> rfl) | (simp [*, errW_none, errW_some] <;> rfl), by (with_reducible repeat (first | apply Kd.R_alloc | apply Kd.R_drewN | apply Kd.R_drew)); exact Kd.R_mono (Kd.R_far (p := ⟨gb766, 2, none⟩) (Kd.R_far (p := ⟨gb766, 1, none⟩) (Kd.R_far (p := ⟨gb766, 0, none⟩) (Kd.R_types HO781.out BK766.out (by decide)) (fun _ hk => hk.2) (.bool t778)) (fun _ hk => hk.2) (.slice Ao18 t779.length co18)) (fun _ hk => hk.2) (.int .i64 t782)) (fun _ hk => trivial), qz_⟩
def cutplaneref20_beyond.f (k : Nat) (a0 : Int) (a1 : Int) (a2 : Int) : Option (Int) := (cutplaneref03_Class.f k a0 a1).bind fun t783 => (if t783 = 4 then ((cutplaneref03_Split.f a0 a1).bind fun bt784 => (if bt784.1 = true then (some (-1)) else (some 1))) else ((cutplaneref03_Value.f k a0 a1).bind fun bt787 => ((cutplaneref02_Int.f k a2).bind fun bt792 => ((cutplaneref02_Cmp.f k bt787.1 bt787.2.1 bt787.2.2 bt792.1 bt792.2.1 bt792.2.2).bind fun t797 => (some t797)))))
theorem cutplaneref20_beyond.calls (k : Nat) (a0 : Int) (a1 : Int) (a2 : Int) (r : Int) (w : World) (h : cutplaneref20_beyond.f k a0 a1 a2 = some r) :
  Calls Try.prog 66 #[.int .u8 a0, .int .u64 a1, .int .i64 a2] w fun e w' => e = .returned (.int .i64 r) ∧ Below w.heap.size w w' := by
 have hfd84_0 : ∀ (v0_ v1_ v2_ : Value) (w : World), (Instr.field 84 (.agg #[v0_, v1_, v2_]) 0).run Try.prog w = .ok v0_ w := fun _ _ _ _ => by kernel_rfl
 have HB := A0_ (Below.refl w.heap.size w)
 have H := h
 clear h
 unfold cutplaneref20_beyond.f at H
 obtain ⟨t783, A4, H⟩ := bs_ H
 try dsimp -simprocs only at H
 by_cases c5 : t783 = 4
 ·rw [if_pos c5] at H
  have c5b0 : (t783 == 4) = true := beq_iff_eq.mpr c5
  have c5b1 : (t783 != 4) = false := bne_eq_false_iff_eq.mpr c5
  clear c5
  obtain ⟨⟨t784, t785, t786⟩, A6, H⟩ := bs_ H
  try dsimp -simprocs only at H
  by_cases c7 : t784 = true
  ·subst c7
   rw [if_pos rfl] at H
   obtain rfl := Option.some.inj H
   go_enter Try.func66, Try.ntmps66
   go_wp2_with (first | ((with_reducible refine gate_callee (f := 41) rfl ?_); refine goesL_ (some 9) rfl rfl Try.func41 (by kernel_rfl) rfl #[.int .u8 a0, .int .u64 a1] rfl (am_ rfl) ?_; (with_reducible refine (cutplaneref03_Class.calls k a0 a1 t783 _ A4.out).mono ?_); rintro e w8 ⟨rfl, hb⟩; refine ⟨_, rfl, ?_⟩; replace HB := hs_ hb; (try clear hb)) | ((with_reducible refine gate_callee (f := 58) rfl ?_); refine goesL_ (some 13) rfl rfl Try.func58 (by kernel_rfl) rfl #[.int .u8 a0, .int .u64 a1] rfl (am_ rfl) ?_; (with_reducible refine (cutplaneref03_Split.calls a0 a1 true t785 t786 _ A6.out).mono ?_); rintro e w9 ⟨rfl, hb⟩; refine ⟨_, rfl, ?_⟩; replace HB := hs_ hb; (try clear hb)))
   go_ret
   exact ⟨by first | rfl | (simp [errW_none, errW_some] <;> rfl) | (simp [*, errW_none, errW_some] <;> rfl), qm_ HB.out⟩
  ·replace c7 := Bool.eq_false_iff.mpr c7
   subst c7
   rw [if_neg (show ¬ (false = true) by decide)] at H
   obtain rfl := Option.some.inj H
   go_enter Try.func66, Try.ntmps66
   go_wp2_with (first | ((with_reducible refine gate_callee (f := 41) rfl ?_); refine goesL_ (some 9) rfl rfl Try.func41 (by kernel_rfl) rfl #[.int .u8 a0, .int .u64 a1] rfl (am_ rfl) ?_; (with_reducible refine (cutplaneref03_Class.calls k a0 a1 t783 _ A4.out).mono ?_); rintro e w10 ⟨rfl, hb⟩; refine ⟨_, rfl, ?_⟩; replace HB := hs_ hb; (try clear hb)) | ((with_reducible refine gate_callee (f := 58) rfl ?_); refine goesL_ (some 13) rfl rfl Try.func58 (by kernel_rfl) rfl #[.int .u8 a0, .int .u64 a1] rfl (am_ rfl) ?_; (with_reducible refine (cutplaneref03_Split.calls a0 a1 false t785 t786 _ A6.out).mono ?_); rintro e w11 ⟨rfl, hb⟩; refine ⟨_, rfl, ?_⟩; replace HB := hs_ hb; (try clear hb)))
   go_ret
   exact ⟨by first | rfl | (simp [errW_none, errW_some] <;> rfl) | (simp [*, errW_none, errW_some] <;> rfl), qm_ HB.out⟩
 ·rw [if_neg c5] at H
  have c5b0 : (t783 == 4) = false := beq_eq_false_iff_ne.mpr c5
  have c5b1 : (t783 != 4) = true := bne_iff_ne.mpr c5
  obtain ⟨⟨t787, t788, t791⟩, A12, H⟩ := bs_ H
  try dsimp -simprocs only at H
  obtain ⟨⟨t792, t793, t796⟩, A13, H⟩ := bs_ H
  try dsimp -simprocs only at H
  obtain ⟨t797, A14, H⟩ := bs_ H
  try dsimp -simprocs only at H
  obtain rfl := Option.some.inj H
  go_enter Try.func66, Try.ntmps66
  go_wp2_with (first | ((with_reducible refine gate_callee (f := 41) rfl ?_); refine goesL_ (some 9) rfl rfl Try.func41 (by kernel_rfl) rfl #[.int .u8 a0, .int .u64 a1] rfl (am_ rfl) ?_; (with_reducible refine (cutplaneref03_Class.calls k a0 a1 t783 _ A4.out).mono ?_); rintro e w15 ⟨rfl, hb⟩; refine ⟨_, rfl, ?_⟩; replace HB := hs_ hb; (try clear hb)) | ((with_reducible refine gate_callee (f := 86) rfl ?_); refine goesL_ (some 17) rfl rfl Try.func86 (by kernel_rfl) rfl #[.int .u8 a0, .int .u64 a1] rfl (am_ rfl) ?_; (with_reducible refine (cutplaneref03_Value.calls k a0 a1 t787 t788 t791 _ A12.out).mono ?_); rintro e w16 ⟨v789, rfl, ho0, hb⟩; refine ⟨_, rfl, ?_⟩; have HO790 := A0_ (Kd.R_lower ho0 (below_size (qm_ HB.out))); replace HB := hs_ hb; (try clear hb); (try clear ho0)) | ((with_reducible refine gate_callee (f := 89) rfl ?_); refine goesL_ (some 19) rfl rfl Try.func89 (by kernel_rfl) rfl #[.int .i64 a2] rfl (am_ rfl) ?_; (with_reducible refine (cutplaneref02_Int.calls k a2 t792 t793 t796 _ A13.out).mono ?_); rintro e w17 ⟨v794, rfl, ho0, hb⟩; refine ⟨_, rfl, ?_⟩; have HO795 := A0_ (Kd.R_lower (Kd.R_new' ho0 (Kd.R_lt (by exact rm_ HO790.out))) (below_size (qm_ HB.out))); replace HO790 := A0_ (Kd.R_elder' (by exact rm_ HO790.out) (Kd.R_base ho0) hb); replace HB := hs_ hb; (try clear hb); (try clear ho0); obtain ⟨Ao18, co18, eo18⟩ := Kd.R_slice HO790.out; subst eo18; obtain ⟨Ao19, co19, eo19⟩ := Kd.R_slice HO795.out; subst eo19) | ((with_reducible refine gate_callee (f := 85) rfl ?_); refine goesL_ (some 20) rfl rfl Try.func85 (by kernel_rfl) rfl #[.agg #[.bool t787, .slice Ao18 t788.length co18, .int .i64 t791], .agg #[.bool t792, .slice Ao19 t793.length co19, .int .i64 t796]] rfl (am_ rfl) ?_; (with_reducible refine (cutplaneref02_Cmp.calls k t787 (fun k_ => some k_ = (.slice Ao18 t788.length co18 : Value).ownBlock) (.slice Ao18 t788.length co18) t788 t791 t792 (fun k_ => some k_ = (.slice Ao19 t793.length co19 : Value).ownBlock) (.slice Ao19 t793.length co19) t793 t796 t797 w _ ?side1 ?side2 ?side3 ?side4 ?side5 A14.out).mono ?_); (case side1 => repeat with_reducible first | exact HB.out | apply below_alloc | apply pw_below_drewN | apply below_drew1); (case side2 => exact Kd.R_tight rfl HO790.out); (case side3 => exact fun k_ e_ => (HO790.out.1 k_ e_.symm).2); (case side4 => exact Kd.R_tight rfl HO795.out); (case side5 => exact fun k_ e_ => (HO795.out.1 k_ e_.symm).2); rintro e w20 ⟨rfl, hb, hkp⟩; refine ⟨_, rfl, ?_⟩; replace HB := A0_ (hb); clear HO790 HO795; (try clear hb); (try clear hkp)))
  go_ret
  exact ⟨by first | rfl | (simp [errW_none, errW_some] <;> rfl) | (simp [*, errW_none, errW_some] <;> rfl), qm_ HB.out⟩
end Go.Proofs.Ytgaabjjenlbmhaa.PA
end
