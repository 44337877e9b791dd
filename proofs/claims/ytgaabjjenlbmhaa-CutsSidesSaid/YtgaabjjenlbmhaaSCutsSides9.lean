/- Steps of Go functions that the law CutsSides uses, told as plain Lean functions, each with the proof that its call comes to what it tells; words on memory; plain facts. No condition beyond those that each text names. -/
import Derived.Test.YtgaabjjenlbmhaaProg
import Derived.WalkMore
import Derived.Test.YtgaabjjenlbmhaaSCutsSides0
import Derived.Test.YtgaabjjenlbmhaaSCutsSides1
import Derived.Test.YtgaabjjenlbmhaaSCutsSides2
import Derived.Test.YtgaabjjenlbmhaaSCutsSides6
import Derived.Test.YtgaabjjenlbmhaaSCutsSides7
import Derived.Test.YtgaabjjenlbmhaaSCutsSides8
set_option maxHeartbeats 16000000
set_option maxRecDepth 100000
section
namespace Go.Proofs.Ytgaabjjenlbmhaa.PA
open Go.RowKit Go.Proofs.YtgaabjjenlbmhaaW.PrintWords Go.Proofs.YtgaabjjenlbmhaaW.PrintLast Go.Proofs.YtgaabjjenlbmhaaW.PrintMore
attribute [local go_sem] max2_int min2_int max_two min_two max_three min_three max_four min_four   -- for this text's walks alone
set_option linter.unusedVariables false
set_option linter.unusedSimpArgs false
attribute [local go_sem] run_store_func run_store_nilFunc
/-- where a number lies on one of the rays: against 0, 1 and -1, the side, and the error -/
def cuts_find.g (k : Nat) (f re im : Int) : List S54 → Option (Int × Int × Int × Int × Int)
 | [] => some (0, 0, 0, 0, 7)
 | r :: t => (word_Class.f k f (if r.f0 then re else im)).bind fun c => (word_Class.f k f (if r.f0 then im else re)).bind fun al => (cuts_against.f k f (if r.f0 then im else re) r.f1).bind fun q =>
  if c.1 ≠ 1 ∨ al.1 = 5 ∨ q = 0 ∨ decide (q < 0) ≠ r.f2 then cuts_find.g k f re im t else
   (word_Split.f k f (if r.f0 then re else im)).bind fun x => (cuts_against.f k f (if r.f0 then im else re) 0).bind fun s => (cuts_against.f k f (if r.f0 then im else re) 1).bind fun o => (cuts_against.f k f (if r.f0 then im else re) (-1)).bind fun m =>
    some (s, o, m, if x.1 then -1 else 1, 0)
def cuts_find.f (k : Nat) (f fn re im : Int) : Option (Int × Int × Int × Int × Int) :=
 (pair_Good.f k f re im).bind fun e => if e = 0 then (if cis fn then cuts_find.g k f re im (crays fn) else some (0, 0, 0, 0, 2)) else some (0, 0, 0, 0, e)
def cuts_find.post (fn s o m d er : Int) (w : World) (e : Ending) (w' : World) : Prop :=
 ∃ (A : Option Addr) (n c : Nat) (p : Int) (fv : Value), e = .returned (.tuple #[.agg #[.slice A n c, .int .u8 p, fv], .agg #[.int .i64 s, .int .i64 o, .int .i64 m, .int .i64 d], .int .i64 er]) ∧ (er = 0 → fv = csig fn) ∧ (fv = .nilFunc ∨ ∃ j, fv = .func (Fn.func j) #[] #[]) ∧ Below w.heap.size w w'
theorem crays_len (fn : Int) : (crays fn).length ≤ 2 := by
 unfold crays
 repeat' split
 all_goals simp
theorem set67 {w0 w : World} {g6 g7 : Nat} {x y z a b c d : Value} (B6 : w.heap[g6]? = some (.cells #[x, y, z] 94 (0, 0))) (B7 : w.heap[g7]? = some (.cells #[a, b, c, d] 96 (0, 0))) (ne : g6 ≠ g7) (hb : Below w0.heap.size w0 w) (l6 : w0.heap.size ≤ g6) (l7 : w0.heap.size ≤ g7) (v0 v1 v2 u0 u1 u2 u3 : Value) (W : World)
  (hW : (((((((w.setCell ⟨g6, 0, none⟩ v0).setCell ⟨g6, 1, none⟩ v1).setCell ⟨g6, 2, none⟩ v2).setCell ⟨g7, 0, none⟩ u0).setCell ⟨g7, 1, none⟩ u1).setCell ⟨g7, 2, none⟩ u2).setCell ⟨g7, 3, none⟩ u3) = W) :
  W.heap[g6]? = some (.cells #[v0, v1, v2] 94 (0, 0)) ∧ W.heap[g7]? = some (.cells #[u0, u1, u2, u3] 96 (0, 0)) ∧ Below w0.heap.size w0 W := by
 subst hW
 refine ⟨?_, ?_, ?_⟩
 ·exact blk_far (blk_far (blk_far (blk_far (blk_set (blk_set (blk_set B6 0 v0) 1 v1) 2 v2) (p := ⟨g7, 0, none⟩) ne u0) (p := ⟨g7, 1, none⟩) ne u1) (p := ⟨g7, 2, none⟩) ne u2) (p := ⟨g7, 3, none⟩) ne u3
 ·exact blk_set (blk_set (blk_set (blk_set (blk_far (blk_far (blk_far B7 (p := ⟨g6, 0, none⟩) (Ne.symm ne) v0) (p := ⟨g6, 1, none⟩) (Ne.symm ne) v1) (p := ⟨g6, 2, none⟩) (Ne.symm ne) v2) 0 u0) 1 u1) 2 u2) 3 u3
 ·exact below_set (below_set (below_set (below_set (below_set (below_set (below_set hb l6) l6) l6) l7) l7) l7) l7
set_option maxHeartbeats 4000000 in
set_option maxRecDepth 100000 in
theorem cuts_find.t1 (k : Nat) (a0 a1 a2_0 a2_1 e0 : Int) (w : World) (A1 : pair_Good.f k a0 a2_0 a2_1 = some e0) (he : e0 ≠ 0) : Calls Try.prog 63 #[.int .u8 a0, .int .u8 a1, .agg #[.int .u64 a2_0, .int .u64 a2_1]] w fun e w' => cuts_find.post a1 0 0 0 0 e0 w e w' := by
 have c1b : (e0 != 0) = true := bne_iff_ne.mpr he
 have hu25 := Try.underlying25
 have hu54 := Try.underlying54
 have HB := A0_ (Below.refl w.heap.size w)
 go_enter Try.func63, Try.ntmps63
 go_wp2_with (first | ((with_reducible refine gate_dst (N := 5) rfl ?_); refine box_event ?hg (N := 5) ?hd (cs := #[.int .u64 a2_0, .int .u64 a2_1]) (t := 25) ?hr ?_; (case hd => rfl); (case hg => rfl); (case hr => first | (go_simp; done) | (go_simp; rfl)); intro gb5 hg w5 hbox hb;  have n0_ := A0_ (below_step (qm_ HB.out) hb); have n1_ := A0_ hbox; have n2_ := A0_ ((by rw [hg]; exact (below_size (qm_ HB.out))) : w.heap.size ≤ gb5); clear HB; have HB := n0_; have BK5 := n1_; have GE5 := n2_; clear n0_ n1_ n2_ hb hbox hg) | ((with_reducible refine gate_dst (N := 6) rfl ?_); refine box_event ?hg (N := 6) ?hd (cs := #[.slice none 0 0, .int .u8 0, .nilFunc]) (t := 94) ?hr ?_; (case hd => rfl); (case hg => rfl); (case hr => first | (go_simp; done) | (go_simp; rfl)); intro gb6 hg w6 hbox hb; have LT5 := blk_lt BK5.out; have nb_ := A0_ (blk_below BK5.out hb); clear BK5; have BK5 := nb_; clear nb_; have n0_ := A0_ (below_step (qm_ HB.out) hb); have n1_ := A0_ hbox; have n2_ := A0_ ((by rw [hg]; exact (below_size (qm_ HB.out))) : w.heap.size ≤ gb6); clear HB; have HB := n0_; have BK6 := n1_; have GE6 := n2_; clear n0_ n1_ n2_; have NE56 := A0_ ((by rw [hg]; exact Nat.ne_of_lt LT5) : gb5 ≠ gb6); clear hb hbox hg) | ((with_reducible refine gate_dst (N := 7) rfl ?_); refine box_event ?hg (N := 7) ?hd (cs := #[.int .i64 0, .int .i64 0, .int .i64 0, .int .i64 0]) (t := 96) ?hr ?_; (case hd => rfl); (case hg => rfl); (case hr => first | (go_simp; done) | (go_simp; rfl)); intro gb7 hg w7 hbox hb; have LT6 := blk_lt BK6.out; have LT5b := blk_lt BK5.out; have nb_ := A0_ (blk_below BK5.out hb); clear BK5; have BK5 := nb_; clear nb_; have nb_ := A0_ (blk_below BK6.out hb); clear BK6; have BK6 := nb_; clear nb_; have n0_ := A0_ (below_step (qm_ HB.out) hb); have n1_ := A0_ hbox; have n2_ := A0_ ((by rw [hg]; exact (below_size (qm_ HB.out))) : w.heap.size ≤ gb7); clear HB; have HB := n0_; have BK7 := n1_; have GE7 := n2_; clear n0_ n1_ n2_; have NE67 := A0_ ((by rw [hg]; exact Nat.ne_of_lt LT6) : gb6 ≠ gb7); have NE57 := A0_ ((by rw [hg]; exact Nat.ne_of_lt LT5b) : gb5 ≠ gb7); clear LT5 LT6 LT5b hb hbox hg))
 have hcz5 := bc2_ BK5.out
 apply wp_scope_straight
 go_wp2_with (first | (go_at_call 25; (with_reducible refine (pair_Good.calls k a0 a2_0 a2_1 _ _ A1).mono ?_); rintro e w26 ⟨rfl, hb⟩; have nb_ := A0_ (blk_below BK5.out hb); clear BK5; have BK5 := nb_; clear nb_; have nb_ := A0_ (blk_below BK6.out hb); clear BK6; have BK6 := nb_; clear nb_; have nb_ := A0_ (blk_below BK7.out hb); clear BK7; have BK7 := nb_; clear nb_; have n1_ := A0_ (below_step (qm_ HB.out) hb); clear HB; have HB := n1_; clear n1_ hcz5; have hne67 := NE67.out; have hne76 := Ne.symm NE67.out; have hcz6_0 : w26.cell? ⟨gb6, 0, none⟩ = some (.slice none 0 0) := (blk_cell BK6.out 0).trans rfl; have hfz6_0 := blk_frozen BK6.out 0; have hcz6_1 : w26.cell? ⟨gb6, 1, none⟩ = some (.int .u8 0) := (blk_cell BK6.out 1).trans rfl; have hfz6_1 := blk_frozen BK6.out 1; have hcz6_2 : w26.cell? ⟨gb6, 2, none⟩ = some (.nilFunc) := (blk_cell BK6.out 2).trans rfl; have hfz6_2 := blk_frozen BK6.out 2;have hcz7_0 : w26.cell? ⟨gb7, 0, none⟩ = some (.int .i64 0) := (blk_cell BK7.out 0).trans rfl; have hfz7_0 := blk_frozen BK7.out 0; have hcz7_1 : w26.cell? ⟨gb7, 1, none⟩ = some (.int .i64 0) := (blk_cell BK7.out 1).trans rfl; have hfz7_1 := blk_frozen BK7.out 1; have hcz7_2 : w26.cell? ⟨gb7, 2, none⟩ = some (.int .i64 0) := (blk_cell BK7.out 2).trans rfl; have hfz7_2 := blk_frozen BK7.out 2; have hcz7_3 : w26.cell? ⟨gb7, 3, none⟩ = some (.int .i64 0) := (blk_cell BK7.out 3).trans rfl; have hfz7_3 := blk_frozen BK7.out 3; clear hb))
 have fin_ := fun W hW => set67 BK6.out BK7.out NE67.out HB.out GE6.out GE7.out (.slice none 0 0) (.int .u8 0) (.nilFunc) (.int .i64 0) (.int .i64 0) (.int .i64 0) (.int .i64 0) W hW
 generalize hW_ : (((((((w26.setCell ⟨gb6, 0, none⟩ (.slice none 0 0)).setCell ⟨gb6, 1, none⟩ (.int .u8 0)).setCell ⟨gb6, 2, none⟩ (.nilFunc)).setCell ⟨gb7, 0, none⟩ (.int .i64 0)).setCell ⟨gb7, 1, none⟩ (.int .i64 0)).setCell ⟨gb7, 2, none⟩ (.int .i64 0)).setCell ⟨gb7, 3, none⟩ (.int .i64 0)) = W
 obtain ⟨f6_, f7_, fb_⟩ := fin_ W hW_
 clear hW_ fin_
 have hd0 : W.cell? ⟨gb6, 0, none⟩ = some (.slice none 0 0) := (blk_cell f6_ 0).trans rfl
 have hd1 : W.cell? ⟨gb6, 1, none⟩ = some (.int .u8 0) := (blk_cell f6_ 1).trans rfl
 have hd2 : W.cell? ⟨gb6, 2, none⟩ = some (.nilFunc) := (blk_cell f6_ 2).trans rfl
 have he0 : W.cell? ⟨gb7, 0, none⟩ = some (.int .i64 0) := (blk_cell f7_ 0).trans rfl
 have he1 : W.cell? ⟨gb7, 1, none⟩ = some (.int .i64 0) := (blk_cell f7_ 1).trans rfl
 have he2 : W.cell? ⟨gb7, 2, none⟩ = some (.int .i64 0) := (blk_cell f7_ 2).trans rfl
 have he3 : W.cell? ⟨gb7, 3, none⟩ = some (.int .i64 0) := (blk_cell f7_ 3).trans rfl
 refine bodyPost_ret (v := .tuple #[.agg #[.slice none 0 0, .int .u8 0, .nilFunc], .agg #[.int .i64 0, .int .i64 0, .int .i64 0, .int .i64 0], .int .i64 (e0)]) ?_ rfl ⟨none, 0, 0, 0, .nilFunc, rfl, fun h => absurd h he, .inl rfl, fb_⟩
 simp [results, Try.results63, go_sem, hd0, hd1, hd2, he0, he1, he2, he3]
set_option maxHeartbeats 4000000 in
set_option maxRecDepth 100000 in
theorem cuts_find.t2 (k : Nat) (a0 a1 a2_0 a2_1 : Int) (w : World) (A1 : pair_Good.f k a0 a2_0 a2_1 = some 0) (hcis : cis a1 = false) : Calls Try.prog 63 #[.int .u8 a0, .int .u8 a1, .agg #[.int .u64 a2_0, .int .u64 a2_1]] w fun e w' => cuts_find.post a1 0 0 0 0 2 w e w' := by
 have hu25 := Try.underlying25
 have hu54 := Try.underlying54
 have HB := A0_ (Below.refl w.heap.size w)
 go_enter Try.func63, Try.ntmps63
 go_wp2_with (first | ((with_reducible refine gate_dst (N := 5) rfl ?_); refine box_event ?hg (N := 5) ?hd (cs := #[.int .u64 a2_0, .int .u64 a2_1]) (t := 25) ?hr ?_; (case hd => rfl); (case hg => rfl); (case hr => first | (go_simp; done) | (go_simp; rfl)); intro gb5 hg w5 hbox hb;  have n0_ := A0_ (below_step (qm_ HB.out) hb); have n1_ := A0_ hbox; have n2_ := A0_ ((by rw [hg]; exact (below_size (qm_ HB.out))) : w.heap.size ≤ gb5); clear HB; have HB := n0_; have BK5 := n1_; have GE5 := n2_; clear n0_ n1_ n2_ hb hbox hg) | ((with_reducible refine gate_dst (N := 6) rfl ?_); refine box_event ?hg (N := 6) ?hd (cs := #[.slice none 0 0, .int .u8 0, .nilFunc]) (t := 94) ?hr ?_; (case hd => rfl); (case hg => rfl); (case hr => first | (go_simp; done) | (go_simp; rfl)); intro gb6 hg w6 hbox hb; have LT5 := blk_lt BK5.out; have nb_ := A0_ (blk_below BK5.out hb); clear BK5; have BK5 := nb_; clear nb_; have n0_ := A0_ (below_step (qm_ HB.out) hb); have n1_ := A0_ hbox; have n2_ := A0_ ((by rw [hg]; exact (below_size (qm_ HB.out))) : w.heap.size ≤ gb6); clear HB; have HB := n0_; have BK6 := n1_; have GE6 := n2_; clear n0_ n1_ n2_; have NE56 := A0_ ((by rw [hg]; exact Nat.ne_of_lt LT5) : gb5 ≠ gb6); clear hb hbox hg) | ((with_reducible refine gate_dst (N := 7) rfl ?_); refine box_event ?hg (N := 7) ?hd (cs := #[.int .i64 0, .int .i64 0, .int .i64 0, .int .i64 0]) (t := 96) ?hr ?_; (case hd => rfl); (case hg => rfl); (case hr => first | (go_simp; done) | (go_simp; rfl)); intro gb7 hg w7 hbox hb; have LT6 := blk_lt BK6.out; have LT5b := blk_lt BK5.out; have nb_ := A0_ (blk_below BK5.out hb); clear BK5; have BK5 := nb_; clear nb_; have nb_ := A0_ (blk_below BK6.out hb); clear BK6; have BK6 := nb_; clear nb_; have n0_ := A0_ (below_step (qm_ HB.out) hb); have n1_ := A0_ hbox; have n2_ := A0_ ((by rw [hg]; exact (below_size (qm_ HB.out))) : w.heap.size ≤ gb7); clear HB; have HB := n0_; have BK7 := n1_; have GE7 := n2_; clear n0_ n1_ n2_; have NE67 := A0_ ((by rw [hg]; exact Nat.ne_of_lt LT6) : gb6 ≠ gb7); have NE57 := A0_ ((by rw [hg]; exact Nat.ne_of_lt LT5b) : gb5 ≠ gb7); clear LT5 LT6 LT5b hb hbox hg))
 have hcz5 := bc2_ BK5.out
 apply wp_scope_straight
 go_wp2_with (first | (go_at_call 25; (with_reducible refine (pair_Good.calls k a0 a2_0 a2_1 _ _ A1).mono ?_); rintro e w26 ⟨rfl, hb⟩; have nb_ := A0_ (blk_below BK5.out hb); clear BK5; have BK5 := nb_; clear nb_; have nb_ := A0_ (blk_below BK6.out hb); clear BK6; have BK6 := nb_; clear nb_; have nb_ := A0_ (blk_below BK7.out hb); clear BK7; have BK7 := nb_; clear nb_; have n1_ := A0_ (below_step (qm_ HB.out) hb); clear HB; have HB := n1_; clear n1_ hcz5; have hne67 := NE67.out; have hne76 := Ne.symm NE67.out; have hcz6_0 : w26.cell? ⟨gb6, 0, none⟩ = some (.slice none 0 0) := (blk_cell BK6.out 0).trans rfl; have hfz6_0 := blk_frozen BK6.out 0; have hcz6_1 : w26.cell? ⟨gb6, 1, none⟩ = some (.int .u8 0) := (blk_cell BK6.out 1).trans rfl; have hfz6_1 := blk_frozen BK6.out 1; have hcz6_2 : w26.cell? ⟨gb6, 2, none⟩ = some (.nilFunc) := (blk_cell BK6.out 2).trans rfl; have hfz6_2 := blk_frozen BK6.out 2;have hcz7_0 : w26.cell? ⟨gb7, 0, none⟩ = some (.int .i64 0) := (blk_cell BK7.out 0).trans rfl; have hfz7_0 := blk_frozen BK7.out 0; have hcz7_1 : w26.cell? ⟨gb7, 1, none⟩ = some (.int .i64 0) := (blk_cell BK7.out 1).trans rfl; have hfz7_1 := blk_frozen BK7.out 1; have hcz7_2 : w26.cell? ⟨gb7, 2, none⟩ = some (.int .i64 0) := (blk_cell BK7.out 2).trans rfl; have hfz7_2 := blk_frozen BK7.out 2; have hcz7_3 : w26.cell? ⟨gb7, 3, none⟩ = some (.int .i64 0) := (blk_cell BK7.out 3).trans rfl; have hfz7_3 := blk_frozen BK7.out 3; clear hb) | (go_at_call 68; (with_reducible refine (cuts_table.no a1 hcis _).mono ?_); rintro e w34 ⟨A_, c_, rfl, hb⟩; have nb_ := A0_ (blk_below BK5.out hb); clear BK5; have BK5 := nb_; clear nb_; have nb_ := A0_ (blk_below BK6.out hb); clear BK6; have BK6 := nb_; clear nb_; have nb_ := A0_ (blk_below BK7.out hb); clear BK7; have BK7 := nb_; clear nb_; have n1_ := A0_ (below_step (qm_ HB.out) hb); clear HB; have HB := n1_; clear n1_;  clear hb) | ((with_reducible refine gate_dst (N := 10) rfl ?_); refine box_event ?hg (N := 10) ?hd (cs := #[.slice none 0 0, .int .u8 0, .nilFunc]) (t := 94) ?hr ?_; (case hd => rfl); (case hg => rfl); (case hr => first | (go_simp; done) | (go_simp; rfl)); intro gb10 hg w10 hbox hb; have LT5 := blk_lt BK5.out; have LT6 := blk_lt BK6.out; have LT7 := blk_lt BK7.out; have nb_ := A0_ (blk_below BK5.out hb); clear BK5; have BK5 := nb_; clear nb_; have nb_ := A0_ (blk_below BK6.out hb); clear BK6; have BK6 := nb_; clear nb_; have nb_ := A0_ (blk_below BK7.out hb); clear BK7; have BK7 := nb_; clear nb_; have n0_ := A0_ (below_step (qm_ HB.out) hb); have n1_ := A0_ hbox; have n2_ := A0_ ((by rw [hg]; exact (below_size (qm_ HB.out))) : w.heap.size ≤ gb10); clear HB; have HB := n0_; have BK10 := n1_; have GE10 := n2_; clear n0_ n1_ n2_; have NE510 := A0_ ((by rw [hg]; exact Nat.ne_of_lt LT5) : gb5 ≠ gb10); have NE610 := A0_ ((by rw [hg]; exact Nat.ne_of_lt LT6) : gb6 ≠ gb10); have NE710 := A0_ ((by rw [hg]; exact Nat.ne_of_lt LT7) : gb7 ≠ gb10); clear LT5 LT6 LT7 hb hbox hg hcz6_0 hfz6_0 hcz6_1 hfz6_1 hcz6_2 hfz6_2 hcz7_0 hfz7_0 hcz7_1 hfz7_1 hcz7_2 hfz7_2 hcz7_3 hfz7_3; have hne := NE610.out; have hne' := Ne.symm NE610.out; have hnf := NE710.out; have hnf' := Ne.symm NE710.out; have hcz10_0 : w10.cell? ⟨gb10, 0, none⟩ = some (.slice none 0 0) := (blk_cell BK10.out 0).trans rfl; have hfz10_0 := blk_frozen BK10.out 0; have hcz10_1 : w10.cell? ⟨gb10, 1, none⟩ = some (.int .u8 0) := (blk_cell BK10.out 1).trans rfl; have hfz10_1 := blk_frozen BK10.out 1; have hcz10_2 : w10.cell? ⟨gb10, 2, none⟩ = some (.nilFunc) := (blk_cell BK10.out 2).trans rfl; have hfz10_2 := blk_frozen BK10.out 2;have hcz6_0 : w10.cell? ⟨gb6, 0, none⟩ = some (.slice none 0 0) := (blk_cell BK6.out 0).trans rfl; have hfz6_0 := blk_frozen BK6.out 0; have hcz6_1 : w10.cell? ⟨gb6, 1, none⟩ = some (.int .u8 0) := (blk_cell BK6.out 1).trans rfl; have hfz6_1 := blk_frozen BK6.out 1; have hcz6_2 : w10.cell? ⟨gb6, 2, none⟩ = some (.nilFunc) := (blk_cell BK6.out 2).trans rfl; have hfz6_2 := blk_frozen BK6.out 2;have hcz7_0 : w10.cell? ⟨gb7, 0, none⟩ = some (.int .i64 0) := (blk_cell BK7.out 0).trans rfl; have hfz7_0 := blk_frozen BK7.out 0; have hcz7_1 : w10.cell? ⟨gb7, 1, none⟩ = some (.int .i64 0) := (blk_cell BK7.out 1).trans rfl; have hfz7_1 := blk_frozen BK7.out 1; have hcz7_2 : w10.cell? ⟨gb7, 2, none⟩ = some (.int .i64 0) := (blk_cell BK7.out 2).trans rfl; have hfz7_2 := blk_frozen BK7.out 2; have hcz7_3 : w10.cell? ⟨gb7, 3, none⟩ = some (.int .i64 0) := (blk_cell BK7.out 3).trans rfl; have hfz7_3 := blk_frozen BK7.out 3;))
 have BK6 := A0_ (blk_far (blk_far (blk_far BK6.out (p := ⟨gb10, 0, none⟩) NE610.out (.slice A_ (crays a1).length c_)) (p := ⟨gb10, 1, none⟩) NE610.out (.int .u8 (cpar a1))) (p := ⟨gb10, 2, none⟩) NE610.out .nilFunc)
 have BK7 := A0_ (blk_far (blk_far (blk_far BK7.out (p := ⟨gb10, 0, none⟩) NE710.out (.slice A_ (crays a1).length c_)) (p := ⟨gb10, 1, none⟩) NE710.out (.int .u8 (cpar a1))) (p := ⟨gb10, 2, none⟩) NE710.out .nilFunc)
 have HB := A0_ (below_set (below_set (below_set HB.out GE10.out (j := 0) (v := .slice A_ (crays a1).length c_)) GE10.out (j := 1) (v := .int .u8 (cpar a1))) GE10.out (j := 2) (v := .nilFunc))
 have fin_ := fun W hW => set67 BK6.out BK7.out NE67.out HB.out GE6.out GE7.out (.slice none 0 0) (.int .u8 0) (.nilFunc) (.int .i64 0) (.int .i64 0) (.int .i64 0) (.int .i64 0) W hW
 generalize hW_ : ((((((((((w10.setCell ⟨gb10, 0, none⟩ (.slice A_ (crays a1).length c_)).setCell ⟨gb10, 1, none⟩ (.int .u8 (cpar a1))).setCell ⟨gb10, 2, none⟩ .nilFunc).setCell ⟨gb6, 0, none⟩ (.slice none 0 0)).setCell ⟨gb6, 1, none⟩ (.int .u8 0)).setCell ⟨gb6, 2, none⟩ (.nilFunc)).setCell ⟨gb7, 0, none⟩ (.int .i64 0)).setCell ⟨gb7, 1, none⟩ (.int .i64 0)).setCell ⟨gb7, 2, none⟩ (.int .i64 0)).setCell ⟨gb7, 3, none⟩ (.int .i64 0)) = W
 obtain ⟨f6_, f7_, fb_⟩ := fin_ W hW_
 clear hW_ fin_
 have hd0 : W.cell? ⟨gb6, 0, none⟩ = some (.slice none 0 0) := (blk_cell f6_ 0).trans rfl
 have hd1 : W.cell? ⟨gb6, 1, none⟩ = some (.int .u8 0) := (blk_cell f6_ 1).trans rfl
 have hd2 : W.cell? ⟨gb6, 2, none⟩ = some (.nilFunc) := (blk_cell f6_ 2).trans rfl
 have he0 : W.cell? ⟨gb7, 0, none⟩ = some (.int .i64 0) := (blk_cell f7_ 0).trans rfl
 have he1 : W.cell? ⟨gb7, 1, none⟩ = some (.int .i64 0) := (blk_cell f7_ 1).trans rfl
 have he2 : W.cell? ⟨gb7, 2, none⟩ = some (.int .i64 0) := (blk_cell f7_ 2).trans rfl
 have he3 : W.cell? ⟨gb7, 3, none⟩ = some (.int .i64 0) := (blk_cell f7_ 3).trans rfl
 refine bodyPost_ret (v := .tuple #[.agg #[.slice none 0 0, .int .u8 0, .nilFunc], .agg #[.int .i64 0, .int .i64 0, .int .i64 0, .int .i64 0], .int .i64 (2)]) ?_ rfl ⟨none, 0, 0, 0, .nilFunc, rfl, fun h => absurd h (by decide), .inl rfl, fb_⟩
 simp [results, Try.results63, go_sem, hd0, hd1, hd2, he0, he1, he2, he3]
set_option maxHeartbeats 4000000 in
set_option maxRecDepth 100000 in
theorem cuts_find.t3 (k : Nat) (a0 a1 a2_0 a2_1 s o m d er : Int) (w : World) (A1 : pair_Good.f k a0 a2_0 a2_1 = some 0) (hcis : cis a1 = true) (h : cuts_find.g k a0 a2_0 a2_1 (crays a1) = some (s, o, m, d, er)) : Calls Try.prog 63 #[.int .u8 a0, .int .u8 a1, .agg #[.int .u64 a2_0, .int .u64 a2_1]] w fun e w' => cuts_find.post a1 s o m d er w e w' := by
 have A2 := A0_ h
 have HLen := A0_ (crays_len a1)
 clear h
 have hu25 := Try.underlying25
 have hu54 := Try.underlying54
 have HB := A0_ (Below.refl w.heap.size w)
 go_enter Try.func63, Try.ntmps63
 go_wp2_with (first | ((with_reducible refine gate_dst (N := 5) rfl ?_); refine box_event ?hg (N := 5) ?hd (cs := #[.int .u64 a2_0, .int .u64 a2_1]) (t := 25) ?hr ?_; (case hd => rfl); (case hg => rfl); (case hr => first | (go_simp; done) | (go_simp; rfl)); intro gb5 hg w5 hbox hb;  have n0_ := A0_ (below_step (qm_ HB.out) hb); have n1_ := A0_ hbox; have n2_ := A0_ ((by rw [hg]; exact (below_size (qm_ HB.out))) : w.heap.size ≤ gb5); clear HB; have HB := n0_; have BK5 := n1_; have GE5 := n2_; clear n0_ n1_ n2_ hb hbox hg) | ((with_reducible refine gate_dst (N := 6) rfl ?_); refine box_event ?hg (N := 6) ?hd (cs := #[.slice none 0 0, .int .u8 0, .nilFunc]) (t := 94) ?hr ?_; (case hd => rfl); (case hg => rfl); (case hr => first | (go_simp; done) | (go_simp; rfl)); intro gb6 hg w6 hbox hb; have LT5 := blk_lt BK5.out; have nb_ := A0_ (blk_below BK5.out hb); clear BK5; have BK5 := nb_; clear nb_; have n0_ := A0_ (below_step (qm_ HB.out) hb); have n1_ := A0_ hbox; have n2_ := A0_ ((by rw [hg]; exact (below_size (qm_ HB.out))) : w.heap.size ≤ gb6); clear HB; have HB := n0_; have BK6 := n1_; have GE6 := n2_; clear n0_ n1_ n2_; have NE56 := A0_ ((by rw [hg]; exact Nat.ne_of_lt LT5) : gb5 ≠ gb6); clear hb hbox hg) | ((with_reducible refine gate_dst (N := 7) rfl ?_); refine box_event ?hg (N := 7) ?hd (cs := #[.int .i64 0, .int .i64 0, .int .i64 0, .int .i64 0]) (t := 96) ?hr ?_; (case hd => rfl); (case hg => rfl); (case hr => first | (go_simp; done) | (go_simp; rfl)); intro gb7 hg w7 hbox hb; have LT6 := blk_lt BK6.out; have LT5b := blk_lt BK5.out; have nb_ := A0_ (blk_below BK5.out hb); clear BK5; have BK5 := nb_; clear nb_; have nb_ := A0_ (blk_below BK6.out hb); clear BK6; have BK6 := nb_; clear nb_; have n0_ := A0_ (below_step (qm_ HB.out) hb); have n1_ := A0_ hbox; have n2_ := A0_ ((by rw [hg]; exact (below_size (qm_ HB.out))) : w.heap.size ≤ gb7); clear HB; have HB := n0_; have BK7 := n1_; have GE7 := n2_; clear n0_ n1_ n2_; have NE67 := A0_ ((by rw [hg]; exact Nat.ne_of_lt LT6) : gb6 ≠ gb7); have NE57 := A0_ ((by rw [hg]; exact Nat.ne_of_lt LT5b) : gb5 ≠ gb7); clear LT5 LT6 LT5b hb hbox hg))
 have hcz5 := bc2_ BK5.out
 apply wp_scope_straight
 go_wp2_with (first | (go_at_call 25; (with_reducible refine (pair_Good.calls k a0 a2_0 a2_1 _ _ A1).mono ?_); rintro e w26 ⟨rfl, hb⟩; have nb_ := A0_ (blk_below BK5.out hb); clear BK5; have BK5 := nb_; clear nb_; have nb_ := A0_ (blk_below BK6.out hb); clear BK6; have BK6 := nb_; clear nb_; have nb_ := A0_ (blk_below BK7.out hb); clear BK7; have BK7 := nb_; clear nb_; have n1_ := A0_ (below_step (qm_ HB.out) hb); clear HB; have HB := n1_; clear n1_ hcz5; have hne67 := NE67.out; have hne76 := Ne.symm NE67.out; have hcz6_0 : w26.cell? ⟨gb6, 0, none⟩ = some (.slice none 0 0) := (blk_cell BK6.out 0).trans rfl; have hfz6_0 := blk_frozen BK6.out 0; have hcz6_1 : w26.cell? ⟨gb6, 1, none⟩ = some (.int .u8 0) := (blk_cell BK6.out 1).trans rfl; have hfz6_1 := blk_frozen BK6.out 1; have hcz6_2 : w26.cell? ⟨gb6, 2, none⟩ = some (.nilFunc) := (blk_cell BK6.out 2).trans rfl; have hfz6_2 := blk_frozen BK6.out 2;have hcz7_0 : w26.cell? ⟨gb7, 0, none⟩ = some (.int .i64 0) := (blk_cell BK7.out 0).trans rfl; have hfz7_0 := blk_frozen BK7.out 0; have hcz7_1 : w26.cell? ⟨gb7, 1, none⟩ = some (.int .i64 0) := (blk_cell BK7.out 1).trans rfl; have hfz7_1 := blk_frozen BK7.out 1; have hcz7_2 : w26.cell? ⟨gb7, 2, none⟩ = some (.int .i64 0) := (blk_cell BK7.out 2).trans rfl; have hfz7_2 := blk_frozen BK7.out 2; have hcz7_3 : w26.cell? ⟨gb7, 3, none⟩ = some (.int .i64 0) := (blk_cell BK7.out 3).trans rfl; have hfz7_3 := blk_frozen BK7.out 3; clear hb) | (go_at_call 68; (with_reducible refine (cuts_table.yes a1 hcis _).mono ?_); rintro e w34 ⟨A_, c_, rfl, ho, hb⟩; have nb_ := A0_ (blk_below BK5.out hb); clear BK5; have BK5 := nb_; clear nb_; have nb_ := A0_ (blk_below BK6.out hb); clear BK6; have BK6 := nb_; clear nb_; have nb_ := A0_ (blk_below BK7.out hb); clear BK7; have BK7 := nb_; clear nb_; have HB0_ := HB.out; have n1_ := A0_ (below_step (qm_ HB.out) hb); clear HB; have HB := n1_; clear n1_; have n0_ := A0_ (Kd.R_lower ho (below_size HB0_)); have HO := n0_; clear n0_ ho hb HB0_) | ((with_reducible refine gate_dst (N := 10) rfl ?_); refine box_event ?hg (N := 10) ?hd (cs := #[.slice none 0 0, .int .u8 0, .nilFunc]) (t := 94) ?hr ?_; (case hd => rfl); (case hg => rfl); (case hr => first | (go_simp; done) | (go_simp; rfl)); intro gb10 hg w10 hbox hb; have LT5 := blk_lt BK5.out; have LT6 := blk_lt BK6.out; have LT7 := blk_lt BK7.out; have nb_ := A0_ (blk_below BK5.out hb); clear BK5; have BK5 := nb_; clear nb_; have nb_ := A0_ (blk_below BK6.out hb); clear BK6; have BK6 := nb_; clear nb_; have nb_ := A0_ (blk_below BK7.out hb); clear BK7; have BK7 := nb_; clear nb_; have n0_ := A0_ (below_step (qm_ HB.out) hb); have n1_ := A0_ hbox; have n2_ := A0_ ((by rw [hg]; exact (below_size (qm_ HB.out))) : w.heap.size ≤ gb10); clear HB; have HB := n0_; have BK10 := n1_; have GE10 := n2_; clear n0_ n1_ n2_; have NE510 := A0_ ((by rw [hg]; exact Nat.ne_of_lt LT5) : gb5 ≠ gb10); have NE610 := A0_ ((by rw [hg]; exact Nat.ne_of_lt LT6) : gb6 ≠ gb10); have NE710 := A0_ ((by rw [hg]; exact Nat.ne_of_lt LT7) : gb7 ≠ gb10); clear LT5 LT6 LT7; have nb_ := A0_ (Kd.R_below HO.out hb); clear HO; have HO := nb_; clear nb_ hb hbox hg hcz6_0 hfz6_0 hcz6_1 hfz6_1 hcz6_2 hfz6_2 hcz7_0 hfz7_0 hcz7_1 hfz7_1 hcz7_2 hfz7_2 hcz7_3 hfz7_3; have hne := NE610.out; have hne' := Ne.symm NE610.out; have hnf := NE710.out; have hnf' := Ne.symm NE710.out; have hcz10_0 : w10.cell? ⟨gb10, 0, none⟩ = some (.slice none 0 0) := (blk_cell BK10.out 0).trans rfl; have hfz10_0 := blk_frozen BK10.out 0; have hcz10_1 : w10.cell? ⟨gb10, 1, none⟩ = some (.int .u8 0) := (blk_cell BK10.out 1).trans rfl; have hfz10_1 := blk_frozen BK10.out 1; have hcz10_2 : w10.cell? ⟨gb10, 2, none⟩ = some (.nilFunc) := (blk_cell BK10.out 2).trans rfl; have hfz10_2 := blk_frozen BK10.out 2;have hcz6_0 : w10.cell? ⟨gb6, 0, none⟩ = some (.slice none 0 0) := (blk_cell BK6.out 0).trans rfl; have hfz6_0 := blk_frozen BK6.out 0; have hcz6_1 : w10.cell? ⟨gb6, 1, none⟩ = some (.int .u8 0) := (blk_cell BK6.out 1).trans rfl; have hfz6_1 := blk_frozen BK6.out 1; have hcz6_2 : w10.cell? ⟨gb6, 2, none⟩ = some (.nilFunc) := (blk_cell BK6.out 2).trans rfl; have hfz6_2 := blk_frozen BK6.out 2;have hcz7_0 : w10.cell? ⟨gb7, 0, none⟩ = some (.int .i64 0) := (blk_cell BK7.out 0).trans rfl; have hfz7_0 := blk_frozen BK7.out 0; have hcz7_1 : w10.cell? ⟨gb7, 1, none⟩ = some (.int .i64 0) := (blk_cell BK7.out 1).trans rfl; have hfz7_1 := blk_frozen BK7.out 1; have hcz7_2 : w10.cell? ⟨gb7, 2, none⟩ = some (.int .i64 0) := (blk_cell BK7.out 2).trans rfl; have hfz7_2 := blk_frozen BK7.out 2; have hcz7_3 : w10.cell? ⟨gb7, 3, none⟩ = some (.int .i64 0) := (blk_cell BK7.out 3).trans rfl; have hfz7_3 := blk_frozen BK7.out 3;))
 have f5_ := blk_far (blk_far (blk_far BK5.out (p := ⟨gb10, 0, none⟩) NE510.out (.slice A_ (crays a1).length c_)) (p := ⟨gb10, 1, none⟩) NE510.out (.int .u8 (cpar a1))) (p := ⟨gb10, 2, none⟩) NE510.out (.func (Fn.func (cno a1)) #[] #[])
 have f6_ := blk_far (blk_far (blk_far BK6.out (p := ⟨gb10, 0, none⟩) NE610.out (.slice A_ (crays a1).length c_)) (p := ⟨gb10, 1, none⟩) NE610.out (.int .u8 (cpar a1))) (p := ⟨gb10, 2, none⟩) NE610.out (.func (Fn.func (cno a1)) #[] #[])
 have f7_ := blk_far (blk_far (blk_far BK7.out (p := ⟨gb10, 0, none⟩) NE710.out (.slice A_ (crays a1).length c_)) (p := ⟨gb10, 1, none⟩) NE710.out (.int .u8 (cpar a1))) (p := ⟨gb10, 2, none⟩) NE710.out (.func (Fn.func (cno a1)) #[] #[])
 have f10_ := blk_set (blk_set (blk_set BK10.out 0 (.slice A_ (crays a1).length c_)) 1 (.int .u8 (cpar a1))) 2 (.func (Fn.func (cno a1)) #[] #[])
 have fo_ := Kd.R_set (Kd.R_set (Kd.R_set HO.out BK10.out ne94 0 (.slice A_ (crays a1).length c_)) (blk_set BK10.out 0 (.slice A_ (crays a1).length c_)) ne94 1 (.int .u8 (cpar a1))) (blk_set (blk_set BK10.out 0 (.slice A_ (crays a1).length c_)) 1 (.int .u8 (cpar a1))) ne94 2 (.func (Fn.func (cno a1)) #[] #[])
 have fb_ := below_set (below_set (below_set HB.out GE10.out (j := 0) (v := .slice A_ (crays a1).length c_)) GE10.out (j := 1) (v := .int .u8 (cpar a1))) GE10.out (j := 2) (v := .func (Fn.func (cno a1)) #[] #[])
 clear hcz6_0 hfz6_0 hcz6_1 hfz6_1 hcz6_2 hfz6_2 hcz7_0 hfz7_0 hcz7_1 hfz7_1 hcz7_2 hfz7_2 hcz7_3 hfz7_3 hcz10_0 hfz10_0 hcz10_1 hfz10_1 hcz10_2 hfz10_2 BK5 BK6 BK7 BK10 HO HB hne hne' hnf hnf'
 generalize ((w10.setCell ⟨gb10, 0, none⟩ (.slice A_ (crays a1).length c_)).setCell ⟨gb10, 1, none⟩ (.int .u8 (cpar a1))).setCell ⟨gb10, 2, none⟩ (.func (Fn.func (cno a1)) #[] #[]) = wl at f5_ f6_ f7_ f10_ fo_ fb_ ⊢
 have BK5 := A0_ f5_
 have BK6 := A0_ f6_
 have BK7 := A0_ f7_
 have BK10 := A0_ f10_
 have HO := A0_ fo_
 have HB := A0_ fb_
 clear f5_ f6_ f7_ f10_ fo_ fb_
 go_step3
 have hcz10_0 : wl.cell? ⟨gb10, 0, none⟩ = some (.slice A_ (crays a1).length c_) := (blk_cell BK10.out 0).trans rfl
 go_wp2
 clear hcz10_0
 go_loopg [44] (crays a1).length (fun kq v44 w' => ∃ (i : Nat), v44 = .int .i64 (i : Int) ∧ Aside0 (i ≤ (crays a1).length) ∧ Aside0 (kq = (crays a1).length - i) ∧ Aside0 (cuts_find.g k a0 a2_0 a2_1 ((crays a1).drop i) = some (s, o, m, d, er)) ∧ Aside0 (Kd.R k54 54 w' w.heap.size (fun _ => True) (.slice A_ (crays a1).length c_) (crays a1)) ∧ Aside0 (w'.heap[gb5]? = some (.cells #[.int .u64 a2_0, .int .u64 a2_1] 25 (0, 0))) ∧ Aside0 (w'.heap[gb6]? = some (.cells #[.slice none 0 0, .int .u8 0, .nilFunc] 94 (0, 0))) ∧ Aside0 (w'.heap[gb7]? = some (.cells #[.int .i64 0, .int .i64 0, .int .i64 0, .int .i64 0] 96 (0, 0))) ∧ Aside0 (w'.heap[gb10]? = some (.cells #[.slice A_ (crays a1).length c_, .int .u8 (cpar a1), .func (Fn.func (cno a1)) #[] #[]] 94 (0, 0))) ∧ Aside0 (Below w.heap.size w w'))
 case atStart => exact ⟨0, rfl, ⟨Nat.zero_le _⟩, ⟨rfl⟩, A2, HO, BK5, BK6, BK7, BK10, HB⟩
 case round =>
  clear A2 HO BK5 BK6 BK7 BK10 HB
  obtain ⟨i, rfl, HL, HK, HA, HO, BK5, BK6, BK7, BK10, HB⟩ := hrel
  by_cases c8 : i < (crays a1).length
  ·have c8b : decide ((i : Int) < ((crays a1).length : Int)) = true := decide_eq_true (by omega)
   have p_ : 0 ≤ (i : Int) := by omega
   have q_ : (i : Int) < ((crays a1).length : Int) := by omega
   obtain ⟨ad, e_, hx0, hx1, hx2⟩ := at_T54 (Kd.R_reads' HO.out).2.2 (i : Int) p_ q_
   cases e_
   simp only [Int.toNat_natCast] at hx0 hx1 hx2
   have hdrop : (crays a1).drop i = rd_T54 (crays a1) (i : Int) :: (crays a1).drop (i + 1) := by
    rw [List.drop_eq_getElem_cons c8]; congr 1; unfold rd_T54; simp [c8]
   have H := HA.out
   rw [hdrop] at H
   generalize rd_T54 (crays a1) (i : Int) = r at *
   obtain ⟨f0, f1, f2⟩ := r
   clear hdrop HA
   replace p_ := eq_true p_
   replace q_ := eq_true q_
   have HBO := HB
   have BK5O := BK5
   clear HB
   have HB := A0_ (Below.refl wr.heap.size wr)
   have HG := A0_ H
   have HC8 := A0_ c8
   clear H c8
   go_upto_region 10 with (first | ((with_reducible refine gate_dst (N := 13) rfl ?_); refine box_event ?hg (N := 13) ?hd (cs := #[.bool false, .int .i64 0, .bool false]) (t := 54) ?hr ?_; (case hd => rfl); (case hg => rfl); (case hr => first | (go_simp; done) | (go_simp; rfl)); intro gb13 hg w13 hbox hb; have LT5 := blk_lt BK5.out; have nb_ := A0_ (blk_below BK5.out hb); clear BK5; have BK5 := nb_; clear nb_; have n0_ := A0_ (below_step (qm_ HB.out) hb); have n1_ := A0_ hbox; have n2_ := A0_ ((by rw [hg]; exact (below_size (qm_ HB.out))) : wr.heap.size ≤ gb13); clear HB; have HB := n0_; have BK13 := n1_; have GE13 := n2_; clear n0_ n1_ n2_; have NE513 := A0_ ((by rw [hg]; exact Nat.ne_of_lt LT5) : gb5 ≠ gb13); clear LT5 hb hbox hg hx0 hx1 hx2; have hcz13_0 : w13.cell? ⟨gb13, 0, none⟩ = some (.bool false) := (blk_cell BK13.out 0).trans rfl; have hfz13_0 := blk_frozen BK13.out 0; have hcz13_1 : w13.cell? ⟨gb13, 1, none⟩ = some (.int .i64 0) := (blk_cell BK13.out 1).trans rfl; have hfz13_1 := blk_frozen BK13.out 1; have hcz13_2 : w13.cell? ⟨gb13, 2, none⟩ = some (.bool false) := (blk_cell BK13.out 2).trans rfl; have hfz13_2 := blk_frozen BK13.out 2;))
   have f5_ := blk_far (blk_far (blk_far BK5.out (p := ⟨gb13, 0, none⟩) NE513.out (.bool f0)) (p := ⟨gb13, 1, none⟩) NE513.out (.int .i64 f1)) (p := ⟨gb13, 2, none⟩) NE513.out (.bool f2)
   have f13_ := blk_set (blk_set (blk_set BK13.out 0 (.bool f0)) 1 (.int .i64 f1)) 2 (.bool f2)
   have fb_ := below_set (below_set (below_set HB.out GE13.out (j := 0) (v := .bool f0)) GE13.out (j := 1) (v := .int .i64 f1)) GE13.out (j := 2) (v := .bool f2)
   clear hcz13_0 hfz13_0 hcz13_1 hfz13_1 hcz13_2 hfz13_2 BK5 BK13 HB
   generalize ((w13.setCell ⟨gb13, 0, none⟩ (.bool f0)).setCell ⟨gb13, 1, none⟩ (.int .i64 f1)).setCell ⟨gb13, 2, none⟩ (.bool f2) = wm at f5_ f13_ fb_ ⊢
   have BK5 := A0_ f5_
   have BK13 := A0_ f13_
   have HB := A0_ fb_
   clear f5_ f13_ fb_
   have hcz5 := bc2_ BK5.out
   go_quiet (fail)
   have f5_ := blk_drewN BK5.out nq
   have f13_ := blk_drewN BK13.out nq
   have fb_ := pw_below_drewN HB.out nq
   clear hcz5 BK5 BK13 HB
   generalize wm.drewN nq = wn at f5_ f13_ fb_ ⊢
   have BK5 := A0_ f5_
   have BK13 := A0_ f13_
   have HB := A0_ fb_
   clear f5_ f13_ fb_
   have H := HG.out
   clear HG
   cases f0
   ·simp only [cuts_find.g, Bool.false_eq_true, if_false, if_true] at H
    obtain ⟨⟨c1, c2⟩, Ac_, H⟩ := Option.bind_eq_some_iff.mp H
    obtain ⟨⟨l1, l2⟩, Al_, H⟩ := Option.bind_eq_some_iff.mp H
    obtain ⟨q, Aq_, H⟩ := Option.bind_eq_some_iff.mp H
    have Ac := A0_ Ac_; have Al := A0_ Al_; have Aq := A0_ Aq_; clear Ac_ Al_ Aq_
    have hcz13_0 : wn.cell? ⟨gb13, 0, none⟩ = some (.bool false) := (blk_cell BK13.out 0).trans rfl
    by_cases e1 : c1 = 1
    rotate_left
    ·have c1b : (c1 != 1) = true := bne_iff_ne.mpr e1
     rw [if_pos (.inl e1)] at H
     have HN := A0_ H
     clear H  e1
     go_wp2_with (first | (go_at_call 54; (with_reducible refine (word_Class.calls k a0 a2_1 c1 c2 _ Ac.out).mono ?_); rintro e wc ⟨rfl, hb⟩; have nb_ := A0_ (blk_below BK13.out hb); clear BK13; have BK13 := nb_; clear nb_; have n1_ := A0_ (below_step (qm_ HB.out) hb); clear HB; have HB := n1_; clear n1_;  clear hb) | (go_at_call 54; (with_reducible refine (word_Class.calls k a0 a2_0 l1 l2 _ Al.out).mono ?_); rintro e wd ⟨rfl, hb⟩; have nb_ := A0_ (blk_below BK13.out hb); clear BK13; have BK13 := nb_; clear nb_; have n1_ := A0_ (below_step (qm_ HB.out) hb); clear HB; have HB := n1_; clear n1_; have hcz13b_0 : wd.cell? ⟨gb13, 0, none⟩ = some (.bool false) := (blk_cell BK13.out 0).trans rfl; have hfz13b_0 := blk_frozen BK13.out 0; have hcz13b_1 : wd.cell? ⟨gb13, 1, none⟩ = some (.int .i64 f1) := (blk_cell BK13.out 1).trans rfl; have hfz13b_1 := blk_frozen BK13.out 1; have hcz13b_2 : wd.cell? ⟨gb13, 2, none⟩ = some (.bool f2) := (blk_cell BK13.out 2).trans rfl; have hfz13b_2 := blk_frozen BK13.out 2; clear hb) | (go_at_call 87; (with_reducible refine (cuts_against.calls k a0 a2_0 f1 q _ Aq.out).mono ?_); rintro e we ⟨rfl, hb⟩; have nb_ := A0_ (blk_below BK13.out hb); clear BK13; have BK13 := nb_; clear nb_; have n1_ := A0_ (below_step (qm_ HB.out) hb); clear HB; have HB := n1_; clear n1_ hcz13b_0 hfz13b_0 hcz13b_1 hfz13b_1 hcz13b_2 hfz13b_2; have hcz13c_0 : we.cell? ⟨gb13, 0, none⟩ = some (.bool false) := (blk_cell BK13.out 0).trans rfl; have hfz13c_0 := blk_frozen BK13.out 0; have hcz13c_1 : we.cell? ⟨gb13, 1, none⟩ = some (.int .i64 f1) := (blk_cell BK13.out 1).trans rfl; have hfz13c_1 := blk_frozen BK13.out 1; have hcz13c_2 : we.cell? ⟨gb13, 2, none⟩ = some (.bool f2) := (blk_cell BK13.out 2).trans rfl; have hfz13c_2 := blk_frozen BK13.out 2; clear hb))
     go_roundg ((crays a1).length - (i + 1))
     case measure => have := HK.out; have := HC8.out; omega
     case rel => exact ⟨i + 1, (congrArg (Value.int .i64) (by have := HC8.out; have := HLen.out; unfold wrap64; omega)), ⟨by have := HC8.out; omega⟩, ⟨rfl⟩, HN, ⟨Kd.R_below HO.out HB.out⟩, ⟨blk_below BK5O.out HB.out⟩, ⟨blk_below BK6.out HB.out⟩, ⟨blk_below BK7.out HB.out⟩, ⟨blk_below BK10.out HB.out⟩, ⟨below_step HBO.out HB.out⟩⟩
    have c1b : (c1 != 1) = false := bne_eq_false_iff_eq.mpr e1
    by_cases e2 : l1 = 5
    ·have l1b : (l1 == 5) = true := beq_iff_eq.mpr e2
     rw [if_pos (.inr (.inl e2))] at H
     have HN := A0_ H
     clear H  e1 e2
     go_wp2_with (first | (go_at_call 54; (with_reducible refine (word_Class.calls k a0 a2_1 c1 c2 _ Ac.out).mono ?_); rintro e wc ⟨rfl, hb⟩; have nb_ := A0_ (blk_below BK13.out hb); clear BK13; have BK13 := nb_; clear nb_; have n1_ := A0_ (below_step (qm_ HB.out) hb); clear HB; have HB := n1_; clear n1_;  clear hb) | (go_at_call 54; (with_reducible refine (word_Class.calls k a0 a2_0 l1 l2 _ Al.out).mono ?_); rintro e wd ⟨rfl, hb⟩; have nb_ := A0_ (blk_below BK13.out hb); clear BK13; have BK13 := nb_; clear nb_; have n1_ := A0_ (below_step (qm_ HB.out) hb); clear HB; have HB := n1_; clear n1_; have hcz13b_0 : wd.cell? ⟨gb13, 0, none⟩ = some (.bool false) := (blk_cell BK13.out 0).trans rfl; have hfz13b_0 := blk_frozen BK13.out 0; have hcz13b_1 : wd.cell? ⟨gb13, 1, none⟩ = some (.int .i64 f1) := (blk_cell BK13.out 1).trans rfl; have hfz13b_1 := blk_frozen BK13.out 1; have hcz13b_2 : wd.cell? ⟨gb13, 2, none⟩ = some (.bool f2) := (blk_cell BK13.out 2).trans rfl; have hfz13b_2 := blk_frozen BK13.out 2; clear hb) | (go_at_call 87; (with_reducible refine (cuts_against.calls k a0 a2_0 f1 q _ Aq.out).mono ?_); rintro e we ⟨rfl, hb⟩; have nb_ := A0_ (blk_below BK13.out hb); clear BK13; have BK13 := nb_; clear nb_; have n1_ := A0_ (below_step (qm_ HB.out) hb); clear HB; have HB := n1_; clear n1_ hcz13b_0 hfz13b_0 hcz13b_1 hfz13b_1 hcz13b_2 hfz13b_2; have hcz13c_0 : we.cell? ⟨gb13, 0, none⟩ = some (.bool false) := (blk_cell BK13.out 0).trans rfl; have hfz13c_0 := blk_frozen BK13.out 0; have hcz13c_1 : we.cell? ⟨gb13, 1, none⟩ = some (.int .i64 f1) := (blk_cell BK13.out 1).trans rfl; have hfz13c_1 := blk_frozen BK13.out 1; have hcz13c_2 : we.cell? ⟨gb13, 2, none⟩ = some (.bool f2) := (blk_cell BK13.out 2).trans rfl; have hfz13c_2 := blk_frozen BK13.out 2; clear hb))
     go_roundg ((crays a1).length - (i + 1))
     case measure => have := HK.out; have := HC8.out; omega
     case rel => exact ⟨i + 1, (congrArg (Value.int .i64) (by have := HC8.out; have := HLen.out; unfold wrap64; omega)), ⟨by have := HC8.out; omega⟩, ⟨rfl⟩, HN, ⟨Kd.R_below HO.out HB.out⟩, ⟨blk_below BK5O.out HB.out⟩, ⟨blk_below BK6.out HB.out⟩, ⟨blk_below BK7.out HB.out⟩, ⟨blk_below BK10.out HB.out⟩, ⟨below_step HBO.out HB.out⟩⟩
    have l1b : (l1 == 5) = false := beq_eq_false_iff_ne.mpr e2
    by_cases e3 : q = 0
    ·have qb : (q == 0) = true := beq_iff_eq.mpr e3
     rw [if_pos (.inr (.inr (.inl e3)))] at H
     have HN := A0_ H
     clear H  e1 e2 e3
     go_wp2_with (first | (go_at_call 54; (with_reducible refine (word_Class.calls k a0 a2_1 c1 c2 _ Ac.out).mono ?_); rintro e wc ⟨rfl, hb⟩; have nb_ := A0_ (blk_below BK13.out hb); clear BK13; have BK13 := nb_; clear nb_; have n1_ := A0_ (below_step (qm_ HB.out) hb); clear HB; have HB := n1_; clear n1_;  clear hb) | (go_at_call 54; (with_reducible refine (word_Class.calls k a0 a2_0 l1 l2 _ Al.out).mono ?_); rintro e wd ⟨rfl, hb⟩; have nb_ := A0_ (blk_below BK13.out hb); clear BK13; have BK13 := nb_; clear nb_; have n1_ := A0_ (below_step (qm_ HB.out) hb); clear HB; have HB := n1_; clear n1_; have hcz13b_0 : wd.cell? ⟨gb13, 0, none⟩ = some (.bool false) := (blk_cell BK13.out 0).trans rfl; have hfz13b_0 := blk_frozen BK13.out 0; have hcz13b_1 : wd.cell? ⟨gb13, 1, none⟩ = some (.int .i64 f1) := (blk_cell BK13.out 1).trans rfl; have hfz13b_1 := blk_frozen BK13.out 1; have hcz13b_2 : wd.cell? ⟨gb13, 2, none⟩ = some (.bool f2) := (blk_cell BK13.out 2).trans rfl; have hfz13b_2 := blk_frozen BK13.out 2; clear hb) | (go_at_call 87; (with_reducible refine (cuts_against.calls k a0 a2_0 f1 q _ Aq.out).mono ?_); rintro e we ⟨rfl, hb⟩; have nb_ := A0_ (blk_below BK13.out hb); clear BK13; have BK13 := nb_; clear nb_; have n1_ := A0_ (below_step (qm_ HB.out) hb); clear HB; have HB := n1_; clear n1_ hcz13b_0 hfz13b_0 hcz13b_1 hfz13b_1 hcz13b_2 hfz13b_2; have hcz13c_0 : we.cell? ⟨gb13, 0, none⟩ = some (.bool false) := (blk_cell BK13.out 0).trans rfl; have hfz13c_0 := blk_frozen BK13.out 0; have hcz13c_1 : we.cell? ⟨gb13, 1, none⟩ = some (.int .i64 f1) := (blk_cell BK13.out 1).trans rfl; have hfz13c_1 := blk_frozen BK13.out 1; have hcz13c_2 : we.cell? ⟨gb13, 2, none⟩ = some (.bool f2) := (blk_cell BK13.out 2).trans rfl; have hfz13c_2 := blk_frozen BK13.out 2; clear hb))
     go_roundg ((crays a1).length - (i + 1))
     case measure => have := HK.out; have := HC8.out; omega
     case rel => exact ⟨i + 1, (congrArg (Value.int .i64) (by have := HC8.out; have := HLen.out; unfold wrap64; omega)), ⟨by have := HC8.out; omega⟩, ⟨rfl⟩, HN, ⟨Kd.R_below HO.out HB.out⟩, ⟨blk_below BK5O.out HB.out⟩, ⟨blk_below BK6.out HB.out⟩, ⟨blk_below BK7.out HB.out⟩, ⟨blk_below BK10.out HB.out⟩, ⟨below_step HBO.out HB.out⟩⟩
    have qb : (q == 0) = false := beq_eq_false_iff_ne.mpr e3
    by_cases e4 : q < 0
    ·have sb : decide (q < 0) = true := decide_eq_true e4
     cases f2
     ·rw [if_pos (.inr (.inr (.inr (by rw [sb]; decide))))] at H
      have HN := A0_ H
      clear H e4 e1 e2 e3
      go_wp2_with (first | (go_at_call 54; (with_reducible refine (word_Class.calls k a0 a2_1 c1 c2 _ Ac.out).mono ?_); rintro e wc ⟨rfl, hb⟩; have nb_ := A0_ (blk_below BK13.out hb); clear BK13; have BK13 := nb_; clear nb_; have n1_ := A0_ (below_step (qm_ HB.out) hb); clear HB; have HB := n1_; clear n1_;  clear hb) | (go_at_call 54; (with_reducible refine (word_Class.calls k a0 a2_0 l1 l2 _ Al.out).mono ?_); rintro e wd ⟨rfl, hb⟩; have nb_ := A0_ (blk_below BK13.out hb); clear BK13; have BK13 := nb_; clear nb_; have n1_ := A0_ (below_step (qm_ HB.out) hb); clear HB; have HB := n1_; clear n1_; have hcz13b_0 : wd.cell? ⟨gb13, 0, none⟩ = some (.bool false) := (blk_cell BK13.out 0).trans rfl; have hfz13b_0 := blk_frozen BK13.out 0; have hcz13b_1 : wd.cell? ⟨gb13, 1, none⟩ = some (.int .i64 f1) := (blk_cell BK13.out 1).trans rfl; have hfz13b_1 := blk_frozen BK13.out 1; have hcz13b_2 : wd.cell? ⟨gb13, 2, none⟩ = some (.bool false) := (blk_cell BK13.out 2).trans rfl; have hfz13b_2 := blk_frozen BK13.out 2; clear hb) | (go_at_call 87; (with_reducible refine (cuts_against.calls k a0 a2_0 f1 q _ Aq.out).mono ?_); rintro e we ⟨rfl, hb⟩; have nb_ := A0_ (blk_below BK13.out hb); clear BK13; have BK13 := nb_; clear nb_; have n1_ := A0_ (below_step (qm_ HB.out) hb); clear HB; have HB := n1_; clear n1_ hcz13b_0 hfz13b_0 hcz13b_1 hfz13b_1 hcz13b_2 hfz13b_2; have hcz13c_0 : we.cell? ⟨gb13, 0, none⟩ = some (.bool false) := (blk_cell BK13.out 0).trans rfl; have hfz13c_0 := blk_frozen BK13.out 0; have hcz13c_1 : we.cell? ⟨gb13, 1, none⟩ = some (.int .i64 f1) := (blk_cell BK13.out 1).trans rfl; have hfz13c_1 := blk_frozen BK13.out 1; have hcz13c_2 : we.cell? ⟨gb13, 2, none⟩ = some (.bool false) := (blk_cell BK13.out 2).trans rfl; have hfz13c_2 := blk_frozen BK13.out 2; clear hb))
      go_roundg ((crays a1).length - (i + 1))
      case measure => have := HK.out; have := HC8.out; omega
      case rel => exact ⟨i + 1, (congrArg (Value.int .i64) (by have := HC8.out; have := HLen.out; unfold wrap64; omega)), ⟨by have := HC8.out; omega⟩, ⟨rfl⟩, HN, ⟨Kd.R_below HO.out HB.out⟩, ⟨blk_below BK5O.out HB.out⟩, ⟨blk_below BK6.out HB.out⟩, ⟨blk_below BK7.out HB.out⟩, ⟨blk_below BK10.out HB.out⟩, ⟨below_step HBO.out HB.out⟩⟩
     ·rw [if_neg (by rintro (h | h | h | h); exact h e1; exact e2 h; exact e3 h; exact h sb)] at H
      obtain ⟨⟨x1, x2, x3, x4⟩, Ax_, H⟩ := Option.bind_eq_some_iff.mp H
      obtain ⟨s_, As_, H⟩ := Option.bind_eq_some_iff.mp H
      obtain ⟨o_, Ao_, H⟩ := Option.bind_eq_some_iff.mp H
      obtain ⟨m_, Am_, H⟩ := Option.bind_eq_some_iff.mp H
      have Ax := A0_ Ax_; have As := A0_ As_; have Ao := A0_ Ao_; have Am := A0_ Am_; clear Ax_ As_ Ao_ Am_ e4 e1 e2 e3
      go_upto_region 20 with (first | (go_at_call 54; (with_reducible refine (word_Class.calls k a0 a2_1 c1 c2 _ Ac.out).mono ?_); rintro e wc ⟨rfl, hb⟩; have nb_ := A0_ (blk_below BK13.out hb); clear BK13; have BK13 := nb_; clear nb_; have n1_ := A0_ (below_step (qm_ HB.out) hb); clear HB; have HB := n1_; clear n1_;  clear hb) | (go_at_call 54; (with_reducible refine (word_Class.calls k a0 a2_0 l1 l2 _ Al.out).mono ?_); rintro e wd ⟨rfl, hb⟩; have nb_ := A0_ (blk_below BK13.out hb); clear BK13; have BK13 := nb_; clear nb_; have n1_ := A0_ (below_step (qm_ HB.out) hb); clear HB; have HB := n1_; clear n1_; have hcz13b_0 : wd.cell? ⟨gb13, 0, none⟩ = some (.bool false) := (blk_cell BK13.out 0).trans rfl; have hfz13b_0 := blk_frozen BK13.out 0; have hcz13b_1 : wd.cell? ⟨gb13, 1, none⟩ = some (.int .i64 f1) := (blk_cell BK13.out 1).trans rfl; have hfz13b_1 := blk_frozen BK13.out 1; have hcz13b_2 : wd.cell? ⟨gb13, 2, none⟩ = some (.bool true) := (blk_cell BK13.out 2).trans rfl; have hfz13b_2 := blk_frozen BK13.out 2; clear hb) | (go_at_call 87; (with_reducible refine (cuts_against.calls k a0 a2_0 f1 q _ Aq.out).mono ?_); rintro e we ⟨rfl, hb⟩; have nb_ := A0_ (blk_below BK13.out hb); clear BK13; have BK13 := nb_; clear nb_; have n1_ := A0_ (below_step (qm_ HB.out) hb); clear HB; have HB := n1_; clear n1_ hcz13b_0 hfz13b_0 hcz13b_1 hfz13b_1 hcz13b_2 hfz13b_2; have hcz13c_0 : we.cell? ⟨gb13, 0, none⟩ = some (.bool false) := (blk_cell BK13.out 0).trans rfl; have hfz13c_0 := blk_frozen BK13.out 0; have hcz13c_1 : we.cell? ⟨gb13, 1, none⟩ = some (.int .i64 f1) := (blk_cell BK13.out 1).trans rfl; have hfz13c_1 := blk_frozen BK13.out 1; have hcz13c_2 : we.cell? ⟨gb13, 2, none⟩ = some (.bool true) := (blk_cell BK13.out 2).trans rfl; have hfz13c_2 := blk_frozen BK13.out 2; clear hb) | (go_at_call 88; (with_reducible refine (word_Split.calls k a0 a2_1 x1 x2 x3 x4 _ Ax.out).mono ?_); rintro e wf ⟨rfl, hb⟩;  have n1_ := A0_ (below_step (qm_ HB.out) hb); clear HB; have HB := n1_; clear n1_;  clear hb) | ((with_reducible refine gate_dst (N := 21) rfl ?_); refine box_event ?hg (N := 21) ?hd (cs := #[.bool false, .int .i64 0, .int .u64 0]) (t := 84) ?hr ?_; (case hd => rfl); (case hg => rfl); (case hr => first | (go_simp; done) | (go_simp; rfl)); intro gb21 hg wg hbox hb;  have n0_ := A0_ (below_step (qm_ HB.out) hb); have n1_ := A0_ hbox; have n2_ := A0_ ((by rw [hg]; exact (below_size (qm_ HB.out))) : wr.heap.size ≤ gb21); clear HB; have HB := n0_; have BK21 := n1_; have GE21 := n2_; clear n0_ n1_ n2_ hb hbox hg; have hcz21_0 : wg.cell? ⟨gb21, 0, none⟩ = some (.bool false) := (blk_cell BK21.out 0).trans rfl; have hfz21_0 := blk_frozen BK21.out 0; have hcz21_1 : wg.cell? ⟨gb21, 1, none⟩ = some (.int .i64 0) := (blk_cell BK21.out 1).trans rfl; have hfz21_1 := blk_frozen BK21.out 1; have hcz21_2 : wg.cell? ⟨gb21, 2, none⟩ = some (.int .u64 0) := (blk_cell BK21.out 2).trans rfl; have hfz21_2 := blk_frozen BK21.out 2;))
      have f21_ := (blk_set (blk_set (blk_set BK21.out 0 (.bool x1)) 1 (.int .i64 x2)) 2 (.int .u64 x3))
      have fb_ := (below_set (below_set (below_set HB.out GE21.out (j := 0) (v := .bool x1)) GE21.out (j := 1) (v := .int .i64 x2)) GE21.out (j := 2) (v := .int .u64 x3))
      clear hcz21_0 hfz21_0 hcz21_1 hfz21_1 hcz21_2 hfz21_2 BK21 HB
      generalize ((wg.setCell ⟨gb21, 0, none⟩ (.bool x1)).setCell ⟨gb21, 1, none⟩ (.int .i64 x2)).setCell ⟨gb21, 2, none⟩ (.int .u64 x3) = wh at f21_ fb_ ⊢
      have BK21 := A0_ f21_
      have HB := A0_ fb_
      clear f21_ fb_
      go_upto_region 21 with (first | (go_at_call 87; (with_reducible refine (cuts_against.calls k a0 a2_0 0 s_ _ As.out).mono ?_); rintro e wi1 ⟨rfl, hb⟩; have nb_ := A0_ (blk_below BK21.out hb); clear BK21; have BK21 := nb_; clear nb_; have n1_ := A0_ (below_step (qm_ HB.out) hb); clear HB; have HB := n1_; clear n1_;  clear hb) | (go_at_call 87; (with_reducible refine (cuts_against.calls k a0 a2_0 1 o_ _ Ao.out).mono ?_); rintro e wi2 ⟨rfl, hb⟩; have nb_ := A0_ (blk_below BK21.out hb); clear BK21; have BK21 := nb_; clear nb_; have n1_ := A0_ (below_step (qm_ HB.out) hb); clear HB; have HB := n1_; clear n1_;  clear hb) | (go_at_call 87; (with_reducible refine (cuts_against.calls k a0 a2_0 (-1) m_ _ Am.out).mono ?_); rintro e wi3 ⟨rfl, hb⟩; have nb_ := A0_ (blk_below BK21.out hb); clear BK21; have BK21 := nb_; clear nb_; have n1_ := A0_ (below_step (qm_ HB.out) hb); clear HB; have HB := n1_; clear n1_;  clear hb) | ((with_reducible refine gate_dst (N := 23) rfl ?_); refine box_event ?hg (N := 23) ?hd (cs := #[.int .i64 0, .int .i64 0, .int .i64 0, .int .i64 0]) (t := 96) ?hr ?_; (case hd => rfl); (case hg => rfl); (case hr => first | (go_simp; done) | (go_simp; rfl)); intro gb23 hg wk hbox hb; have LT21 := blk_lt BK21.out; have nb_ := A0_ (blk_below BK21.out hb); clear BK21; have BK21 := nb_; clear nb_; have n0_ := A0_ (below_step (qm_ HB.out) hb); have n1_ := A0_ hbox; have n2_ := A0_ ((by rw [hg]; exact (below_size (qm_ HB.out))) : wr.heap.size ≤ gb23); clear HB; have HB := n0_; have BK23 := n1_; have GE23 := n2_; clear n0_ n1_ n2_; have NE2123 := A0_ ((by rw [hg]; exact Nat.ne_of_lt LT21) : gb21 ≠ gb23); clear LT21 hb hbox hg; have hcz23_0 : wk.cell? ⟨gb23, 0, none⟩ = some (.int .i64 0) := (blk_cell BK23.out 0).trans rfl; have hfz23_0 := blk_frozen BK23.out 0; have hcz23_1 : wk.cell? ⟨gb23, 1, none⟩ = some (.int .i64 0) := (blk_cell BK23.out 1).trans rfl; have hfz23_1 := blk_frozen BK23.out 1; have hcz23_2 : wk.cell? ⟨gb23, 2, none⟩ = some (.int .i64 0) := (blk_cell BK23.out 2).trans rfl; have hfz23_2 := blk_frozen BK23.out 2; have hcz23_3 : wk.cell? ⟨gb23, 3, none⟩ = some (.int .i64 0) := (blk_cell BK23.out 3).trans rfl; have hfz23_3 := blk_frozen BK23.out 3;))
      have f21_ := (blk_far (blk_far (blk_far (blk_far BK21.out (p := ⟨gb23, 0, none⟩) NE2123.out (.int .i64 s_)) (p := ⟨gb23, 1, none⟩) NE2123.out (.int .i64 o_)) (p := ⟨gb23, 2, none⟩) NE2123.out (.int .i64 m_)) (p := ⟨gb23, 3, none⟩) NE2123.out (.int .i64 1))
      have f23_ := (blk_set (blk_set (blk_set (blk_set BK23.out 0 (.int .i64 s_)) 1 (.int .i64 o_)) 2 (.int .i64 m_)) 3 (.int .i64 1))
      have fb_ := (below_set (below_set (below_set (below_set HB.out GE23.out (j := 0) (v := .int .i64 s_)) GE23.out (j := 1) (v := .int .i64 o_)) GE23.out (j := 2) (v := .int .i64 m_)) GE23.out (j := 3) (v := .int .i64 1))
      clear hcz23_0 hfz23_0 hcz23_1 hfz23_1 hcz23_2 hfz23_2 hcz23_3 hfz23_3 BK21 BK23 HB
      generalize (((wk.setCell ⟨gb23, 0, none⟩ (.int .i64 s_)).setCell ⟨gb23, 1, none⟩ (.int .i64 o_)).setCell ⟨gb23, 2, none⟩ (.int .i64 m_)).setCell ⟨gb23, 3, none⟩ (.int .i64 1) = wl1 at f21_ f23_ fb_ ⊢
      cases x1
      ·simp only [Bool.false_eq_true, if_false, if_true, Option.some.injEq, Prod.mk.injEq] at H
       obtain ⟨rfl, rfl, rfl, rfl, rfl⟩ := H
       have hcz21_0 : wl1.cell? ⟨gb21, 0, none⟩ = some (.bool false) := (blk_cell f21_ 0).trans rfl
       have hcz23_3 : wl1.cell? ⟨gb23, 3, none⟩ = some (.int .i64 1) := (blk_cell f23_ 3).trans rfl
       have hfz23_3 := blk_frozen f23_ 3
       go_upto_region 23 with (fail)
       clear hcz21_0 hcz23_3 hfz23_3 f21_
       have f6_ := blk_below BK6.out fb_
       have f7_ := blk_below BK7.out fb_
       have f10_ := blk_below BK10.out fb_
       have fb2_ := below_step HBO.out fb_
       have hn723 : gb7 ≠ gb23 := fun h => by have h1 := blk_lt BK7.out; have h2 := GE23.out; omega
       replace f6_ := blk_drew f6_
       replace f7_ := blk_drew f7_
       replace f10_ := blk_drew f10_
       replace f23_ := blk_drew f23_
       replace fb2_ := below_drew1 fb2_
       clear fb_
       refine start_ (n := 5) (S := fun w' => w'.cell? ⟨gb10, 0, none⟩ = some (.slice (some ad) (crays a1).length c_) ∧ w'.cell? ⟨gb10, 1, none⟩ = some (.int .u8 (cpar a1)) ∧ w'.cell? ⟨gb10, 2, none⟩ = some (.func (Fn.func (cno a1)) #[] #[]) ∧ w'.cell? ⟨gb23, 0, none⟩ = some (.int .i64 s_) ∧ w'.cell? ⟨gb23, 1, none⟩ = some (.int .i64 o_) ∧ w'.cell? ⟨gb23, 2, none⟩ = some (.int .i64 m_) ∧ w'.cell? ⟨gb23, 3, none⟩ = some (.int .i64 (1))) (ds := []) #[false, false, false, false, false] (by kernel_rfl) rfl rfl ⟨(blk_cell f10_ 0).trans rfl, (blk_cell f10_ 1).trans rfl, (blk_cell f10_ 2).trans rfl, (blk_cell f23_ 0).trans rfl, (blk_cell f23_ 1).trans rfl, (blk_cell f23_ 2).trans rfl, (blk_cell f23_ 3).trans rfl⟩ (fun hHeld => ?_)
       generalize wl1.drew = wv at f6_ f7_ f10_ f23_ fb2_ hHeld ⊢
       have hn623 : gb6 ≠ gb23 := blk_ne f6_ f23_ (by decide)
       refine take_ (i := 0) (N := some 106) (v := ?_) (a' := ?_) #[true, false, false, false, false] rfl rfl (by kernel_rfl) (fun _ _ _ h => h) (Or.inl ⟨by rfl, ?_⟩) hHeld ?_ ?_
       rotate_left
       ·rintro w' ⟨s0, s1, s2, s3, s4, s5, s6⟩
        go_simp
        with_reducible rfl
       rotate_left
       ·simp only [Act.put, sp_, i64_w, i32_w]
        rfl
       refine take_ (i := 1) (N := some 107) (v := ?_) (a' := ?_) #[true, true, false, false, false] rfl rfl (by kernel_rfl) (fun _ _ _ h => h) (Or.inl ⟨by rfl, ?_⟩) hHeld ?_ ?_
       rotate_left
       ·rintro w' ⟨s0, s1, s2, s3, s4, s5, s6⟩
        go_simp
        with_reducible rfl
       rotate_left
       ·simp only [Act.put, sp_, i64_w, i32_w]
        rfl
       have hn106 := Ne.symm NE610.out
       have hn107 := Ne.symm NE710.out
       have hn236 := Ne.symm hn623
       have hn237 := Ne.symm hn723
       refine one_ (i := 2) (N := none) #[true, true, true, false, false] rfl rfl (by kernel_rfl) (by decide) (fun K hK => ?_)
       have hcs0 : wv.cell? ⟨gb6, 0, none⟩ = some (.slice none 0 0) := (blk_cell f6_ 0).trans rfl
       have hfs0 := blk_frozen f6_ 0
       have hcs1 : wv.cell? ⟨gb6, 1, none⟩ = some (.int .u8 0) := (blk_cell f6_ 1).trans rfl
       have hfs1 := blk_frozen f6_ 1
       have hcs2 : wv.cell? ⟨gb6, 2, none⟩ = some (.nilFunc) := (blk_cell f6_ 2).trans rfl
       have hfs2 := blk_frozen f6_ 2
       refine skip_ (w1 := ?_) (by rfl) rfl ?_ ?_
       rotate_left
       ·go_simp
        rfl
       refine hK.out _ _ ⟨((cell_far (p := ⟨gb6, _, none⟩) hn106 _).trans ((cell_far (p := ⟨gb6, _, none⟩) hn106 _).trans ((cell_far (p := ⟨gb6, _, none⟩) hn106 _).trans hHeld.1))), ((cell_far (p := ⟨gb6, _, none⟩) hn106 _).trans ((cell_far (p := ⟨gb6, _, none⟩) hn106 _).trans ((cell_far (p := ⟨gb6, _, none⟩) hn106 _).trans hHeld.2.1))), ((cell_far (p := ⟨gb6, _, none⟩) hn106 _).trans ((cell_far (p := ⟨gb6, _, none⟩) hn106 _).trans ((cell_far (p := ⟨gb6, _, none⟩) hn106 _).trans hHeld.2.2.1))), ((cell_far (p := ⟨gb6, _, none⟩) hn236 _).trans ((cell_far (p := ⟨gb6, _, none⟩) hn236 _).trans ((cell_far (p := ⟨gb6, _, none⟩) hn236 _).trans hHeld.2.2.2.1))), ((cell_far (p := ⟨gb6, _, none⟩) hn236 _).trans ((cell_far (p := ⟨gb6, _, none⟩) hn236 _).trans ((cell_far (p := ⟨gb6, _, none⟩) hn236 _).trans hHeld.2.2.2.2.1))), ((cell_far (p := ⟨gb6, _, none⟩) hn236 _).trans ((cell_far (p := ⟨gb6, _, none⟩) hn236 _).trans ((cell_far (p := ⟨gb6, _, none⟩) hn236 _).trans hHeld.2.2.2.2.2.1))), ((cell_far (p := ⟨gb6, _, none⟩) hn236 _).trans ((cell_far (p := ⟨gb6, _, none⟩) hn236 _).trans ((cell_far (p := ⟨gb6, _, none⟩) hn236 _).trans hHeld.2.2.2.2.2.2)))⟩ (fun hHeld => ?_)
       clear hK K hcs0 hfs0 hcs1 hfs1 hcs2 hfs2
       have f7b_ := (blk_far (blk_far (blk_far f7_ (p := ⟨gb6, 0, none⟩) (Ne.symm NE67.out) (.slice (some ad) (crays a1).length c_)) (p := ⟨gb6, 1, none⟩) (Ne.symm NE67.out) (.int .u8 (cpar a1))) (p := ⟨gb6, 2, none⟩) (Ne.symm NE67.out) (.func (Fn.func (cno a1)) #[] #[]))
       have f7k_ := f7_
       clear f7_
       have f7_ := f7b_
       clear f7b_
       refine one_ (i := 3) (N := none) #[true, true, true, true, false] rfl rfl (by kernel_rfl) (by decide) (fun K hK => ?_)
       have hcs0 : (((wv.setCell ⟨gb6, 0, none⟩ (.slice (some ad) (crays a1).length c_)).setCell ⟨gb6, 1, none⟩ (.int .u8 (cpar a1))).setCell ⟨gb6, 2, none⟩ (.func (Fn.func (cno a1)) #[] #[])).cell? ⟨gb7, 0, none⟩ = some (.int .i64 0) := (blk_cell f7_ 0).trans rfl
       have hfs0 := blk_frozen f7_ 0
       have hcs1 : (((wv.setCell ⟨gb6, 0, none⟩ (.slice (some ad) (crays a1).length c_)).setCell ⟨gb6, 1, none⟩ (.int .u8 (cpar a1))).setCell ⟨gb6, 2, none⟩ (.func (Fn.func (cno a1)) #[] #[])).cell? ⟨gb7, 1, none⟩ = some (.int .i64 0) := (blk_cell f7_ 1).trans rfl
       have hfs1 := blk_frozen f7_ 1
       have hcs2 : (((wv.setCell ⟨gb6, 0, none⟩ (.slice (some ad) (crays a1).length c_)).setCell ⟨gb6, 1, none⟩ (.int .u8 (cpar a1))).setCell ⟨gb6, 2, none⟩ (.func (Fn.func (cno a1)) #[] #[])).cell? ⟨gb7, 2, none⟩ = some (.int .i64 0) := (blk_cell f7_ 2).trans rfl
       have hfs2 := blk_frozen f7_ 2
       have hcs3 : (((wv.setCell ⟨gb6, 0, none⟩ (.slice (some ad) (crays a1).length c_)).setCell ⟨gb6, 1, none⟩ (.int .u8 (cpar a1))).setCell ⟨gb6, 2, none⟩ (.func (Fn.func (cno a1)) #[] #[])).cell? ⟨gb7, 3, none⟩ = some (.int .i64 0) := (blk_cell f7_ 3).trans rfl
       have hfs3 := blk_frozen f7_ 3
       refine skip_ (w1 := ?_) (by rfl) rfl ?_ ?_
       rotate_left
       ·go_simp
        rfl
       refine hK.out _ _ ⟨((cell_far (p := ⟨gb7, _, none⟩) hn107 _).trans ((cell_far (p := ⟨gb7, _, none⟩) hn107 _).trans ((cell_far (p := ⟨gb7, _, none⟩) hn107 _).trans ((cell_far (p := ⟨gb7, _, none⟩) hn107 _).trans hHeld.1)))), ((cell_far (p := ⟨gb7, _, none⟩) hn107 _).trans ((cell_far (p := ⟨gb7, _, none⟩) hn107 _).trans ((cell_far (p := ⟨gb7, _, none⟩) hn107 _).trans ((cell_far (p := ⟨gb7, _, none⟩) hn107 _).trans hHeld.2.1)))), ((cell_far (p := ⟨gb7, _, none⟩) hn107 _).trans ((cell_far (p := ⟨gb7, _, none⟩) hn107 _).trans ((cell_far (p := ⟨gb7, _, none⟩) hn107 _).trans ((cell_far (p := ⟨gb7, _, none⟩) hn107 _).trans hHeld.2.2.1)))), ((cell_far (p := ⟨gb7, _, none⟩) hn237 _).trans ((cell_far (p := ⟨gb7, _, none⟩) hn237 _).trans ((cell_far (p := ⟨gb7, _, none⟩) hn237 _).trans ((cell_far (p := ⟨gb7, _, none⟩) hn237 _).trans hHeld.2.2.2.1)))), ((cell_far (p := ⟨gb7, _, none⟩) hn237 _).trans ((cell_far (p := ⟨gb7, _, none⟩) hn237 _).trans ((cell_far (p := ⟨gb7, _, none⟩) hn237 _).trans ((cell_far (p := ⟨gb7, _, none⟩) hn237 _).trans hHeld.2.2.2.2.1)))), ((cell_far (p := ⟨gb7, _, none⟩) hn237 _).trans ((cell_far (p := ⟨gb7, _, none⟩) hn237 _).trans ((cell_far (p := ⟨gb7, _, none⟩) hn237 _).trans ((cell_far (p := ⟨gb7, _, none⟩) hn237 _).trans hHeld.2.2.2.2.2.1)))), ((cell_far (p := ⟨gb7, _, none⟩) hn237 _).trans ((cell_far (p := ⟨gb7, _, none⟩) hn237 _).trans ((cell_far (p := ⟨gb7, _, none⟩) hn237 _).trans ((cell_far (p := ⟨gb7, _, none⟩) hn237 _).trans hHeld.2.2.2.2.2.2))))⟩ (fun hHeld => ?_)
       clear hK K hcs0 hfs0 hcs1 hfs1 hcs2 hfs2 hcs3 hfs3
       refine pure_ (i := 4) (N := some 8) (v := ?_) (a' := ?_) #[true, true, true, true, true] rfl rfl (by kernel_rfl) (fun _ _ _ h => h) (Or.inl ⟨by rfl, ?_⟩) ?_ ?_
       rotate_left
       ·intro w'
        go_simp
        with_reducible rfl
       rotate_left
       ·simp only [Act.put, sp_, i64_w, i32_w]
        rfl
       refine done_ (by kernel_rfl) ?_
       try go_wp2
       have BK6 := A0_ f6_
       have BK7 := A0_ f7k_
       have HB := A0_ fb2_
       have fin_ := fun W hW => set67 BK6.out BK7.out NE67.out HB.out GE6.out GE7.out (.slice (some ad) (crays a1).length c_) (.int .u8 (cpar a1)) (.func (Fn.func (cno a1)) #[] #[]) (.int .i64 s_) (.int .i64 o_) (.int .i64 m_) (.int .i64 (1)) W hW
       generalize hW_ : (((((((wv.setCell ⟨gb6, 0, none⟩ (.slice (some ad) (crays a1).length c_)).setCell ⟨gb6, 1, none⟩ (.int .u8 (cpar a1))).setCell ⟨gb6, 2, none⟩ (.func (Fn.func (cno a1)) #[] #[])).setCell ⟨gb7, 0, none⟩ (.int .i64 s_)).setCell ⟨gb7, 1, none⟩ (.int .i64 o_)).setCell ⟨gb7, 2, none⟩ (.int .i64 m_)).setCell ⟨gb7, 3, none⟩ (.int .i64 (1))) = W
       obtain ⟨f6_, f7_, fb_⟩ := fin_ W hW_
       clear hW_ fin_
       have hd0 : W.cell? ⟨gb6, 0, none⟩ = some (.slice (some ad) (crays a1).length c_) := (blk_cell f6_ 0).trans rfl
       have hd1 : W.cell? ⟨gb6, 1, none⟩ = some (.int .u8 (cpar a1)) := (blk_cell f6_ 1).trans rfl
       have hd2 : W.cell? ⟨gb6, 2, none⟩ = some (.func (Fn.func (cno a1)) #[] #[]) := (blk_cell f6_ 2).trans rfl
       have he0 : W.cell? ⟨gb7, 0, none⟩ = some (.int .i64 s_) := (blk_cell f7_ 0).trans rfl
       have he1 : W.cell? ⟨gb7, 1, none⟩ = some (.int .i64 o_) := (blk_cell f7_ 1).trans rfl
       have he2 : W.cell? ⟨gb7, 2, none⟩ = some (.int .i64 m_) := (blk_cell f7_ 2).trans rfl
       have he3 : W.cell? ⟨gb7, 3, none⟩ = some (.int .i64 (1)) := (blk_cell f7_ 3).trans rfl
       refine bodyPost_ret (v := .tuple #[.agg #[.slice (some ad) (crays a1).length c_, .int .u8 (cpar a1), .func (Fn.func (cno a1)) #[] #[]], .agg #[.int .i64 s_, .int .i64 o_, .int .i64 m_, .int .i64 (1)], .int .i64 (0)]) ?_ rfl ⟨(some ad), (crays a1).length, c_, (cpar a1), .func (Fn.func (cno a1)) #[] #[], rfl, fun _ => (by unfold csig; rw [hcis]; rfl), .inr ⟨_, rfl⟩, fb_⟩
       simp [results, Try.results63, go_sem, hd0, hd1, hd2, he0, he1, he2, he3]
      ·simp only [Bool.false_eq_true, if_false, if_true, Option.some.injEq, Prod.mk.injEq] at H
       obtain ⟨rfl, rfl, rfl, rfl, rfl⟩ := H
       have hcz21_0 : wl1.cell? ⟨gb21, 0, none⟩ = some (.bool true) := (blk_cell f21_ 0).trans rfl
       have hcz23_3 : wl1.cell? ⟨gb23, 3, none⟩ = some (.int .i64 1) := (blk_cell f23_ 3).trans rfl
       have hfz23_3 := blk_frozen f23_ 3
       go_upto_region 23 with (fail)
       replace f23_ := (blk_set f23_ 3 (.int .i64 (-1)))
       replace fb_ := below_set fb_ GE23.out (j := 3) (v := .int .i64 (-1))
       clear hcz21_0 hcz23_3 hfz23_3 f21_
       generalize wl1.setCell ⟨gb23, 3, none⟩ (.int .i64 (-1)) = wn1 at f23_ fb_ ⊢
       have f6_ := blk_below BK6.out fb_
       have f7_ := blk_below BK7.out fb_
       have f10_ := blk_below BK10.out fb_
       have fb2_ := below_step HBO.out fb_
       have hn723 : gb7 ≠ gb23 := fun h => by have h1 := blk_lt BK7.out; have h2 := GE23.out; omega
       replace f6_ := blk_drew f6_
       replace f7_ := blk_drew f7_
       replace f10_ := blk_drew f10_
       replace f23_ := blk_drew f23_
       replace fb2_ := below_drew1 fb2_
       clear fb_
       refine start_ (n := 5) (S := fun w' => w'.cell? ⟨gb10, 0, none⟩ = some (.slice (some ad) (crays a1).length c_) ∧ w'.cell? ⟨gb10, 1, none⟩ = some (.int .u8 (cpar a1)) ∧ w'.cell? ⟨gb10, 2, none⟩ = some (.func (Fn.func (cno a1)) #[] #[]) ∧ w'.cell? ⟨gb23, 0, none⟩ = some (.int .i64 s_) ∧ w'.cell? ⟨gb23, 1, none⟩ = some (.int .i64 o_) ∧ w'.cell? ⟨gb23, 2, none⟩ = some (.int .i64 m_) ∧ w'.cell? ⟨gb23, 3, none⟩ = some (.int .i64 (-1))) (ds := []) #[false, false, false, false, false] (by kernel_rfl) rfl rfl ⟨(blk_cell f10_ 0).trans rfl, (blk_cell f10_ 1).trans rfl, (blk_cell f10_ 2).trans rfl, (blk_cell f23_ 0).trans rfl, (blk_cell f23_ 1).trans rfl, (blk_cell f23_ 2).trans rfl, (blk_cell f23_ 3).trans rfl⟩ (fun hHeld => ?_)
       generalize wn1.drew = wv at f6_ f7_ f10_ f23_ fb2_ hHeld ⊢
       have hn623 : gb6 ≠ gb23 := blk_ne f6_ f23_ (by decide)
       refine take_ (i := 0) (N := some 106) (v := ?_) (a' := ?_) #[true, false, false, false, false] rfl rfl (by kernel_rfl) (fun _ _ _ h => h) (Or.inl ⟨by rfl, ?_⟩) hHeld ?_ ?_
       rotate_left
       ·rintro w' ⟨s0, s1, s2, s3, s4, s5, s6⟩
        go_simp
        with_reducible rfl
       rotate_left
       ·simp only [Act.put, sp_, i64_w, i32_w]
        rfl
       refine take_ (i := 1) (N := some 107) (v := ?_) (a' := ?_) #[true, true, false, false, false] rfl rfl (by kernel_rfl) (fun _ _ _ h => h) (Or.inl ⟨by rfl, ?_⟩) hHeld ?_ ?_
       rotate_left
       ·rintro w' ⟨s0, s1, s2, s3, s4, s5, s6⟩
        go_simp
        with_reducible rfl
       rotate_left
       ·simp only [Act.put, sp_, i64_w, i32_w]
        rfl
       have hn106 := Ne.symm NE610.out
       have hn107 := Ne.symm NE710.out
       have hn236 := Ne.symm hn623
       have hn237 := Ne.symm hn723
       refine one_ (i := 2) (N := none) #[true, true, true, false, false] rfl rfl (by kernel_rfl) (by decide) (fun K hK => ?_)
       have hcs0 : wv.cell? ⟨gb6, 0, none⟩ = some (.slice none 0 0) := (blk_cell f6_ 0).trans rfl
       have hfs0 := blk_frozen f6_ 0
       have hcs1 : wv.cell? ⟨gb6, 1, none⟩ = some (.int .u8 0) := (blk_cell f6_ 1).trans rfl
       have hfs1 := blk_frozen f6_ 1
       have hcs2 : wv.cell? ⟨gb6, 2, none⟩ = some (.nilFunc) := (blk_cell f6_ 2).trans rfl
       have hfs2 := blk_frozen f6_ 2
       refine skip_ (w1 := ?_) (by rfl) rfl ?_ ?_
       rotate_left
       ·go_simp
        rfl
       refine hK.out _ _ ⟨((cell_far (p := ⟨gb6, _, none⟩) hn106 _).trans ((cell_far (p := ⟨gb6, _, none⟩) hn106 _).trans ((cell_far (p := ⟨gb6, _, none⟩) hn106 _).trans hHeld.1))), ((cell_far (p := ⟨gb6, _, none⟩) hn106 _).trans ((cell_far (p := ⟨gb6, _, none⟩) hn106 _).trans ((cell_far (p := ⟨gb6, _, none⟩) hn106 _).trans hHeld.2.1))), ((cell_far (p := ⟨gb6, _, none⟩) hn106 _).trans ((cell_far (p := ⟨gb6, _, none⟩) hn106 _).trans ((cell_far (p := ⟨gb6, _, none⟩) hn106 _).trans hHeld.2.2.1))), ((cell_far (p := ⟨gb6, _, none⟩) hn236 _).trans ((cell_far (p := ⟨gb6, _, none⟩) hn236 _).trans ((cell_far (p := ⟨gb6, _, none⟩) hn236 _).trans hHeld.2.2.2.1))), ((cell_far (p := ⟨gb6, _, none⟩) hn236 _).trans ((cell_far (p := ⟨gb6, _, none⟩) hn236 _).trans ((cell_far (p := ⟨gb6, _, none⟩) hn236 _).trans hHeld.2.2.2.2.1))), ((cell_far (p := ⟨gb6, _, none⟩) hn236 _).trans ((cell_far (p := ⟨gb6, _, none⟩) hn236 _).trans ((cell_far (p := ⟨gb6, _, none⟩) hn236 _).trans hHeld.2.2.2.2.2.1))), ((cell_far (p := ⟨gb6, _, none⟩) hn236 _).trans ((cell_far (p := ⟨gb6, _, none⟩) hn236 _).trans ((cell_far (p := ⟨gb6, _, none⟩) hn236 _).trans hHeld.2.2.2.2.2.2)))⟩ (fun hHeld => ?_)
       clear hK K hcs0 hfs0 hcs1 hfs1 hcs2 hfs2
       have f7b_ := (blk_far (blk_far (blk_far f7_ (p := ⟨gb6, 0, none⟩) (Ne.symm NE67.out) (.slice (some ad) (crays a1).length c_)) (p := ⟨gb6, 1, none⟩) (Ne.symm NE67.out) (.int .u8 (cpar a1))) (p := ⟨gb6, 2, none⟩) (Ne.symm NE67.out) (.func (Fn.func (cno a1)) #[] #[]))
       have f7k_ := f7_
       clear f7_
       have f7_ := f7b_
       clear f7b_
       refine one_ (i := 3) (N := none) #[true, true, true, true, false] rfl rfl (by kernel_rfl) (by decide) (fun K hK => ?_)
       have hcs0 : (((wv.setCell ⟨gb6, 0, none⟩ (.slice (some ad) (crays a1).length c_)).setCell ⟨gb6, 1, none⟩ (.int .u8 (cpar a1))).setCell ⟨gb6, 2, none⟩ (.func (Fn.func (cno a1)) #[] #[])).cell? ⟨gb7, 0, none⟩ = some (.int .i64 0) := (blk_cell f7_ 0).trans rfl
       have hfs0 := blk_frozen f7_ 0
       have hcs1 : (((wv.setCell ⟨gb6, 0, none⟩ (.slice (some ad) (crays a1).length c_)).setCell ⟨gb6, 1, none⟩ (.int .u8 (cpar a1))).setCell ⟨gb6, 2, none⟩ (.func (Fn.func (cno a1)) #[] #[])).cell? ⟨gb7, 1, none⟩ = some (.int .i64 0) := (blk_cell f7_ 1).trans rfl
       have hfs1 := blk_frozen f7_ 1
       have hcs2 : (((wv.setCell ⟨gb6, 0, none⟩ (.slice (some ad) (crays a1).length c_)).setCell ⟨gb6, 1, none⟩ (.int .u8 (cpar a1))).setCell ⟨gb6, 2, none⟩ (.func (Fn.func (cno a1)) #[] #[])).cell? ⟨gb7, 2, none⟩ = some (.int .i64 0) := (blk_cell f7_ 2).trans rfl
       have hfs2 := blk_frozen f7_ 2
       have hcs3 : (((wv.setCell ⟨gb6, 0, none⟩ (.slice (some ad) (crays a1).length c_)).setCell ⟨gb6, 1, none⟩ (.int .u8 (cpar a1))).setCell ⟨gb6, 2, none⟩ (.func (Fn.func (cno a1)) #[] #[])).cell? ⟨gb7, 3, none⟩ = some (.int .i64 0) := (blk_cell f7_ 3).trans rfl
       have hfs3 := blk_frozen f7_ 3
       refine skip_ (w1 := ?_) (by rfl) rfl ?_ ?_
       rotate_left
       ·go_simp
        rfl
       refine hK.out _ _ ⟨((cell_far (p := ⟨gb7, _, none⟩) hn107 _).trans ((cell_far (p := ⟨gb7, _, none⟩) hn107 _).trans ((cell_far (p := ⟨gb7, _, none⟩) hn107 _).trans ((cell_far (p := ⟨gb7, _, none⟩) hn107 _).trans hHeld.1)))), ((cell_far (p := ⟨gb7, _, none⟩) hn107 _).trans ((cell_far (p := ⟨gb7, _, none⟩) hn107 _).trans ((cell_far (p := ⟨gb7, _, none⟩) hn107 _).trans ((cell_far (p := ⟨gb7, _, none⟩) hn107 _).trans hHeld.2.1)))), ((cell_far (p := ⟨gb7, _, none⟩) hn107 _).trans ((cell_far (p := ⟨gb7, _, none⟩) hn107 _).trans ((cell_far (p := ⟨gb7, _, none⟩) hn107 _).trans ((cell_far (p := ⟨gb7, _, none⟩) hn107 _).trans hHeld.2.2.1)))), ((cell_far (p := ⟨gb7, _, none⟩) hn237 _).trans ((cell_far (p := ⟨gb7, _, none⟩) hn237 _).trans ((cell_far (p := ⟨gb7, _, none⟩) hn237 _).trans ((cell_far (p := ⟨gb7, _, none⟩) hn237 _).trans hHeld.2.2.2.1)))), ((cell_far (p := ⟨gb7, _, none⟩) hn237 _).trans ((cell_far (p := ⟨gb7, _, none⟩) hn237 _).trans ((cell_far (p := ⟨gb7, _, none⟩) hn237 _).trans ((cell_far (p := ⟨gb7, _, none⟩) hn237 _).trans hHeld.2.2.2.2.1)))), ((cell_far (p := ⟨gb7, _, none⟩) hn237 _).trans ((cell_far (p := ⟨gb7, _, none⟩) hn237 _).trans ((cell_far (p := ⟨gb7, _, none⟩) hn237 _).trans ((cell_far (p := ⟨gb7, _, none⟩) hn237 _).trans hHeld.2.2.2.2.2.1)))), ((cell_far (p := ⟨gb7, _, none⟩) hn237 _).trans ((cell_far (p := ⟨gb7, _, none⟩) hn237 _).trans ((cell_far (p := ⟨gb7, _, none⟩) hn237 _).trans ((cell_far (p := ⟨gb7, _, none⟩) hn237 _).trans hHeld.2.2.2.2.2.2))))⟩ (fun hHeld => ?_)
       clear hK K hcs0 hfs0 hcs1 hfs1 hcs2 hfs2 hcs3 hfs3
       refine pure_ (i := 4) (N := some 8) (v := ?_) (a' := ?_) #[true, true, true, true, true] rfl rfl (by kernel_rfl) (fun _ _ _ h => h) (Or.inl ⟨by rfl, ?_⟩) ?_ ?_
       rotate_left
       ·intro w'
        go_simp
        with_reducible rfl
       rotate_left
       ·simp only [Act.put, sp_, i64_w, i32_w]
        rfl
       refine done_ (by kernel_rfl) ?_
       try go_wp2
       have BK6 := A0_ f6_
       have BK7 := A0_ f7k_
       have HB := A0_ fb2_
       have fin_ := fun W hW => set67 BK6.out BK7.out NE67.out HB.out GE6.out GE7.out (.slice (some ad) (crays a1).length c_) (.int .u8 (cpar a1)) (.func (Fn.func (cno a1)) #[] #[]) (.int .i64 s_) (.int .i64 o_) (.int .i64 m_) (.int .i64 (-1)) W hW
       generalize hW_ : (((((((wv.setCell ⟨gb6, 0, none⟩ (.slice (some ad) (crays a1).length c_)).setCell ⟨gb6, 1, none⟩ (.int .u8 (cpar a1))).setCell ⟨gb6, 2, none⟩ (.func (Fn.func (cno a1)) #[] #[])).setCell ⟨gb7, 0, none⟩ (.int .i64 s_)).setCell ⟨gb7, 1, none⟩ (.int .i64 o_)).setCell ⟨gb7, 2, none⟩ (.int .i64 m_)).setCell ⟨gb7, 3, none⟩ (.int .i64 (-1))) = W
       obtain ⟨f6_, f7_, fb_⟩ := fin_ W hW_
       clear hW_ fin_
       have hd0 : W.cell? ⟨gb6, 0, none⟩ = some (.slice (some ad) (crays a1).length c_) := (blk_cell f6_ 0).trans rfl
       have hd1 : W.cell? ⟨gb6, 1, none⟩ = some (.int .u8 (cpar a1)) := (blk_cell f6_ 1).trans rfl
       have hd2 : W.cell? ⟨gb6, 2, none⟩ = some (.func (Fn.func (cno a1)) #[] #[]) := (blk_cell f6_ 2).trans rfl
       have he0 : W.cell? ⟨gb7, 0, none⟩ = some (.int .i64 s_) := (blk_cell f7_ 0).trans rfl
       have he1 : W.cell? ⟨gb7, 1, none⟩ = some (.int .i64 o_) := (blk_cell f7_ 1).trans rfl
       have he2 : W.cell? ⟨gb7, 2, none⟩ = some (.int .i64 m_) := (blk_cell f7_ 2).trans rfl
       have he3 : W.cell? ⟨gb7, 3, none⟩ = some (.int .i64 (-1)) := (blk_cell f7_ 3).trans rfl
       refine bodyPost_ret (v := .tuple #[.agg #[.slice (some ad) (crays a1).length c_, .int .u8 (cpar a1), .func (Fn.func (cno a1)) #[] #[]], .agg #[.int .i64 s_, .int .i64 o_, .int .i64 m_, .int .i64 (-1)], .int .i64 (0)]) ?_ rfl ⟨(some ad), (crays a1).length, c_, (cpar a1), .func (Fn.func (cno a1)) #[] #[], rfl, fun _ => (by unfold csig; rw [hcis]; rfl), .inr ⟨_, rfl⟩, fb_⟩
       simp [results, Try.results63, go_sem, hd0, hd1, hd2, he0, he1, he2, he3]
    ·have sb : decide (q < 0) = false := decide_eq_false e4
     cases f2
     ·rw [if_neg (by rintro (h | h | h | h); exact h e1; exact e2 h; exact e3 h; exact h sb)] at H
      obtain ⟨⟨x1, x2, x3, x4⟩, Ax_, H⟩ := Option.bind_eq_some_iff.mp H
      obtain ⟨s_, As_, H⟩ := Option.bind_eq_some_iff.mp H
      obtain ⟨o_, Ao_, H⟩ := Option.bind_eq_some_iff.mp H
      obtain ⟨m_, Am_, H⟩ := Option.bind_eq_some_iff.mp H
      have Ax := A0_ Ax_; have As := A0_ As_; have Ao := A0_ Ao_; have Am := A0_ Am_; clear Ax_ As_ Ao_ Am_ e4 e1 e2 e3
      go_upto_region 20 with (first | (go_at_call 54; (with_reducible refine (word_Class.calls k a0 a2_1 c1 c2 _ Ac.out).mono ?_); rintro e wc ⟨rfl, hb⟩; have nb_ := A0_ (blk_below BK13.out hb); clear BK13; have BK13 := nb_; clear nb_; have n1_ := A0_ (below_step (qm_ HB.out) hb); clear HB; have HB := n1_; clear n1_;  clear hb) | (go_at_call 54; (with_reducible refine (word_Class.calls k a0 a2_0 l1 l2 _ Al.out).mono ?_); rintro e wd ⟨rfl, hb⟩; have nb_ := A0_ (blk_below BK13.out hb); clear BK13; have BK13 := nb_; clear nb_; have n1_ := A0_ (below_step (qm_ HB.out) hb); clear HB; have HB := n1_; clear n1_; have hcz13b_0 : wd.cell? ⟨gb13, 0, none⟩ = some (.bool false) := (blk_cell BK13.out 0).trans rfl; have hfz13b_0 := blk_frozen BK13.out 0; have hcz13b_1 : wd.cell? ⟨gb13, 1, none⟩ = some (.int .i64 f1) := (blk_cell BK13.out 1).trans rfl; have hfz13b_1 := blk_frozen BK13.out 1; have hcz13b_2 : wd.cell? ⟨gb13, 2, none⟩ = some (.bool false) := (blk_cell BK13.out 2).trans rfl; have hfz13b_2 := blk_frozen BK13.out 2; clear hb) | (go_at_call 87; (with_reducible refine (cuts_against.calls k a0 a2_0 f1 q _ Aq.out).mono ?_); rintro e we ⟨rfl, hb⟩; have nb_ := A0_ (blk_below BK13.out hb); clear BK13; have BK13 := nb_; clear nb_; have n1_ := A0_ (below_step (qm_ HB.out) hb); clear HB; have HB := n1_; clear n1_ hcz13b_0 hfz13b_0 hcz13b_1 hfz13b_1 hcz13b_2 hfz13b_2; have hcz13c_0 : we.cell? ⟨gb13, 0, none⟩ = some (.bool false) := (blk_cell BK13.out 0).trans rfl; have hfz13c_0 := blk_frozen BK13.out 0; have hcz13c_1 : we.cell? ⟨gb13, 1, none⟩ = some (.int .i64 f1) := (blk_cell BK13.out 1).trans rfl; have hfz13c_1 := blk_frozen BK13.out 1; have hcz13c_2 : we.cell? ⟨gb13, 2, none⟩ = some (.bool false) := (blk_cell BK13.out 2).trans rfl; have hfz13c_2 := blk_frozen BK13.out 2; clear hb) | (go_at_call 88; (with_reducible refine (word_Split.calls k a0 a2_1 x1 x2 x3 x4 _ Ax.out).mono ?_); rintro e wf ⟨rfl, hb⟩;  have n1_ := A0_ (below_step (qm_ HB.out) hb); clear HB; have HB := n1_; clear n1_;  clear hb) | ((with_reducible refine gate_dst (N := 21) rfl ?_); refine box_event ?hg (N := 21) ?hd (cs := #[.bool false, .int .i64 0, .int .u64 0]) (t := 84) ?hr ?_; (case hd => rfl); (case hg => rfl); (case hr => first | (go_simp; done) | (go_simp; rfl)); intro gb21 hg wg hbox hb;  have n0_ := A0_ (below_step (qm_ HB.out) hb); have n1_ := A0_ hbox; have n2_ := A0_ ((by rw [hg]; exact (below_size (qm_ HB.out))) : wr.heap.size ≤ gb21); clear HB; have HB := n0_; have BK21 := n1_; have GE21 := n2_; clear n0_ n1_ n2_ hb hbox hg; have hcz21_0 : wg.cell? ⟨gb21, 0, none⟩ = some (.bool false) := (blk_cell BK21.out 0).trans rfl; have hfz21_0 := blk_frozen BK21.out 0; have hcz21_1 : wg.cell? ⟨gb21, 1, none⟩ = some (.int .i64 0) := (blk_cell BK21.out 1).trans rfl; have hfz21_1 := blk_frozen BK21.out 1; have hcz21_2 : wg.cell? ⟨gb21, 2, none⟩ = some (.int .u64 0) := (blk_cell BK21.out 2).trans rfl; have hfz21_2 := blk_frozen BK21.out 2;))
      have f21_ := (blk_set (blk_set (blk_set BK21.out 0 (.bool x1)) 1 (.int .i64 x2)) 2 (.int .u64 x3))
      have fb_ := (below_set (below_set (below_set HB.out GE21.out (j := 0) (v := .bool x1)) GE21.out (j := 1) (v := .int .i64 x2)) GE21.out (j := 2) (v := .int .u64 x3))
      clear hcz21_0 hfz21_0 hcz21_1 hfz21_1 hcz21_2 hfz21_2 BK21 HB
      generalize ((wg.setCell ⟨gb21, 0, none⟩ (.bool x1)).setCell ⟨gb21, 1, none⟩ (.int .i64 x2)).setCell ⟨gb21, 2, none⟩ (.int .u64 x3) = wh at f21_ fb_ ⊢
      have BK21 := A0_ f21_
      have HB := A0_ fb_
      clear f21_ fb_
      go_upto_region 21 with (first | (go_at_call 87; (with_reducible refine (cuts_against.calls k a0 a2_0 0 s_ _ As.out).mono ?_); rintro e wi1 ⟨rfl, hb⟩; have nb_ := A0_ (blk_below BK21.out hb); clear BK21; have BK21 := nb_; clear nb_; have n1_ := A0_ (below_step (qm_ HB.out) hb); clear HB; have HB := n1_; clear n1_;  clear hb) | (go_at_call 87; (with_reducible refine (cuts_against.calls k a0 a2_0 1 o_ _ Ao.out).mono ?_); rintro e wi2 ⟨rfl, hb⟩; have nb_ := A0_ (blk_below BK21.out hb); clear BK21; have BK21 := nb_; clear nb_; have n1_ := A0_ (below_step (qm_ HB.out) hb); clear HB; have HB := n1_; clear n1_;  clear hb) | (go_at_call 87; (with_reducible refine (cuts_against.calls k a0 a2_0 (-1) m_ _ Am.out).mono ?_); rintro e wi3 ⟨rfl, hb⟩; have nb_ := A0_ (blk_below BK21.out hb); clear BK21; have BK21 := nb_; clear nb_; have n1_ := A0_ (below_step (qm_ HB.out) hb); clear HB; have HB := n1_; clear n1_;  clear hb) | ((with_reducible refine gate_dst (N := 23) rfl ?_); refine box_event ?hg (N := 23) ?hd (cs := #[.int .i64 0, .int .i64 0, .int .i64 0, .int .i64 0]) (t := 96) ?hr ?_; (case hd => rfl); (case hg => rfl); (case hr => first | (go_simp; done) | (go_simp; rfl)); intro gb23 hg wk hbox hb; have LT21 := blk_lt BK21.out; have nb_ := A0_ (blk_below BK21.out hb); clear BK21; have BK21 := nb_; clear nb_; have n0_ := A0_ (below_step (qm_ HB.out) hb); have n1_ := A0_ hbox; have n2_ := A0_ ((by rw [hg]; exact (below_size (qm_ HB.out))) : wr.heap.size ≤ gb23); clear HB; have HB := n0_; have BK23 := n1_; have GE23 := n2_; clear n0_ n1_ n2_; have NE2123 := A0_ ((by rw [hg]; exact Nat.ne_of_lt LT21) : gb21 ≠ gb23); clear LT21 hb hbox hg; have hcz23_0 : wk.cell? ⟨gb23, 0, none⟩ = some (.int .i64 0) := (blk_cell BK23.out 0).trans rfl; have hfz23_0 := blk_frozen BK23.out 0; have hcz23_1 : wk.cell? ⟨gb23, 1, none⟩ = some (.int .i64 0) := (blk_cell BK23.out 1).trans rfl; have hfz23_1 := blk_frozen BK23.out 1; have hcz23_2 : wk.cell? ⟨gb23, 2, none⟩ = some (.int .i64 0) := (blk_cell BK23.out 2).trans rfl; have hfz23_2 := blk_frozen BK23.out 2; have hcz23_3 : wk.cell? ⟨gb23, 3, none⟩ = some (.int .i64 0) := (blk_cell BK23.out 3).trans rfl; have hfz23_3 := blk_frozen BK23.out 3;))
      have f21_ := (blk_far (blk_far (blk_far (blk_far BK21.out (p := ⟨gb23, 0, none⟩) NE2123.out (.int .i64 s_)) (p := ⟨gb23, 1, none⟩) NE2123.out (.int .i64 o_)) (p := ⟨gb23, 2, none⟩) NE2123.out (.int .i64 m_)) (p := ⟨gb23, 3, none⟩) NE2123.out (.int .i64 1))
      have f23_ := (blk_set (blk_set (blk_set (blk_set BK23.out 0 (.int .i64 s_)) 1 (.int .i64 o_)) 2 (.int .i64 m_)) 3 (.int .i64 1))
      have fb_ := (below_set (below_set (below_set (below_set HB.out GE23.out (j := 0) (v := .int .i64 s_)) GE23.out (j := 1) (v := .int .i64 o_)) GE23.out (j := 2) (v := .int .i64 m_)) GE23.out (j := 3) (v := .int .i64 1))
      clear hcz23_0 hfz23_0 hcz23_1 hfz23_1 hcz23_2 hfz23_2 hcz23_3 hfz23_3 BK21 BK23 HB
      generalize (((wk.setCell ⟨gb23, 0, none⟩ (.int .i64 s_)).setCell ⟨gb23, 1, none⟩ (.int .i64 o_)).setCell ⟨gb23, 2, none⟩ (.int .i64 m_)).setCell ⟨gb23, 3, none⟩ (.int .i64 1) = wl1 at f21_ f23_ fb_ ⊢
      cases x1
      ·simp only [Bool.false_eq_true, if_false, if_true, Option.some.injEq, Prod.mk.injEq] at H
       obtain ⟨rfl, rfl, rfl, rfl, rfl⟩ := H
       have hcz21_0 : wl1.cell? ⟨gb21, 0, none⟩ = some (.bool false) := (blk_cell f21_ 0).trans rfl
       have hcz23_3 : wl1.cell? ⟨gb23, 3, none⟩ = some (.int .i64 1) := (blk_cell f23_ 3).trans rfl
       have hfz23_3 := blk_frozen f23_ 3
       go_upto_region 23 with (fail)
       clear hcz21_0 hcz23_3 hfz23_3 f21_
       have f6_ := blk_below BK6.out fb_
       have f7_ := blk_below BK7.out fb_
       have f10_ := blk_below BK10.out fb_
       have fb2_ := below_step HBO.out fb_
       have hn723 : gb7 ≠ gb23 := fun h => by have h1 := blk_lt BK7.out; have h2 := GE23.out; omega
       replace f6_ := blk_drew f6_
       replace f7_ := blk_drew f7_
       replace f10_ := blk_drew f10_
       replace f23_ := blk_drew f23_
       replace fb2_ := below_drew1 fb2_
       clear fb_
       refine start_ (n := 5) (S := fun w' => w'.cell? ⟨gb10, 0, none⟩ = some (.slice (some ad) (crays a1).length c_) ∧ w'.cell? ⟨gb10, 1, none⟩ = some (.int .u8 (cpar a1)) ∧ w'.cell? ⟨gb10, 2, none⟩ = some (.func (Fn.func (cno a1)) #[] #[]) ∧ w'.cell? ⟨gb23, 0, none⟩ = some (.int .i64 s_) ∧ w'.cell? ⟨gb23, 1, none⟩ = some (.int .i64 o_) ∧ w'.cell? ⟨gb23, 2, none⟩ = some (.int .i64 m_) ∧ w'.cell? ⟨gb23, 3, none⟩ = some (.int .i64 (1))) (ds := []) #[false, false, false, false, false] (by kernel_rfl) rfl rfl ⟨(blk_cell f10_ 0).trans rfl, (blk_cell f10_ 1).trans rfl, (blk_cell f10_ 2).trans rfl, (blk_cell f23_ 0).trans rfl, (blk_cell f23_ 1).trans rfl, (blk_cell f23_ 2).trans rfl, (blk_cell f23_ 3).trans rfl⟩ (fun hHeld => ?_)
       generalize wl1.drew = wv at f6_ f7_ f10_ f23_ fb2_ hHeld ⊢
       have hn623 : gb6 ≠ gb23 := blk_ne f6_ f23_ (by decide)
       refine take_ (i := 0) (N := some 106) (v := ?_) (a' := ?_) #[true, false, false, false, false] rfl rfl (by kernel_rfl) (fun _ _ _ h => h) (Or.inl ⟨by rfl, ?_⟩) hHeld ?_ ?_
       rotate_left
       ·rintro w' ⟨s0, s1, s2, s3, s4, s5, s6⟩
        go_simp
        with_reducible rfl
       rotate_left
       ·simp only [Act.put, sp_, i64_w, i32_w]
        rfl
       refine take_ (i := 1) (N := some 107) (v := ?_) (a' := ?_) #[true, true, false, false, false] rfl rfl (by kernel_rfl) (fun _ _ _ h => h) (Or.inl ⟨by rfl, ?_⟩) hHeld ?_ ?_
       rotate_left
       ·rintro w' ⟨s0, s1, s2, s3, s4, s5, s6⟩
        go_simp
        with_reducible rfl
       rotate_left
       ·simp only [Act.put, sp_, i64_w, i32_w]
        rfl
       have hn106 := Ne.symm NE610.out
       have hn107 := Ne.symm NE710.out
       have hn236 := Ne.symm hn623
       have hn237 := Ne.symm hn723
       refine one_ (i := 2) (N := none) #[true, true, true, false, false] rfl rfl (by kernel_rfl) (by decide) (fun K hK => ?_)
       have hcs0 : wv.cell? ⟨gb6, 0, none⟩ = some (.slice none 0 0) := (blk_cell f6_ 0).trans rfl
       have hfs0 := blk_frozen f6_ 0
       have hcs1 : wv.cell? ⟨gb6, 1, none⟩ = some (.int .u8 0) := (blk_cell f6_ 1).trans rfl
       have hfs1 := blk_frozen f6_ 1
       have hcs2 : wv.cell? ⟨gb6, 2, none⟩ = some (.nilFunc) := (blk_cell f6_ 2).trans rfl
       have hfs2 := blk_frozen f6_ 2
       refine skip_ (w1 := ?_) (by rfl) rfl ?_ ?_
       rotate_left
       ·go_simp
        rfl
       refine hK.out _ _ ⟨((cell_far (p := ⟨gb6, _, none⟩) hn106 _).trans ((cell_far (p := ⟨gb6, _, none⟩) hn106 _).trans ((cell_far (p := ⟨gb6, _, none⟩) hn106 _).trans hHeld.1))), ((cell_far (p := ⟨gb6, _, none⟩) hn106 _).trans ((cell_far (p := ⟨gb6, _, none⟩) hn106 _).trans ((cell_far (p := ⟨gb6, _, none⟩) hn106 _).trans hHeld.2.1))), ((cell_far (p := ⟨gb6, _, none⟩) hn106 _).trans ((cell_far (p := ⟨gb6, _, none⟩) hn106 _).trans ((cell_far (p := ⟨gb6, _, none⟩) hn106 _).trans hHeld.2.2.1))), ((cell_far (p := ⟨gb6, _, none⟩) hn236 _).trans ((cell_far (p := ⟨gb6, _, none⟩) hn236 _).trans ((cell_far (p := ⟨gb6, _, none⟩) hn236 _).trans hHeld.2.2.2.1))), ((cell_far (p := ⟨gb6, _, none⟩) hn236 _).trans ((cell_far (p := ⟨gb6, _, none⟩) hn236 _).trans ((cell_far (p := ⟨gb6, _, none⟩) hn236 _).trans hHeld.2.2.2.2.1))), ((cell_far (p := ⟨gb6, _, none⟩) hn236 _).trans ((cell_far (p := ⟨gb6, _, none⟩) hn236 _).trans ((cell_far (p := ⟨gb6, _, none⟩) hn236 _).trans hHeld.2.2.2.2.2.1))), ((cell_far (p := ⟨gb6, _, none⟩) hn236 _).trans ((cell_far (p := ⟨gb6, _, none⟩) hn236 _).trans ((cell_far (p := ⟨gb6, _, none⟩) hn236 _).trans hHeld.2.2.2.2.2.2)))⟩ (fun hHeld => ?_)
       clear hK K hcs0 hfs0 hcs1 hfs1 hcs2 hfs2
       have f7b_ := (blk_far (blk_far (blk_far f7_ (p := ⟨gb6, 0, none⟩) (Ne.symm NE67.out) (.slice (some ad) (crays a1).length c_)) (p := ⟨gb6, 1, none⟩) (Ne.symm NE67.out) (.int .u8 (cpar a1))) (p := ⟨gb6, 2, none⟩) (Ne.symm NE67.out) (.func (Fn.func (cno a1)) #[] #[]))
       have f7k_ := f7_
       clear f7_
       have f7_ := f7b_
       clear f7b_
       refine one_ (i := 3) (N := none) #[true, true, true, true, false] rfl rfl (by kernel_rfl) (by decide) (fun K hK => ?_)
       have hcs0 : (((wv.setCell ⟨gb6, 0, none⟩ (.slice (some ad) (crays a1).length c_)).setCell ⟨gb6, 1, none⟩ (.int .u8 (cpar a1))).setCell ⟨gb6, 2, none⟩ (.func (Fn.func (cno a1)) #[] #[])).cell? ⟨gb7, 0, none⟩ = some (.int .i64 0) := (blk_cell f7_ 0).trans rfl
       have hfs0 := blk_frozen f7_ 0
       have hcs1 : (((wv.setCell ⟨gb6, 0, none⟩ (.slice (some ad) (crays a1).length c_)).setCell ⟨gb6, 1, none⟩ (.int .u8 (cpar a1))).setCell ⟨gb6, 2, none⟩ (.func (Fn.func (cno a1)) #[] #[])).cell? ⟨gb7, 1, none⟩ = some (.int .i64 0) := (blk_cell f7_ 1).trans rfl
       have hfs1 := blk_frozen f7_ 1
       have hcs2 : (((wv.setCell ⟨gb6, 0, none⟩ (.slice (some ad) (crays a1).length c_)).setCell ⟨gb6, 1, none⟩ (.int .u8 (cpar a1))).setCell ⟨gb6, 2, none⟩ (.func (Fn.func (cno a1)) #[] #[])).cell? ⟨gb7, 2, none⟩ = some (.int .i64 0) := (blk_cell f7_ 2).trans rfl
       have hfs2 := blk_frozen f7_ 2
       have hcs3 : (((wv.setCell ⟨gb6, 0, none⟩ (.slice (some ad) (crays a1).length c_)).setCell ⟨gb6, 1, none⟩ (.int .u8 (cpar a1))).setCell ⟨gb6, 2, none⟩ (.func (Fn.func (cno a1)) #[] #[])).cell? ⟨gb7, 3, none⟩ = some (.int .i64 0) := (blk_cell f7_ 3).trans rfl
       have hfs3 := blk_frozen f7_ 3
       refine skip_ (w1 := ?_) (by rfl) rfl ?_ ?_
       rotate_left
       ·go_simp
        rfl
       refine hK.out _ _ ⟨((cell_far (p := ⟨gb7, _, none⟩) hn107 _).trans ((cell_far (p := ⟨gb7, _, none⟩) hn107 _).trans ((cell_far (p := ⟨gb7, _, none⟩) hn107 _).trans ((cell_far (p := ⟨gb7, _, none⟩) hn107 _).trans hHeld.1)))), ((cell_far (p := ⟨gb7, _, none⟩) hn107 _).trans ((cell_far (p := ⟨gb7, _, none⟩) hn107 _).trans ((cell_far (p := ⟨gb7, _, none⟩) hn107 _).trans ((cell_far (p := ⟨gb7, _, none⟩) hn107 _).trans hHeld.2.1)))), ((cell_far (p := ⟨gb7, _, none⟩) hn107 _).trans ((cell_far (p := ⟨gb7, _, none⟩) hn107 _).trans ((cell_far (p := ⟨gb7, _, none⟩) hn107 _).trans ((cell_far (p := ⟨gb7, _, none⟩) hn107 _).trans hHeld.2.2.1)))), ((cell_far (p := ⟨gb7, _, none⟩) hn237 _).trans ((cell_far (p := ⟨gb7, _, none⟩) hn237 _).trans ((cell_far (p := ⟨gb7, _, none⟩) hn237 _).trans ((cell_far (p := ⟨gb7, _, none⟩) hn237 _).trans hHeld.2.2.2.1)))), ((cell_far (p := ⟨gb7, _, none⟩) hn237 _).trans ((cell_far (p := ⟨gb7, _, none⟩) hn237 _).trans ((cell_far (p := ⟨gb7, _, none⟩) hn237 _).trans ((cell_far (p := ⟨gb7, _, none⟩) hn237 _).trans hHeld.2.2.2.2.1)))), ((cell_far (p := ⟨gb7, _, none⟩) hn237 _).trans ((cell_far (p := ⟨gb7, _, none⟩) hn237 _).trans ((cell_far (p := ⟨gb7, _, none⟩) hn237 _).trans ((cell_far (p := ⟨gb7, _, none⟩) hn237 _).trans hHeld.2.2.2.2.2.1)))), ((cell_far (p := ⟨gb7, _, none⟩) hn237 _).trans ((cell_far (p := ⟨gb7, _, none⟩) hn237 _).trans ((cell_far (p := ⟨gb7, _, none⟩) hn237 _).trans ((cell_far (p := ⟨gb7, _, none⟩) hn237 _).trans hHeld.2.2.2.2.2.2))))⟩ (fun hHeld => ?_)
       clear hK K hcs0 hfs0 hcs1 hfs1 hcs2 hfs2 hcs3 hfs3
       refine pure_ (i := 4) (N := some 8) (v := ?_) (a' := ?_) #[true, true, true, true, true] rfl rfl (by kernel_rfl) (fun _ _ _ h => h) (Or.inl ⟨by rfl, ?_⟩) ?_ ?_
       rotate_left
       ·intro w'
        go_simp
        with_reducible rfl
       rotate_left
       ·simp only [Act.put, sp_, i64_w, i32_w]
        rfl
       refine done_ (by kernel_rfl) ?_
       try go_wp2
       have BK6 := A0_ f6_
       have BK7 := A0_ f7k_
       have HB := A0_ fb2_
       have fin_ := fun W hW => set67 BK6.out BK7.out NE67.out HB.out GE6.out GE7.out (.slice (some ad) (crays a1).length c_) (.int .u8 (cpar a1)) (.func (Fn.func (cno a1)) #[] #[]) (.int .i64 s_) (.int .i64 o_) (.int .i64 m_) (.int .i64 (1)) W hW
       generalize hW_ : (((((((wv.setCell ⟨gb6, 0, none⟩ (.slice (some ad) (crays a1).length c_)).setCell ⟨gb6, 1, none⟩ (.int .u8 (cpar a1))).setCell ⟨gb6, 2, none⟩ (.func (Fn.func (cno a1)) #[] #[])).setCell ⟨gb7, 0, none⟩ (.int .i64 s_)).setCell ⟨gb7, 1, none⟩ (.int .i64 o_)).setCell ⟨gb7, 2, none⟩ (.int .i64 m_)).setCell ⟨gb7, 3, none⟩ (.int .i64 (1))) = W
       obtain ⟨f6_, f7_, fb_⟩ := fin_ W hW_
       clear hW_ fin_
       have hd0 : W.cell? ⟨gb6, 0, none⟩ = some (.slice (some ad) (crays a1).length c_) := (blk_cell f6_ 0).trans rfl
       have hd1 : W.cell? ⟨gb6, 1, none⟩ = some (.int .u8 (cpar a1)) := (blk_cell f6_ 1).trans rfl
       have hd2 : W.cell? ⟨gb6, 2, none⟩ = some (.func (Fn.func (cno a1)) #[] #[]) := (blk_cell f6_ 2).trans rfl
       have he0 : W.cell? ⟨gb7, 0, none⟩ = some (.int .i64 s_) := (blk_cell f7_ 0).trans rfl
       have he1 : W.cell? ⟨gb7, 1, none⟩ = some (.int .i64 o_) := (blk_cell f7_ 1).trans rfl
       have he2 : W.cell? ⟨gb7, 2, none⟩ = some (.int .i64 m_) := (blk_cell f7_ 2).trans rfl
       have he3 : W.cell? ⟨gb7, 3, none⟩ = some (.int .i64 (1)) := (blk_cell f7_ 3).trans rfl
       refine bodyPost_ret (v := .tuple #[.agg #[.slice (some ad) (crays a1).length c_, .int .u8 (cpar a1), .func (Fn.func (cno a1)) #[] #[]], .agg #[.int .i64 s_, .int .i64 o_, .int .i64 m_, .int .i64 (1)], .int .i64 (0)]) ?_ rfl ⟨(some ad), (crays a1).length, c_, (cpar a1), .func (Fn.func (cno a1)) #[] #[], rfl, fun _ => (by unfold csig; rw [hcis]; rfl), .inr ⟨_, rfl⟩, fb_⟩
       simp [results, Try.results63, go_sem, hd0, hd1, hd2, he0, he1, he2, he3]
      ·simp only [Bool.false_eq_true, if_false, if_true, Option.some.injEq, Prod.mk.injEq] at H
       obtain ⟨rfl, rfl, rfl, rfl, rfl⟩ := H
       have hcz21_0 : wl1.cell? ⟨gb21, 0, none⟩ = some (.bool true) := (blk_cell f21_ 0).trans rfl
       have hcz23_3 : wl1.cell? ⟨gb23, 3, none⟩ = some (.int .i64 1) := (blk_cell f23_ 3).trans rfl
       have hfz23_3 := blk_frozen f23_ 3
       go_upto_region 23 with (fail)
       replace f23_ := (blk_set f23_ 3 (.int .i64 (-1)))
       replace fb_ := below_set fb_ GE23.out (j := 3) (v := .int .i64 (-1))
       clear hcz21_0 hcz23_3 hfz23_3 f21_
       generalize wl1.setCell ⟨gb23, 3, none⟩ (.int .i64 (-1)) = wn1 at f23_ fb_ ⊢
       have f6_ := blk_below BK6.out fb_
       have f7_ := blk_below BK7.out fb_
       have f10_ := blk_below BK10.out fb_
       have fb2_ := below_step HBO.out fb_
       have hn723 : gb7 ≠ gb23 := fun h => by have h1 := blk_lt BK7.out; have h2 := GE23.out; omega
       replace f6_ := blk_drew f6_
       replace f7_ := blk_drew f7_
       replace f10_ := blk_drew f10_
       replace f23_ := blk_drew f23_
       replace fb2_ := below_drew1 fb2_
       clear fb_
       refine start_ (n := 5) (S := fun w' => w'.cell? ⟨gb10, 0, none⟩ = some (.slice (some ad) (crays a1).length c_) ∧ w'.cell? ⟨gb10, 1, none⟩ = some (.int .u8 (cpar a1)) ∧ w'.cell? ⟨gb10, 2, none⟩ = some (.func (Fn.func (cno a1)) #[] #[]) ∧ w'.cell? ⟨gb23, 0, none⟩ = some (.int .i64 s_) ∧ w'.cell? ⟨gb23, 1, none⟩ = some (.int .i64 o_) ∧ w'.cell? ⟨gb23, 2, none⟩ = some (.int .i64 m_) ∧ w'.cell? ⟨gb23, 3, none⟩ = some (.int .i64 (-1))) (ds := []) #[false, false, false, false, false] (by kernel_rfl) rfl rfl ⟨(blk_cell f10_ 0).trans rfl, (blk_cell f10_ 1).trans rfl, (blk_cell f10_ 2).trans rfl, (blk_cell f23_ 0).trans rfl, (blk_cell f23_ 1).trans rfl, (blk_cell f23_ 2).trans rfl, (blk_cell f23_ 3).trans rfl⟩ (fun hHeld => ?_)
       generalize wn1.drew = wv at f6_ f7_ f10_ f23_ fb2_ hHeld ⊢
       have hn623 : gb6 ≠ gb23 := blk_ne f6_ f23_ (by decide)
       refine take_ (i := 0) (N := some 106) (v := ?_) (a' := ?_) #[true, false, false, false, false] rfl rfl (by kernel_rfl) (fun _ _ _ h => h) (Or.inl ⟨by rfl, ?_⟩) hHeld ?_ ?_
       rotate_left
       ·rintro w' ⟨s0, s1, s2, s3, s4, s5, s6⟩
        go_simp
        with_reducible rfl
       rotate_left
       ·simp only [Act.put, sp_, i64_w, i32_w]
        rfl
       refine take_ (i := 1) (N := some 107) (v := ?_) (a' := ?_) #[true, true, false, false, false] rfl rfl (by kernel_rfl) (fun _ _ _ h => h) (Or.inl ⟨by rfl, ?_⟩) hHeld ?_ ?_
       rotate_left
       ·rintro w' ⟨s0, s1, s2, s3, s4, s5, s6⟩
        go_simp
        with_reducible rfl
       rotate_left
       ·simp only [Act.put, sp_, i64_w, i32_w]
        rfl
       have hn106 := Ne.symm NE610.out
       have hn107 := Ne.symm NE710.out
       have hn236 := Ne.symm hn623
       have hn237 := Ne.symm hn723
       refine one_ (i := 2) (N := none) #[true, true, true, false, false] rfl rfl (by kernel_rfl) (by decide) (fun K hK => ?_)
       have hcs0 : wv.cell? ⟨gb6, 0, none⟩ = some (.slice none 0 0) := (blk_cell f6_ 0).trans rfl
       have hfs0 := blk_frozen f6_ 0
       have hcs1 : wv.cell? ⟨gb6, 1, none⟩ = some (.int .u8 0) := (blk_cell f6_ 1).trans rfl
       have hfs1 := blk_frozen f6_ 1
       have hcs2 : wv.cell? ⟨gb6, 2, none⟩ = some (.nilFunc) := (blk_cell f6_ 2).trans rfl
       have hfs2 := blk_frozen f6_ 2
       refine skip_ (w1 := ?_) (by rfl) rfl ?_ ?_
       rotate_left
       ·go_simp
        rfl
       refine hK.out _ _ ⟨((cell_far (p := ⟨gb6, _, none⟩) hn106 _).trans ((cell_far (p := ⟨gb6, _, none⟩) hn106 _).trans ((cell_far (p := ⟨gb6, _, none⟩) hn106 _).trans hHeld.1))), ((cell_far (p := ⟨gb6, _, none⟩) hn106 _).trans ((cell_far (p := ⟨gb6, _, none⟩) hn106 _).trans ((cell_far (p := ⟨gb6, _, none⟩) hn106 _).trans hHeld.2.1))), ((cell_far (p := ⟨gb6, _, none⟩) hn106 _).trans ((cell_far (p := ⟨gb6, _, none⟩) hn106 _).trans ((cell_far (p := ⟨gb6, _, none⟩) hn106 _).trans hHeld.2.2.1))), ((cell_far (p := ⟨gb6, _, none⟩) hn236 _).trans ((cell_far (p := ⟨gb6, _, none⟩) hn236 _).trans ((cell_far (p := ⟨gb6, _, none⟩) hn236 _).trans hHeld.2.2.2.1))), ((cell_far (p := ⟨gb6, _, none⟩) hn236 _).trans ((cell_far (p := ⟨gb6, _, none⟩) hn236 _).trans ((cell_far (p := ⟨gb6, _, none⟩) hn236 _).trans hHeld.2.2.2.2.1))), ((cell_far (p := ⟨gb6, _, none⟩) hn236 _).trans ((cell_far (p := ⟨gb6, _, none⟩) hn236 _).trans ((cell_far (p := ⟨gb6, _, none⟩) hn236 _).trans hHeld.2.2.2.2.2.1))), ((cell_far (p := ⟨gb6, _, none⟩) hn236 _).trans ((cell_far (p := ⟨gb6, _, none⟩) hn236 _).trans ((cell_far (p := ⟨gb6, _, none⟩) hn236 _).trans hHeld.2.2.2.2.2.2)))⟩ (fun hHeld => ?_)
       clear hK K hcs0 hfs0 hcs1 hfs1 hcs2 hfs2
       have f7b_ := (blk_far (blk_far (blk_far f7_ (p := ⟨gb6, 0, none⟩) (Ne.symm NE67.out) (.slice (some ad) (crays a1).length c_)) (p := ⟨gb6, 1, none⟩) (Ne.symm NE67.out) (.int .u8 (cpar a1))) (p := ⟨gb6, 2, none⟩) (Ne.symm NE67.out) (.func (Fn.func (cno a1)) #[] #[]))
       have f7k_ := f7_
       clear f7_
       have f7_ := f7b_
       clear f7b_
       refine one_ (i := 3) (N := none) #[true, true, true, true, false] rfl rfl (by kernel_rfl) (by decide) (fun K hK => ?_)
       have hcs0 : (((wv.setCell ⟨gb6, 0, none⟩ (.slice (some ad) (crays a1).length c_)).setCell ⟨gb6, 1, none⟩ (.int .u8 (cpar a1))).setCell ⟨gb6, 2, none⟩ (.func (Fn.func (cno a1)) #[] #[])).cell? ⟨gb7, 0, none⟩ = some (.int .i64 0) := (blk_cell f7_ 0).trans rfl
       have hfs0 := blk_frozen f7_ 0
       have hcs1 : (((wv.setCell ⟨gb6, 0, none⟩ (.slice (some ad) (crays a1).length c_)).setCell ⟨gb6, 1, none⟩ (.int .u8 (cpar a1))).setCell ⟨gb6, 2, none⟩ (.func (Fn.func (cno a1)) #[] #[])).cell? ⟨gb7, 1, none⟩ = some (.int .i64 0) := (blk_cell f7_ 1).trans rfl
       have hfs1 := blk_frozen f7_ 1
       have hcs2 : (((wv.setCell ⟨gb6, 0, none⟩ (.slice (some ad) (crays a1).length c_)).setCell ⟨gb6, 1, none⟩ (.int .u8 (cpar a1))).setCell ⟨gb6, 2, none⟩ (.func (Fn.func (cno a1)) #[] #[])).cell? ⟨gb7, 2, none⟩ = some (.int .i64 0) := (blk_cell f7_ 2).trans rfl
       have hfs2 := blk_frozen f7_ 2
       have hcs3 : (((wv.setCell ⟨gb6, 0, none⟩ (.slice (some ad) (crays a1).length c_)).setCell ⟨gb6, 1, none⟩ (.int .u8 (cpar a1))).setCell ⟨gb6, 2, none⟩ (.func (Fn.func (cno a1)) #[] #[])).cell? ⟨gb7, 3, none⟩ = some (.int .i64 0) := (blk_cell f7_ 3).trans rfl
       have hfs3 := blk_frozen f7_ 3
       refine skip_ (w1 := ?_) (by rfl) rfl ?_ ?_
       rotate_left
       ·go_simp
        rfl
       refine hK.out _ _ ⟨((cell_far (p := ⟨gb7, _, none⟩) hn107 _).trans ((cell_far (p := ⟨gb7, _, none⟩) hn107 _).trans ((cell_far (p := ⟨gb7, _, none⟩) hn107 _).trans ((cell_far (p := ⟨gb7, _, none⟩) hn107 _).trans hHeld.1)))), ((cell_far (p := ⟨gb7, _, none⟩) hn107 _).trans ((cell_far (p := ⟨gb7, _, none⟩) hn107 _).trans ((cell_far (p := ⟨gb7, _, none⟩) hn107 _).trans ((cell_far (p := ⟨gb7, _, none⟩) hn107 _).trans hHeld.2.1)))), ((cell_far (p := ⟨gb7, _, none⟩) hn107 _).trans ((cell_far (p := ⟨gb7, _, none⟩) hn107 _).trans ((cell_far (p := ⟨gb7, _, none⟩) hn107 _).trans ((cell_far (p := ⟨gb7, _, none⟩) hn107 _).trans hHeld.2.2.1)))), ((cell_far (p := ⟨gb7, _, none⟩) hn237 _).trans ((cell_far (p := ⟨gb7, _, none⟩) hn237 _).trans ((cell_far (p := ⟨gb7, _, none⟩) hn237 _).trans ((cell_far (p := ⟨gb7, _, none⟩) hn237 _).trans hHeld.2.2.2.1)))), ((cell_far (p := ⟨gb7, _, none⟩) hn237 _).trans ((cell_far (p := ⟨gb7, _, none⟩) hn237 _).trans ((cell_far (p := ⟨gb7, _, none⟩) hn237 _).trans ((cell_far (p := ⟨gb7, _, none⟩) hn237 _).trans hHeld.2.2.2.2.1)))), ((cell_far (p := ⟨gb7, _, none⟩) hn237 _).trans ((cell_far (p := ⟨gb7, _, none⟩) hn237 _).trans ((cell_far (p := ⟨gb7, _, none⟩) hn237 _).trans ((cell_far (p := ⟨gb7, _, none⟩) hn237 _).trans hHeld.2.2.2.2.2.1)))), ((cell_far (p := ⟨gb7, _, none⟩) hn237 _).trans ((cell_far (p := ⟨gb7, _, none⟩) hn237 _).trans ((cell_far (p := ⟨gb7, _, none⟩) hn237 _).trans ((cell_far (p := ⟨gb7, _, none⟩) hn237 _).trans hHeld.2.2.2.2.2.2))))⟩ (fun hHeld => ?_)
       clear hK K hcs0 hfs0 hcs1 hfs1 hcs2 hfs2 hcs3 hfs3
       refine pure_ (i := 4) (N := some 8) (v := ?_) (a' := ?_) #[true, true, true, true, true] rfl rfl (by kernel_rfl) (fun _ _ _ h => h) (Or.inl ⟨by rfl, ?_⟩) ?_ ?_
       rotate_left
       ·intro w'
        go_simp
        with_reducible rfl
       rotate_left
       ·simp only [Act.put, sp_, i64_w, i32_w]
        rfl
       refine done_ (by kernel_rfl) ?_
       try go_wp2
       have BK6 := A0_ f6_
       have BK7 := A0_ f7k_
       have HB := A0_ fb2_
       have fin_ := fun W hW => set67 BK6.out BK7.out NE67.out HB.out GE6.out GE7.out (.slice (some ad) (crays a1).length c_) (.int .u8 (cpar a1)) (.func (Fn.func (cno a1)) #[] #[]) (.int .i64 s_) (.int .i64 o_) (.int .i64 m_) (.int .i64 (-1)) W hW
       generalize hW_ : (((((((wv.setCell ⟨gb6, 0, none⟩ (.slice (some ad) (crays a1).length c_)).setCell ⟨gb6, 1, none⟩ (.int .u8 (cpar a1))).setCell ⟨gb6, 2, none⟩ (.func (Fn.func (cno a1)) #[] #[])).setCell ⟨gb7, 0, none⟩ (.int .i64 s_)).setCell ⟨gb7, 1, none⟩ (.int .i64 o_)).setCell ⟨gb7, 2, none⟩ (.int .i64 m_)).setCell ⟨gb7, 3, none⟩ (.int .i64 (-1))) = W
       obtain ⟨f6_, f7_, fb_⟩ := fin_ W hW_
       clear hW_ fin_
       have hd0 : W.cell? ⟨gb6, 0, none⟩ = some (.slice (some ad) (crays a1).length c_) := (blk_cell f6_ 0).trans rfl
       have hd1 : W.cell? ⟨gb6, 1, none⟩ = some (.int .u8 (cpar a1)) := (blk_cell f6_ 1).trans rfl
       have hd2 : W.cell? ⟨gb6, 2, none⟩ = some (.func (Fn.func (cno a1)) #[] #[]) := (blk_cell f6_ 2).trans rfl
       have he0 : W.cell? ⟨gb7, 0, none⟩ = some (.int .i64 s_) := (blk_cell f7_ 0).trans rfl
       have he1 : W.cell? ⟨gb7, 1, none⟩ = some (.int .i64 o_) := (blk_cell f7_ 1).trans rfl
       have he2 : W.cell? ⟨gb7, 2, none⟩ = some (.int .i64 m_) := (blk_cell f7_ 2).trans rfl
       have he3 : W.cell? ⟨gb7, 3, none⟩ = some (.int .i64 (-1)) := (blk_cell f7_ 3).trans rfl
       refine bodyPost_ret (v := .tuple #[.agg #[.slice (some ad) (crays a1).length c_, .int .u8 (cpar a1), .func (Fn.func (cno a1)) #[] #[]], .agg #[.int .i64 s_, .int .i64 o_, .int .i64 m_, .int .i64 (-1)], .int .i64 (0)]) ?_ rfl ⟨(some ad), (crays a1).length, c_, (cpar a1), .func (Fn.func (cno a1)) #[] #[], rfl, fun _ => (by unfold csig; rw [hcis]; rfl), .inr ⟨_, rfl⟩, fb_⟩
       simp [results, Try.results63, go_sem, hd0, hd1, hd2, he0, he1, he2, he3]
     ·rw [if_pos (.inr (.inr (.inr (by rw [sb]; decide))))] at H
      have HN := A0_ H
      clear H e4 e1 e2 e3
      go_wp2_with (first | (go_at_call 54; (with_reducible refine (word_Class.calls k a0 a2_1 c1 c2 _ Ac.out).mono ?_); rintro e wc ⟨rfl, hb⟩; have nb_ := A0_ (blk_below BK13.out hb); clear BK13; have BK13 := nb_; clear nb_; have n1_ := A0_ (below_step (qm_ HB.out) hb); clear HB; have HB := n1_; clear n1_;  clear hb) | (go_at_call 54; (with_reducible refine (word_Class.calls k a0 a2_0 l1 l2 _ Al.out).mono ?_); rintro e wd ⟨rfl, hb⟩; have nb_ := A0_ (blk_below BK13.out hb); clear BK13; have BK13 := nb_; clear nb_; have n1_ := A0_ (below_step (qm_ HB.out) hb); clear HB; have HB := n1_; clear n1_; have hcz13b_0 : wd.cell? ⟨gb13, 0, none⟩ = some (.bool false) := (blk_cell BK13.out 0).trans rfl; have hfz13b_0 := blk_frozen BK13.out 0; have hcz13b_1 : wd.cell? ⟨gb13, 1, none⟩ = some (.int .i64 f1) := (blk_cell BK13.out 1).trans rfl; have hfz13b_1 := blk_frozen BK13.out 1; have hcz13b_2 : wd.cell? ⟨gb13, 2, none⟩ = some (.bool true) := (blk_cell BK13.out 2).trans rfl; have hfz13b_2 := blk_frozen BK13.out 2; clear hb) | (go_at_call 87; (with_reducible refine (cuts_against.calls k a0 a2_0 f1 q _ Aq.out).mono ?_); rintro e we ⟨rfl, hb⟩; have nb_ := A0_ (blk_below BK13.out hb); clear BK13; have BK13 := nb_; clear nb_; have n1_ := A0_ (below_step (qm_ HB.out) hb); clear HB; have HB := n1_; clear n1_ hcz13b_0 hfz13b_0 hcz13b_1 hfz13b_1 hcz13b_2 hfz13b_2; have hcz13c_0 : we.cell? ⟨gb13, 0, none⟩ = some (.bool false) := (blk_cell BK13.out 0).trans rfl; have hfz13c_0 := blk_frozen BK13.out 0; have hcz13c_1 : we.cell? ⟨gb13, 1, none⟩ = some (.int .i64 f1) := (blk_cell BK13.out 1).trans rfl; have hfz13c_1 := blk_frozen BK13.out 1; have hcz13c_2 : we.cell? ⟨gb13, 2, none⟩ = some (.bool true) := (blk_cell BK13.out 2).trans rfl; have hfz13c_2 := blk_frozen BK13.out 2; clear hb))
      go_roundg ((crays a1).length - (i + 1))
      case measure => have := HK.out; have := HC8.out; omega
      case rel => exact ⟨i + 1, (congrArg (Value.int .i64) (by have := HC8.out; have := HLen.out; unfold wrap64; omega)), ⟨by have := HC8.out; omega⟩, ⟨rfl⟩, HN, ⟨Kd.R_below HO.out HB.out⟩, ⟨blk_below BK5O.out HB.out⟩, ⟨blk_below BK6.out HB.out⟩, ⟨blk_below BK7.out HB.out⟩, ⟨blk_below BK10.out HB.out⟩, ⟨below_step HBO.out HB.out⟩⟩
   ·simp only [cuts_find.g, Bool.false_eq_true, if_false, if_true] at H
    obtain ⟨⟨c1, c2⟩, Ac_, H⟩ := Option.bind_eq_some_iff.mp H
    obtain ⟨⟨l1, l2⟩, Al_, H⟩ := Option.bind_eq_some_iff.mp H
    obtain ⟨q, Aq_, H⟩ := Option.bind_eq_some_iff.mp H
    have Ac := A0_ Ac_; have Al := A0_ Al_; have Aq := A0_ Aq_; clear Ac_ Al_ Aq_
    have hcz13_0 : wn.cell? ⟨gb13, 0, none⟩ = some (.bool true) := (blk_cell BK13.out 0).trans rfl
    by_cases e1 : c1 = 1
    rotate_left
    ·have c1b : (c1 != 1) = true := bne_iff_ne.mpr e1
     rw [if_pos (.inl e1)] at H
     have HN := A0_ H
     clear H  e1
     go_wp2_with (first | (go_at_call 54; (with_reducible refine (word_Class.calls k a0 a2_0 c1 c2 _ Ac.out).mono ?_); rintro e wc ⟨rfl, hb⟩; have nb_ := A0_ (blk_below BK13.out hb); clear BK13; have BK13 := nb_; clear nb_; have n1_ := A0_ (below_step (qm_ HB.out) hb); clear HB; have HB := n1_; clear n1_;  clear hb) | (go_at_call 54; (with_reducible refine (word_Class.calls k a0 a2_1 l1 l2 _ Al.out).mono ?_); rintro e wd ⟨rfl, hb⟩; have nb_ := A0_ (blk_below BK13.out hb); clear BK13; have BK13 := nb_; clear nb_; have n1_ := A0_ (below_step (qm_ HB.out) hb); clear HB; have HB := n1_; clear n1_; have hcz13b_0 : wd.cell? ⟨gb13, 0, none⟩ = some (.bool true) := (blk_cell BK13.out 0).trans rfl; have hfz13b_0 := blk_frozen BK13.out 0; have hcz13b_1 : wd.cell? ⟨gb13, 1, none⟩ = some (.int .i64 f1) := (blk_cell BK13.out 1).trans rfl; have hfz13b_1 := blk_frozen BK13.out 1; have hcz13b_2 : wd.cell? ⟨gb13, 2, none⟩ = some (.bool f2) := (blk_cell BK13.out 2).trans rfl; have hfz13b_2 := blk_frozen BK13.out 2; clear hb) | (go_at_call 87; (with_reducible refine (cuts_against.calls k a0 a2_1 f1 q _ Aq.out).mono ?_); rintro e we ⟨rfl, hb⟩; have nb_ := A0_ (blk_below BK13.out hb); clear BK13; have BK13 := nb_; clear nb_; have n1_ := A0_ (below_step (qm_ HB.out) hb); clear HB; have HB := n1_; clear n1_ hcz13b_0 hfz13b_0 hcz13b_1 hfz13b_1 hcz13b_2 hfz13b_2; have hcz13c_0 : we.cell? ⟨gb13, 0, none⟩ = some (.bool true) := (blk_cell BK13.out 0).trans rfl; have hfz13c_0 := blk_frozen BK13.out 0; have hcz13c_1 : we.cell? ⟨gb13, 1, none⟩ = some (.int .i64 f1) := (blk_cell BK13.out 1).trans rfl; have hfz13c_1 := blk_frozen BK13.out 1; have hcz13c_2 : we.cell? ⟨gb13, 2, none⟩ = some (.bool f2) := (blk_cell BK13.out 2).trans rfl; have hfz13c_2 := blk_frozen BK13.out 2; clear hb))
     go_roundg ((crays a1).length - (i + 1))
     case measure => have := HK.out; have := HC8.out; omega
     case rel => exact ⟨i + 1, (congrArg (Value.int .i64) (by have := HC8.out; have := HLen.out; unfold wrap64; omega)), ⟨by have := HC8.out; omega⟩, ⟨rfl⟩, HN, ⟨Kd.R_below HO.out HB.out⟩, ⟨blk_below BK5O.out HB.out⟩, ⟨blk_below BK6.out HB.out⟩, ⟨blk_below BK7.out HB.out⟩, ⟨blk_below BK10.out HB.out⟩, ⟨below_step HBO.out HB.out⟩⟩
    have c1b : (c1 != 1) = false := bne_eq_false_iff_eq.mpr e1
    by_cases e2 : l1 = 5
    ·have l1b : (l1 == 5) = true := beq_iff_eq.mpr e2
     rw [if_pos (.inr (.inl e2))] at H
     have HN := A0_ H
     clear H  e1 e2
     go_wp2_with (first | (go_at_call 54; (with_reducible refine (word_Class.calls k a0 a2_0 c1 c2 _ Ac.out).mono ?_); rintro e wc ⟨rfl, hb⟩; have nb_ := A0_ (blk_below BK13.out hb); clear BK13; have BK13 := nb_; clear nb_; have n1_ := A0_ (below_step (qm_ HB.out) hb); clear HB; have HB := n1_; clear n1_;  clear hb) | (go_at_call 54; (with_reducible refine (word_Class.calls k a0 a2_1 l1 l2 _ Al.out).mono ?_); rintro e wd ⟨rfl, hb⟩; have nb_ := A0_ (blk_below BK13.out hb); clear BK13; have BK13 := nb_; clear nb_; have n1_ := A0_ (below_step (qm_ HB.out) hb); clear HB; have HB := n1_; clear n1_; have hcz13b_0 : wd.cell? ⟨gb13, 0, none⟩ = some (.bool true) := (blk_cell BK13.out 0).trans rfl; have hfz13b_0 := blk_frozen BK13.out 0; have hcz13b_1 : wd.cell? ⟨gb13, 1, none⟩ = some (.int .i64 f1) := (blk_cell BK13.out 1).trans rfl; have hfz13b_1 := blk_frozen BK13.out 1; have hcz13b_2 : wd.cell? ⟨gb13, 2, none⟩ = some (.bool f2) := (blk_cell BK13.out 2).trans rfl; have hfz13b_2 := blk_frozen BK13.out 2; clear hb) | (go_at_call 87; (with_reducible refine (cuts_against.calls k a0 a2_1 f1 q _ Aq.out).mono ?_); rintro e we ⟨rfl, hb⟩; have nb_ := A0_ (blk_below BK13.out hb); clear BK13; have BK13 := nb_; clear nb_; have n1_ := A0_ (below_step (qm_ HB.out) hb); clear HB; have HB := n1_; clear n1_ hcz13b_0 hfz13b_0 hcz13b_1 hfz13b_1 hcz13b_2 hfz13b_2; have hcz13c_0 : we.cell? ⟨gb13, 0, none⟩ = some (.bool true) := (blk_cell BK13.out 0).trans rfl; have hfz13c_0 := blk_frozen BK13.out 0; have hcz13c_1 : we.cell? ⟨gb13, 1, none⟩ = some (.int .i64 f1) := (blk_cell BK13.out 1).trans rfl; have hfz13c_1 := blk_frozen BK13.out 1; have hcz13c_2 : we.cell? ⟨gb13, 2, none⟩ = some (.bool f2) := (blk_cell BK13.out 2).trans rfl; have hfz13c_2 := blk_frozen BK13.out 2; clear hb))
     go_roundg ((crays a1).length - (i + 1))
     case measure => have := HK.out; have := HC8.out; omega
     case rel => exact ⟨i + 1, (congrArg (Value.int .i64) (by have := HC8.out; have := HLen.out; unfold wrap64; omega)), ⟨by have := HC8.out; omega⟩, ⟨rfl⟩, HN, ⟨Kd.R_below HO.out HB.out⟩, ⟨blk_below BK5O.out HB.out⟩, ⟨blk_below BK6.out HB.out⟩, ⟨blk_below BK7.out HB.out⟩, ⟨blk_below BK10.out HB.out⟩, ⟨below_step HBO.out HB.out⟩⟩
    have l1b : (l1 == 5) = false := beq_eq_false_iff_ne.mpr e2
    by_cases e3 : q = 0
    ·have qb : (q == 0) = true := beq_iff_eq.mpr e3
     rw [if_pos (.inr (.inr (.inl e3)))] at H
     have HN := A0_ H
     clear H  e1 e2 e3
     go_wp2_with (first | (go_at_call 54; (with_reducible refine (word_Class.calls k a0 a2_0 c1 c2 _ Ac.out).mono ?_); rintro e wc ⟨rfl, hb⟩; have nb_ := A0_ (blk_below BK13.out hb); clear BK13; have BK13 := nb_; clear nb_; have n1_ := A0_ (below_step (qm_ HB.out) hb); clear HB; have HB := n1_; clear n1_;  clear hb) | (go_at_call 54; (with_reducible refine (word_Class.calls k a0 a2_1 l1 l2 _ Al.out).mono ?_); rintro e wd ⟨rfl, hb⟩; have nb_ := A0_ (blk_below BK13.out hb); clear BK13; have BK13 := nb_; clear nb_; have n1_ := A0_ (below_step (qm_ HB.out) hb); clear HB; have HB := n1_; clear n1_; have hcz13b_0 : wd.cell? ⟨gb13, 0, none⟩ = some (.bool true) := (blk_cell BK13.out 0).trans rfl; have hfz13b_0 := blk_frozen BK13.out 0; have hcz13b_1 : wd.cell? ⟨gb13, 1, none⟩ = some (.int .i64 f1) := (blk_cell BK13.out 1).trans rfl; have hfz13b_1 := blk_frozen BK13.out 1; have hcz13b_2 : wd.cell? ⟨gb13, 2, none⟩ = some (.bool f2) := (blk_cell BK13.out 2).trans rfl; have hfz13b_2 := blk_frozen BK13.out 2; clear hb) | (go_at_call 87; (with_reducible refine (cuts_against.calls k a0 a2_1 f1 q _ Aq.out).mono ?_); rintro e we ⟨rfl, hb⟩; have nb_ := A0_ (blk_below BK13.out hb); clear BK13; have BK13 := nb_; clear nb_; have n1_ := A0_ (below_step (qm_ HB.out) hb); clear HB; have HB := n1_; clear n1_ hcz13b_0 hfz13b_0 hcz13b_1 hfz13b_1 hcz13b_2 hfz13b_2; have hcz13c_0 : we.cell? ⟨gb13, 0, none⟩ = some (.bool true) := (blk_cell BK13.out 0).trans rfl; have hfz13c_0 := blk_frozen BK13.out 0; have hcz13c_1 : we.cell? ⟨gb13, 1, none⟩ = some (.int .i64 f1) := (blk_cell BK13.out 1).trans rfl; have hfz13c_1 := blk_frozen BK13.out 1; have hcz13c_2 : we.cell? ⟨gb13, 2, none⟩ = some (.bool f2) := (blk_cell BK13.out 2).trans rfl; have hfz13c_2 := blk_frozen BK13.out 2; clear hb))
     go_roundg ((crays a1).length - (i + 1))
     case measure => have := HK.out; have := HC8.out; omega
     case rel => exact ⟨i + 1, (congrArg (Value.int .i64) (by have := HC8.out; have := HLen.out; unfold wrap64; omega)), ⟨by have := HC8.out; omega⟩, ⟨rfl⟩, HN, ⟨Kd.R_below HO.out HB.out⟩, ⟨blk_below BK5O.out HB.out⟩, ⟨blk_below BK6.out HB.out⟩, ⟨blk_below BK7.out HB.out⟩, ⟨blk_below BK10.out HB.out⟩, ⟨below_step HBO.out HB.out⟩⟩
    have qb : (q == 0) = false := beq_eq_false_iff_ne.mpr e3
    by_cases e4 : q < 0
    ·have sb : decide (q < 0) = true := decide_eq_true e4
     cases f2
     ·rw [if_pos (.inr (.inr (.inr (by rw [sb]; decide))))] at H
      have HN := A0_ H
      clear H e4 e1 e2 e3
      go_wp2_with (first | (go_at_call 54; (with_reducible refine (word_Class.calls k a0 a2_0 c1 c2 _ Ac.out).mono ?_); rintro e wc ⟨rfl, hb⟩; have nb_ := A0_ (blk_below BK13.out hb); clear BK13; have BK13 := nb_; clear nb_; have n1_ := A0_ (below_step (qm_ HB.out) hb); clear HB; have HB := n1_; clear n1_;  clear hb) | (go_at_call 54; (with_reducible refine (word_Class.calls k a0 a2_1 l1 l2 _ Al.out).mono ?_); rintro e wd ⟨rfl, hb⟩; have nb_ := A0_ (blk_below BK13.out hb); clear BK13; have BK13 := nb_; clear nb_; have n1_ := A0_ (below_step (qm_ HB.out) hb); clear HB; have HB := n1_; clear n1_; have hcz13b_0 : wd.cell? ⟨gb13, 0, none⟩ = some (.bool true) := (blk_cell BK13.out 0).trans rfl; have hfz13b_0 := blk_frozen BK13.out 0; have hcz13b_1 : wd.cell? ⟨gb13, 1, none⟩ = some (.int .i64 f1) := (blk_cell BK13.out 1).trans rfl; have hfz13b_1 := blk_frozen BK13.out 1; have hcz13b_2 : wd.cell? ⟨gb13, 2, none⟩ = some (.bool false) := (blk_cell BK13.out 2).trans rfl; have hfz13b_2 := blk_frozen BK13.out 2; clear hb) | (go_at_call 87; (with_reducible refine (cuts_against.calls k a0 a2_1 f1 q _ Aq.out).mono ?_); rintro e we ⟨rfl, hb⟩; have nb_ := A0_ (blk_below BK13.out hb); clear BK13; have BK13 := nb_; clear nb_; have n1_ := A0_ (below_step (qm_ HB.out) hb); clear HB; have HB := n1_; clear n1_ hcz13b_0 hfz13b_0 hcz13b_1 hfz13b_1 hcz13b_2 hfz13b_2; have hcz13c_0 : we.cell? ⟨gb13, 0, none⟩ = some (.bool true) := (blk_cell BK13.out 0).trans rfl; have hfz13c_0 := blk_frozen BK13.out 0; have hcz13c_1 : we.cell? ⟨gb13, 1, none⟩ = some (.int .i64 f1) := (blk_cell BK13.out 1).trans rfl; have hfz13c_1 := blk_frozen BK13.out 1; have hcz13c_2 : we.cell? ⟨gb13, 2, none⟩ = some (.bool false) := (blk_cell BK13.out 2).trans rfl; have hfz13c_2 := blk_frozen BK13.out 2; clear hb))
      go_roundg ((crays a1).length - (i + 1))
      case measure => have := HK.out; have := HC8.out; omega
      case rel => exact ⟨i + 1, (congrArg (Value.int .i64) (by have := HC8.out; have := HLen.out; unfold wrap64; omega)), ⟨by have := HC8.out; omega⟩, ⟨rfl⟩, HN, ⟨Kd.R_below HO.out HB.out⟩, ⟨blk_below BK5O.out HB.out⟩, ⟨blk_below BK6.out HB.out⟩, ⟨blk_below BK7.out HB.out⟩, ⟨blk_below BK10.out HB.out⟩, ⟨below_step HBO.out HB.out⟩⟩
     ·rw [if_neg (by rintro (h | h | h | h); exact h e1; exact e2 h; exact e3 h; exact h sb)] at H
      obtain ⟨⟨x1, x2, x3, x4⟩, Ax_, H⟩ := Option.bind_eq_some_iff.mp H
      obtain ⟨s_, As_, H⟩ := Option.bind_eq_some_iff.mp H
      obtain ⟨o_, Ao_, H⟩ := Option.bind_eq_some_iff.mp H
      obtain ⟨m_, Am_, H⟩ := Option.bind_eq_some_iff.mp H
      have Ax := A0_ Ax_; have As := A0_ As_; have Ao := A0_ Ao_; have Am := A0_ Am_; clear Ax_ As_ Ao_ Am_ e4 e1 e2 e3
      go_upto_region 20 with (first | (go_at_call 54; (with_reducible refine (word_Class.calls k a0 a2_0 c1 c2 _ Ac.out).mono ?_); rintro e wc ⟨rfl, hb⟩; have nb_ := A0_ (blk_below BK13.out hb); clear BK13; have BK13 := nb_; clear nb_; have n1_ := A0_ (below_step (qm_ HB.out) hb); clear HB; have HB := n1_; clear n1_;  clear hb) | (go_at_call 54; (with_reducible refine (word_Class.calls k a0 a2_1 l1 l2 _ Al.out).mono ?_); rintro e wd ⟨rfl, hb⟩; have nb_ := A0_ (blk_below BK13.out hb); clear BK13; have BK13 := nb_; clear nb_; have n1_ := A0_ (below_step (qm_ HB.out) hb); clear HB; have HB := n1_; clear n1_; have hcz13b_0 : wd.cell? ⟨gb13, 0, none⟩ = some (.bool true) := (blk_cell BK13.out 0).trans rfl; have hfz13b_0 := blk_frozen BK13.out 0; have hcz13b_1 : wd.cell? ⟨gb13, 1, none⟩ = some (.int .i64 f1) := (blk_cell BK13.out 1).trans rfl; have hfz13b_1 := blk_frozen BK13.out 1; have hcz13b_2 : wd.cell? ⟨gb13, 2, none⟩ = some (.bool true) := (blk_cell BK13.out 2).trans rfl; have hfz13b_2 := blk_frozen BK13.out 2; clear hb) | (go_at_call 87; (with_reducible refine (cuts_against.calls k a0 a2_1 f1 q _ Aq.out).mono ?_); rintro e we ⟨rfl, hb⟩; have nb_ := A0_ (blk_below BK13.out hb); clear BK13; have BK13 := nb_; clear nb_; have n1_ := A0_ (below_step (qm_ HB.out) hb); clear HB; have HB := n1_; clear n1_ hcz13b_0 hfz13b_0 hcz13b_1 hfz13b_1 hcz13b_2 hfz13b_2; have hcz13c_0 : we.cell? ⟨gb13, 0, none⟩ = some (.bool true) := (blk_cell BK13.out 0).trans rfl; have hfz13c_0 := blk_frozen BK13.out 0; have hcz13c_1 : we.cell? ⟨gb13, 1, none⟩ = some (.int .i64 f1) := (blk_cell BK13.out 1).trans rfl; have hfz13c_1 := blk_frozen BK13.out 1; have hcz13c_2 : we.cell? ⟨gb13, 2, none⟩ = some (.bool true) := (blk_cell BK13.out 2).trans rfl; have hfz13c_2 := blk_frozen BK13.out 2; clear hb) | (go_at_call 88; (with_reducible refine (word_Split.calls k a0 a2_0 x1 x2 x3 x4 _ Ax.out).mono ?_); rintro e wf ⟨rfl, hb⟩;  have n1_ := A0_ (below_step (qm_ HB.out) hb); clear HB; have HB := n1_; clear n1_;  clear hb) | ((with_reducible refine gate_dst (N := 21) rfl ?_); refine box_event ?hg (N := 21) ?hd (cs := #[.bool false, .int .i64 0, .int .u64 0]) (t := 84) ?hr ?_; (case hd => rfl); (case hg => rfl); (case hr => first | (go_simp; done) | (go_simp; rfl)); intro gb21 hg wg hbox hb;  have n0_ := A0_ (below_step (qm_ HB.out) hb); have n1_ := A0_ hbox; have n2_ := A0_ ((by rw [hg]; exact (below_size (qm_ HB.out))) : wr.heap.size ≤ gb21); clear HB; have HB := n0_; have BK21 := n1_; have GE21 := n2_; clear n0_ n1_ n2_ hb hbox hg; have hcz21_0 : wg.cell? ⟨gb21, 0, none⟩ = some (.bool false) := (blk_cell BK21.out 0).trans rfl; have hfz21_0 := blk_frozen BK21.out 0; have hcz21_1 : wg.cell? ⟨gb21, 1, none⟩ = some (.int .i64 0) := (blk_cell BK21.out 1).trans rfl; have hfz21_1 := blk_frozen BK21.out 1; have hcz21_2 : wg.cell? ⟨gb21, 2, none⟩ = some (.int .u64 0) := (blk_cell BK21.out 2).trans rfl; have hfz21_2 := blk_frozen BK21.out 2;))
      have f21_ := (blk_set (blk_set (blk_set BK21.out 0 (.bool x1)) 1 (.int .i64 x2)) 2 (.int .u64 x3))
      have fb_ := (below_set (below_set (below_set HB.out GE21.out (j := 0) (v := .bool x1)) GE21.out (j := 1) (v := .int .i64 x2)) GE21.out (j := 2) (v := .int .u64 x3))
      clear hcz21_0 hfz21_0 hcz21_1 hfz21_1 hcz21_2 hfz21_2 BK21 HB
      generalize ((wg.setCell ⟨gb21, 0, none⟩ (.bool x1)).setCell ⟨gb21, 1, none⟩ (.int .i64 x2)).setCell ⟨gb21, 2, none⟩ (.int .u64 x3) = wh at f21_ fb_ ⊢
      have BK21 := A0_ f21_
      have HB := A0_ fb_
      clear f21_ fb_
      go_upto_region 21 with (first | (go_at_call 87; (with_reducible refine (cuts_against.calls k a0 a2_1 0 s_ _ As.out).mono ?_); rintro e wi1 ⟨rfl, hb⟩; have nb_ := A0_ (blk_below BK21.out hb); clear BK21; have BK21 := nb_; clear nb_; have n1_ := A0_ (below_step (qm_ HB.out) hb); clear HB; have HB := n1_; clear n1_;  clear hb) | (go_at_call 87; (with_reducible refine (cuts_against.calls k a0 a2_1 1 o_ _ Ao.out).mono ?_); rintro e wi2 ⟨rfl, hb⟩; have nb_ := A0_ (blk_below BK21.out hb); clear BK21; have BK21 := nb_; clear nb_; have n1_ := A0_ (below_step (qm_ HB.out) hb); clear HB; have HB := n1_; clear n1_;  clear hb) | (go_at_call 87; (with_reducible refine (cuts_against.calls k a0 a2_1 (-1) m_ _ Am.out).mono ?_); rintro e wi3 ⟨rfl, hb⟩; have nb_ := A0_ (blk_below BK21.out hb); clear BK21; have BK21 := nb_; clear nb_; have n1_ := A0_ (below_step (qm_ HB.out) hb); clear HB; have HB := n1_; clear n1_;  clear hb) | ((with_reducible refine gate_dst (N := 23) rfl ?_); refine box_event ?hg (N := 23) ?hd (cs := #[.int .i64 0, .int .i64 0, .int .i64 0, .int .i64 0]) (t := 96) ?hr ?_; (case hd => rfl); (case hg => rfl); (case hr => first | (go_simp; done) | (go_simp; rfl)); intro gb23 hg wk hbox hb; have LT21 := blk_lt BK21.out; have nb_ := A0_ (blk_below BK21.out hb); clear BK21; have BK21 := nb_; clear nb_; have n0_ := A0_ (below_step (qm_ HB.out) hb); have n1_ := A0_ hbox; have n2_ := A0_ ((by rw [hg]; exact (below_size (qm_ HB.out))) : wr.heap.size ≤ gb23); clear HB; have HB := n0_; have BK23 := n1_; have GE23 := n2_; clear n0_ n1_ n2_; have NE2123 := A0_ ((by rw [hg]; exact Nat.ne_of_lt LT21) : gb21 ≠ gb23); clear LT21 hb hbox hg; have hcz23_0 : wk.cell? ⟨gb23, 0, none⟩ = some (.int .i64 0) := (blk_cell BK23.out 0).trans rfl; have hfz23_0 := blk_frozen BK23.out 0; have hcz23_1 : wk.cell? ⟨gb23, 1, none⟩ = some (.int .i64 0) := (blk_cell BK23.out 1).trans rfl; have hfz23_1 := blk_frozen BK23.out 1; have hcz23_2 : wk.cell? ⟨gb23, 2, none⟩ = some (.int .i64 0) := (blk_cell BK23.out 2).trans rfl; have hfz23_2 := blk_frozen BK23.out 2; have hcz23_3 : wk.cell? ⟨gb23, 3, none⟩ = some (.int .i64 0) := (blk_cell BK23.out 3).trans rfl; have hfz23_3 := blk_frozen BK23.out 3;))
      have f21_ := (blk_far (blk_far (blk_far (blk_far BK21.out (p := ⟨gb23, 0, none⟩) NE2123.out (.int .i64 s_)) (p := ⟨gb23, 1, none⟩) NE2123.out (.int .i64 o_)) (p := ⟨gb23, 2, none⟩) NE2123.out (.int .i64 m_)) (p := ⟨gb23, 3, none⟩) NE2123.out (.int .i64 1))
      have f23_ := (blk_set (blk_set (blk_set (blk_set BK23.out 0 (.int .i64 s_)) 1 (.int .i64 o_)) 2 (.int .i64 m_)) 3 (.int .i64 1))
      have fb_ := (below_set (below_set (below_set (below_set HB.out GE23.out (j := 0) (v := .int .i64 s_)) GE23.out (j := 1) (v := .int .i64 o_)) GE23.out (j := 2) (v := .int .i64 m_)) GE23.out (j := 3) (v := .int .i64 1))
      clear hcz23_0 hfz23_0 hcz23_1 hfz23_1 hcz23_2 hfz23_2 hcz23_3 hfz23_3 BK21 BK23 HB
      generalize (((wk.setCell ⟨gb23, 0, none⟩ (.int .i64 s_)).setCell ⟨gb23, 1, none⟩ (.int .i64 o_)).setCell ⟨gb23, 2, none⟩ (.int .i64 m_)).setCell ⟨gb23, 3, none⟩ (.int .i64 1) = wl1 at f21_ f23_ fb_ ⊢
      cases x1
      ·simp only [Bool.false_eq_true, if_false, if_true, Option.some.injEq, Prod.mk.injEq] at H
       obtain ⟨rfl, rfl, rfl, rfl, rfl⟩ := H
       have hcz21_0 : wl1.cell? ⟨gb21, 0, none⟩ = some (.bool false) := (blk_cell f21_ 0).trans rfl
       have hcz23_3 : wl1.cell? ⟨gb23, 3, none⟩ = some (.int .i64 1) := (blk_cell f23_ 3).trans rfl
       have hfz23_3 := blk_frozen f23_ 3
       go_upto_region 23 with (fail)
       clear hcz21_0 hcz23_3 hfz23_3 f21_
       have f6_ := blk_below BK6.out fb_
       have f7_ := blk_below BK7.out fb_
       have f10_ := blk_below BK10.out fb_
       have fb2_ := below_step HBO.out fb_
       have hn723 : gb7 ≠ gb23 := fun h => by have h1 := blk_lt BK7.out; have h2 := GE23.out; omega
       replace f6_ := blk_drew f6_
       replace f7_ := blk_drew f7_
       replace f10_ := blk_drew f10_
       replace f23_ := blk_drew f23_
       replace fb2_ := below_drew1 fb2_
       clear fb_
       refine start_ (n := 5) (S := fun w' => w'.cell? ⟨gb10, 0, none⟩ = some (.slice (some ad) (crays a1).length c_) ∧ w'.cell? ⟨gb10, 1, none⟩ = some (.int .u8 (cpar a1)) ∧ w'.cell? ⟨gb10, 2, none⟩ = some (.func (Fn.func (cno a1)) #[] #[]) ∧ w'.cell? ⟨gb23, 0, none⟩ = some (.int .i64 s_) ∧ w'.cell? ⟨gb23, 1, none⟩ = some (.int .i64 o_) ∧ w'.cell? ⟨gb23, 2, none⟩ = some (.int .i64 m_) ∧ w'.cell? ⟨gb23, 3, none⟩ = some (.int .i64 (1))) (ds := []) #[false, false, false, false, false] (by kernel_rfl) rfl rfl ⟨(blk_cell f10_ 0).trans rfl, (blk_cell f10_ 1).trans rfl, (blk_cell f10_ 2).trans rfl, (blk_cell f23_ 0).trans rfl, (blk_cell f23_ 1).trans rfl, (blk_cell f23_ 2).trans rfl, (blk_cell f23_ 3).trans rfl⟩ (fun hHeld => ?_)
       generalize wl1.drew = wv at f6_ f7_ f10_ f23_ fb2_ hHeld ⊢
       have hn623 : gb6 ≠ gb23 := blk_ne f6_ f23_ (by decide)
       refine take_ (i := 0) (N := some 106) (v := ?_) (a' := ?_) #[true, false, false, false, false] rfl rfl (by kernel_rfl) (fun _ _ _ h => h) (Or.inl ⟨by rfl, ?_⟩) hHeld ?_ ?_
       rotate_left
       ·rintro w' ⟨s0, s1, s2, s3, s4, s5, s6⟩
        go_simp
        with_reducible rfl
       rotate_left
       ·simp only [Act.put, sp_, i64_w, i32_w]
        rfl
       refine take_ (i := 1) (N := some 107) (v := ?_) (a' := ?_) #[true, true, false, false, false] rfl rfl (by kernel_rfl) (fun _ _ _ h => h) (Or.inl ⟨by rfl, ?_⟩) hHeld ?_ ?_
       rotate_left
       ·rintro w' ⟨s0, s1, s2, s3, s4, s5, s6⟩
        go_simp
        with_reducible rfl
       rotate_left
       ·simp only [Act.put, sp_, i64_w, i32_w]
        rfl
       have hn106 := Ne.symm NE610.out
       have hn107 := Ne.symm NE710.out
       have hn236 := Ne.symm hn623
       have hn237 := Ne.symm hn723
       refine one_ (i := 2) (N := none) #[true, true, true, false, false] rfl rfl (by kernel_rfl) (by decide) (fun K hK => ?_)
       have hcs0 : wv.cell? ⟨gb6, 0, none⟩ = some (.slice none 0 0) := (blk_cell f6_ 0).trans rfl
       have hfs0 := blk_frozen f6_ 0
       have hcs1 : wv.cell? ⟨gb6, 1, none⟩ = some (.int .u8 0) := (blk_cell f6_ 1).trans rfl
       have hfs1 := blk_frozen f6_ 1
       have hcs2 : wv.cell? ⟨gb6, 2, none⟩ = some (.nilFunc) := (blk_cell f6_ 2).trans rfl
       have hfs2 := blk_frozen f6_ 2
       refine skip_ (w1 := ?_) (by rfl) rfl ?_ ?_
       rotate_left
       ·go_simp
        rfl
       refine hK.out _ _ ⟨((cell_far (p := ⟨gb6, _, none⟩) hn106 _).trans ((cell_far (p := ⟨gb6, _, none⟩) hn106 _).trans ((cell_far (p := ⟨gb6, _, none⟩) hn106 _).trans hHeld.1))), ((cell_far (p := ⟨gb6, _, none⟩) hn106 _).trans ((cell_far (p := ⟨gb6, _, none⟩) hn106 _).trans ((cell_far (p := ⟨gb6, _, none⟩) hn106 _).trans hHeld.2.1))), ((cell_far (p := ⟨gb6, _, none⟩) hn106 _).trans ((cell_far (p := ⟨gb6, _, none⟩) hn106 _).trans ((cell_far (p := ⟨gb6, _, none⟩) hn106 _).trans hHeld.2.2.1))), ((cell_far (p := ⟨gb6, _, none⟩) hn236 _).trans ((cell_far (p := ⟨gb6, _, none⟩) hn236 _).trans ((cell_far (p := ⟨gb6, _, none⟩) hn236 _).trans hHeld.2.2.2.1))), ((cell_far (p := ⟨gb6, _, none⟩) hn236 _).trans ((cell_far (p := ⟨gb6, _, none⟩) hn236 _).trans ((cell_far (p := ⟨gb6, _, none⟩) hn236 _).trans hHeld.2.2.2.2.1))), ((cell_far (p := ⟨gb6, _, none⟩) hn236 _).trans ((cell_far (p := ⟨gb6, _, none⟩) hn236 _).trans ((cell_far (p := ⟨gb6, _, none⟩) hn236 _).trans hHeld.2.2.2.2.2.1))), ((cell_far (p := ⟨gb6, _, none⟩) hn236 _).trans ((cell_far (p := ⟨gb6, _, none⟩) hn236 _).trans ((cell_far (p := ⟨gb6, _, none⟩) hn236 _).trans hHeld.2.2.2.2.2.2)))⟩ (fun hHeld => ?_)
       clear hK K hcs0 hfs0 hcs1 hfs1 hcs2 hfs2
       have f7b_ := (blk_far (blk_far (blk_far f7_ (p := ⟨gb6, 0, none⟩) (Ne.symm NE67.out) (.slice (some ad) (crays a1).length c_)) (p := ⟨gb6, 1, none⟩) (Ne.symm NE67.out) (.int .u8 (cpar a1))) (p := ⟨gb6, 2, none⟩) (Ne.symm NE67.out) (.func (Fn.func (cno a1)) #[] #[]))
       have f7k_ := f7_
       clear f7_
       have f7_ := f7b_
       clear f7b_
       refine one_ (i := 3) (N := none) #[true, true, true, true, false] rfl rfl (by kernel_rfl) (by decide) (fun K hK => ?_)
       have hcs0 : (((wv.setCell ⟨gb6, 0, none⟩ (.slice (some ad) (crays a1).length c_)).setCell ⟨gb6, 1, none⟩ (.int .u8 (cpar a1))).setCell ⟨gb6, 2, none⟩ (.func (Fn.func (cno a1)) #[] #[])).cell? ⟨gb7, 0, none⟩ = some (.int .i64 0) := (blk_cell f7_ 0).trans rfl
       have hfs0 := blk_frozen f7_ 0
       have hcs1 : (((wv.setCell ⟨gb6, 0, none⟩ (.slice (some ad) (crays a1).length c_)).setCell ⟨gb6, 1, none⟩ (.int .u8 (cpar a1))).setCell ⟨gb6, 2, none⟩ (.func (Fn.func (cno a1)) #[] #[])).cell? ⟨gb7, 1, none⟩ = some (.int .i64 0) := (blk_cell f7_ 1).trans rfl
       have hfs1 := blk_frozen f7_ 1
       have hcs2 : (((wv.setCell ⟨gb6, 0, none⟩ (.slice (some ad) (crays a1).length c_)).setCell ⟨gb6, 1, none⟩ (.int .u8 (cpar a1))).setCell ⟨gb6, 2, none⟩ (.func (Fn.func (cno a1)) #[] #[])).cell? ⟨gb7, 2, none⟩ = some (.int .i64 0) := (blk_cell f7_ 2).trans rfl
       have hfs2 := blk_frozen f7_ 2
       have hcs3 : (((wv.setCell ⟨gb6, 0, none⟩ (.slice (some ad) (crays a1).length c_)).setCell ⟨gb6, 1, none⟩ (.int .u8 (cpar a1))).setCell ⟨gb6, 2, none⟩ (.func (Fn.func (cno a1)) #[] #[])).cell? ⟨gb7, 3, none⟩ = some (.int .i64 0) := (blk_cell f7_ 3).trans rfl
       have hfs3 := blk_frozen f7_ 3
       refine skip_ (w1 := ?_) (by rfl) rfl ?_ ?_
       rotate_left
       ·go_simp
        rfl
       refine hK.out _ _ ⟨((cell_far (p := ⟨gb7, _, none⟩) hn107 _).trans ((cell_far (p := ⟨gb7, _, none⟩) hn107 _).trans ((cell_far (p := ⟨gb7, _, none⟩) hn107 _).trans ((cell_far (p := ⟨gb7, _, none⟩) hn107 _).trans hHeld.1)))), ((cell_far (p := ⟨gb7, _, none⟩) hn107 _).trans ((cell_far (p := ⟨gb7, _, none⟩) hn107 _).trans ((cell_far (p := ⟨gb7, _, none⟩) hn107 _).trans ((cell_far (p := ⟨gb7, _, none⟩) hn107 _).trans hHeld.2.1)))), ((cell_far (p := ⟨gb7, _, none⟩) hn107 _).trans ((cell_far (p := ⟨gb7, _, none⟩) hn107 _).trans ((cell_far (p := ⟨gb7, _, none⟩) hn107 _).trans ((cell_far (p := ⟨gb7, _, none⟩) hn107 _).trans hHeld.2.2.1)))), ((cell_far (p := ⟨gb7, _, none⟩) hn237 _).trans ((cell_far (p := ⟨gb7, _, none⟩) hn237 _).trans ((cell_far (p := ⟨gb7, _, none⟩) hn237 _).trans ((cell_far (p := ⟨gb7, _, none⟩) hn237 _).trans hHeld.2.2.2.1)))), ((cell_far (p := ⟨gb7, _, none⟩) hn237 _).trans ((cell_far (p := ⟨gb7, _, none⟩) hn237 _).trans ((cell_far (p := ⟨gb7, _, none⟩) hn237 _).trans ((cell_far (p := ⟨gb7, _, none⟩) hn237 _).trans hHeld.2.2.2.2.1)))), ((cell_far (p := ⟨gb7, _, none⟩) hn237 _).trans ((cell_far (p := ⟨gb7, _, none⟩) hn237 _).trans ((cell_far (p := ⟨gb7, _, none⟩) hn237 _).trans ((cell_far (p := ⟨gb7, _, none⟩) hn237 _).trans hHeld.2.2.2.2.2.1)))), ((cell_far (p := ⟨gb7, _, none⟩) hn237 _).trans ((cell_far (p := ⟨gb7, _, none⟩) hn237 _).trans ((cell_far (p := ⟨gb7, _, none⟩) hn237 _).trans ((cell_far (p := ⟨gb7, _, none⟩) hn237 _).trans hHeld.2.2.2.2.2.2))))⟩ (fun hHeld => ?_)
       clear hK K hcs0 hfs0 hcs1 hfs1 hcs2 hfs2 hcs3 hfs3
       refine pure_ (i := 4) (N := some 8) (v := ?_) (a' := ?_) #[true, true, true, true, true] rfl rfl (by kernel_rfl) (fun _ _ _ h => h) (Or.inl ⟨by rfl, ?_⟩) ?_ ?_
       rotate_left
       ·intro w'
        go_simp
        with_reducible rfl
       rotate_left
       ·simp only [Act.put, sp_, i64_w, i32_w]
        rfl
       refine done_ (by kernel_rfl) ?_
       try go_wp2
       have BK6 := A0_ f6_
       have BK7 := A0_ f7k_
       have HB := A0_ fb2_
       have fin_ := fun W hW => set67 BK6.out BK7.out NE67.out HB.out GE6.out GE7.out (.slice (some ad) (crays a1).length c_) (.int .u8 (cpar a1)) (.func (Fn.func (cno a1)) #[] #[]) (.int .i64 s_) (.int .i64 o_) (.int .i64 m_) (.int .i64 (1)) W hW
       generalize hW_ : (((((((wv.setCell ⟨gb6, 0, none⟩ (.slice (some ad) (crays a1).length c_)).setCell ⟨gb6, 1, none⟩ (.int .u8 (cpar a1))).setCell ⟨gb6, 2, none⟩ (.func (Fn.func (cno a1)) #[] #[])).setCell ⟨gb7, 0, none⟩ (.int .i64 s_)).setCell ⟨gb7, 1, none⟩ (.int .i64 o_)).setCell ⟨gb7, 2, none⟩ (.int .i64 m_)).setCell ⟨gb7, 3, none⟩ (.int .i64 (1))) = W
       obtain ⟨f6_, f7_, fb_⟩ := fin_ W hW_
       clear hW_ fin_
       have hd0 : W.cell? ⟨gb6, 0, none⟩ = some (.slice (some ad) (crays a1).length c_) := (blk_cell f6_ 0).trans rfl
       have hd1 : W.cell? ⟨gb6, 1, none⟩ = some (.int .u8 (cpar a1)) := (blk_cell f6_ 1).trans rfl
       have hd2 : W.cell? ⟨gb6, 2, none⟩ = some (.func (Fn.func (cno a1)) #[] #[]) := (blk_cell f6_ 2).trans rfl
       have he0 : W.cell? ⟨gb7, 0, none⟩ = some (.int .i64 s_) := (blk_cell f7_ 0).trans rfl
       have he1 : W.cell? ⟨gb7, 1, none⟩ = some (.int .i64 o_) := (blk_cell f7_ 1).trans rfl
       have he2 : W.cell? ⟨gb7, 2, none⟩ = some (.int .i64 m_) := (blk_cell f7_ 2).trans rfl
       have he3 : W.cell? ⟨gb7, 3, none⟩ = some (.int .i64 (1)) := (blk_cell f7_ 3).trans rfl
       refine bodyPost_ret (v := .tuple #[.agg #[.slice (some ad) (crays a1).length c_, .int .u8 (cpar a1), .func (Fn.func (cno a1)) #[] #[]], .agg #[.int .i64 s_, .int .i64 o_, .int .i64 m_, .int .i64 (1)], .int .i64 (0)]) ?_ rfl ⟨(some ad), (crays a1).length, c_, (cpar a1), .func (Fn.func (cno a1)) #[] #[], rfl, fun _ => (by unfold csig; rw [hcis]; rfl), .inr ⟨_, rfl⟩, fb_⟩
       simp [results, Try.results63, go_sem, hd0, hd1, hd2, he0, he1, he2, he3]
      ·simp only [Bool.false_eq_true, if_false, if_true, Option.some.injEq, Prod.mk.injEq] at H
       obtain ⟨rfl, rfl, rfl, rfl, rfl⟩ := H
       have hcz21_0 : wl1.cell? ⟨gb21, 0, none⟩ = some (.bool true) := (blk_cell f21_ 0).trans rfl
       have hcz23_3 : wl1.cell? ⟨gb23, 3, none⟩ = some (.int .i64 1) := (blk_cell f23_ 3).trans rfl
       have hfz23_3 := blk_frozen f23_ 3
       go_upto_region 23 with (fail)
       replace f23_ := (blk_set f23_ 3 (.int .i64 (-1)))
       replace fb_ := below_set fb_ GE23.out (j := 3) (v := .int .i64 (-1))
       clear hcz21_0 hcz23_3 hfz23_3 f21_
       generalize wl1.setCell ⟨gb23, 3, none⟩ (.int .i64 (-1)) = wn1 at f23_ fb_ ⊢
       have f6_ := blk_below BK6.out fb_
       have f7_ := blk_below BK7.out fb_
       have f10_ := blk_below BK10.out fb_
       have fb2_ := below_step HBO.out fb_
       have hn723 : gb7 ≠ gb23 := fun h => by have h1 := blk_lt BK7.out; have h2 := GE23.out; omega
       replace f6_ := blk_drew f6_
       replace f7_ := blk_drew f7_
       replace f10_ := blk_drew f10_
       replace f23_ := blk_drew f23_
       replace fb2_ := below_drew1 fb2_
       clear fb_
       refine start_ (n := 5) (S := fun w' => w'.cell? ⟨gb10, 0, none⟩ = some (.slice (some ad) (crays a1).length c_) ∧ w'.cell? ⟨gb10, 1, none⟩ = some (.int .u8 (cpar a1)) ∧ w'.cell? ⟨gb10, 2, none⟩ = some (.func (Fn.func (cno a1)) #[] #[]) ∧ w'.cell? ⟨gb23, 0, none⟩ = some (.int .i64 s_) ∧ w'.cell? ⟨gb23, 1, none⟩ = some (.int .i64 o_) ∧ w'.cell? ⟨gb23, 2, none⟩ = some (.int .i64 m_) ∧ w'.cell? ⟨gb23, 3, none⟩ = some (.int .i64 (-1))) (ds := []) #[false, false, false, false, false] (by kernel_rfl) rfl rfl ⟨(blk_cell f10_ 0).trans rfl, (blk_cell f10_ 1).trans rfl, (blk_cell f10_ 2).trans rfl, (blk_cell f23_ 0).trans rfl, (blk_cell f23_ 1).trans rfl, (blk_cell f23_ 2).trans rfl, (blk_cell f23_ 3).trans rfl⟩ (fun hHeld => ?_)
       generalize wn1.drew = wv at f6_ f7_ f10_ f23_ fb2_ hHeld ⊢
       have hn623 : gb6 ≠ gb23 := blk_ne f6_ f23_ (by decide)
       refine take_ (i := 0) (N := some 106) (v := ?_) (a' := ?_) #[true, false, false, false, false] rfl rfl (by kernel_rfl) (fun _ _ _ h => h) (Or.inl ⟨by rfl, ?_⟩) hHeld ?_ ?_
       rotate_left
       ·rintro w' ⟨s0, s1, s2, s3, s4, s5, s6⟩
        go_simp
        with_reducible rfl
       rotate_left
       ·simp only [Act.put, sp_, i64_w, i32_w]
        rfl
       refine take_ (i := 1) (N := some 107) (v := ?_) (a' := ?_) #[true, true, false, false, false] rfl rfl (by kernel_rfl) (fun _ _ _ h => h) (Or.inl ⟨by rfl, ?_⟩) hHeld ?_ ?_
       rotate_left
       ·rintro w' ⟨s0, s1, s2, s3, s4, s5, s6⟩
        go_simp
        with_reducible rfl
       rotate_left
       ·simp only [Act.put, sp_, i64_w, i32_w]
        rfl
       have hn106 := Ne.symm NE610.out
       have hn107 := Ne.symm NE710.out
       have hn236 := Ne.symm hn623
       have hn237 := Ne.symm hn723
       refine one_ (i := 2) (N := none) #[true, true, true, false, false] rfl rfl (by kernel_rfl) (by decide) (fun K hK => ?_)
       have hcs0 : wv.cell? ⟨gb6, 0, none⟩ = some (.slice none 0 0) := (blk_cell f6_ 0).trans rfl
       have hfs0 := blk_frozen f6_ 0
       have hcs1 : wv.cell? ⟨gb6, 1, none⟩ = some (.int .u8 0) := (blk_cell f6_ 1).trans rfl
       have hfs1 := blk_frozen f6_ 1
       have hcs2 : wv.cell? ⟨gb6, 2, none⟩ = some (.nilFunc) := (blk_cell f6_ 2).trans rfl
       have hfs2 := blk_frozen f6_ 2
       refine skip_ (w1 := ?_) (by rfl) rfl ?_ ?_
       rotate_left
       ·go_simp
        rfl
       refine hK.out _ _ ⟨((cell_far (p := ⟨gb6, _, none⟩) hn106 _).trans ((cell_far (p := ⟨gb6, _, none⟩) hn106 _).trans ((cell_far (p := ⟨gb6, _, none⟩) hn106 _).trans hHeld.1))), ((cell_far (p := ⟨gb6, _, none⟩) hn106 _).trans ((cell_far (p := ⟨gb6, _, none⟩) hn106 _).trans ((cell_far (p := ⟨gb6, _, none⟩) hn106 _).trans hHeld.2.1))), ((cell_far (p := ⟨gb6, _, none⟩) hn106 _).trans ((cell_far (p := ⟨gb6, _, none⟩) hn106 _).trans ((cell_far (p := ⟨gb6, _, none⟩) hn106 _).trans hHeld.2.2.1))), ((cell_far (p := ⟨gb6, _, none⟩) hn236 _).trans ((cell_far (p := ⟨gb6, _, none⟩) hn236 _).trans ((cell_far (p := ⟨gb6, _, none⟩) hn236 _).trans hHeld.2.2.2.1))), ((cell_far (p := ⟨gb6, _, none⟩) hn236 _).trans ((cell_far (p := ⟨gb6, _, none⟩) hn236 _).trans ((cell_far (p := ⟨gb6, _, none⟩) hn236 _).trans hHeld.2.2.2.2.1))), ((cell_far (p := ⟨gb6, _, none⟩) hn236 _).trans ((cell_far (p := ⟨gb6, _, none⟩) hn236 _).trans ((cell_far (p := ⟨gb6, _, none⟩) hn236 _).trans hHeld.2.2.2.2.2.1))), ((cell_far (p := ⟨gb6, _, none⟩) hn236 _).trans ((cell_far (p := ⟨gb6, _, none⟩) hn236 _).trans ((cell_far (p := ⟨gb6, _, none⟩) hn236 _).trans hHeld.2.2.2.2.2.2)))⟩ (fun hHeld => ?_)
       clear hK K hcs0 hfs0 hcs1 hfs1 hcs2 hfs2
       have f7b_ := (blk_far (blk_far (blk_far f7_ (p := ⟨gb6, 0, none⟩) (Ne.symm NE67.out) (.slice (some ad) (crays a1).length c_)) (p := ⟨gb6, 1, none⟩) (Ne.symm NE67.out) (.int .u8 (cpar a1))) (p := ⟨gb6, 2, none⟩) (Ne.symm NE67.out) (.func (Fn.func (cno a1)) #[] #[]))
       have f7k_ := f7_
       clear f7_
       have f7_ := f7b_
       clear f7b_
       refine one_ (i := 3) (N := none) #[true, true, true, true, false] rfl rfl (by kernel_rfl) (by decide) (fun K hK => ?_)
       have hcs0 : (((wv.setCell ⟨gb6, 0, none⟩ (.slice (some ad) (crays a1).length c_)).setCell ⟨gb6, 1, none⟩ (.int .u8 (cpar a1))).setCell ⟨gb6, 2, none⟩ (.func (Fn.func (cno a1)) #[] #[])).cell? ⟨gb7, 0, none⟩ = some (.int .i64 0) := (blk_cell f7_ 0).trans rfl
       have hfs0 := blk_frozen f7_ 0
       have hcs1 : (((wv.setCell ⟨gb6, 0, none⟩ (.slice (some ad) (crays a1).length c_)).setCell ⟨gb6, 1, none⟩ (.int .u8 (cpar a1))).setCell ⟨gb6, 2, none⟩ (.func (Fn.func (cno a1)) #[] #[])).cell? ⟨gb7, 1, none⟩ = some (.int .i64 0) := (blk_cell f7_ 1).trans rfl
       have hfs1 := blk_frozen f7_ 1
       have hcs2 : (((wv.setCell ⟨gb6, 0, none⟩ (.slice (some ad) (crays a1).length c_)).setCell ⟨gb6, 1, none⟩ (.int .u8 (cpar a1))).setCell ⟨gb6, 2, none⟩ (.func (Fn.func (cno a1)) #[] #[])).cell? ⟨gb7, 2, none⟩ = some (.int .i64 0) := (blk_cell f7_ 2).trans rfl
       have hfs2 := blk_frozen f7_ 2
       have hcs3 : (((wv.setCell ⟨gb6, 0, none⟩ (.slice (some ad) (crays a1).length c_)).setCell ⟨gb6, 1, none⟩ (.int .u8 (cpar a1))).setCell ⟨gb6, 2, none⟩ (.func (Fn.func (cno a1)) #[] #[])).cell? ⟨gb7, 3, none⟩ = some (.int .i64 0) := (blk_cell f7_ 3).trans rfl
       have hfs3 := blk_frozen f7_ 3
       refine skip_ (w1 := ?_) (by rfl) rfl ?_ ?_
       rotate_left
       ·go_simp
        rfl
       refine hK.out _ _ ⟨((cell_far (p := ⟨gb7, _, none⟩) hn107 _).trans ((cell_far (p := ⟨gb7, _, none⟩) hn107 _).trans ((cell_far (p := ⟨gb7, _, none⟩) hn107 _).trans ((cell_far (p := ⟨gb7, _, none⟩) hn107 _).trans hHeld.1)))), ((cell_far (p := ⟨gb7, _, none⟩) hn107 _).trans ((cell_far (p := ⟨gb7, _, none⟩) hn107 _).trans ((cell_far (p := ⟨gb7, _, none⟩) hn107 _).trans ((cell_far (p := ⟨gb7, _, none⟩) hn107 _).trans hHeld.2.1)))), ((cell_far (p := ⟨gb7, _, none⟩) hn107 _).trans ((cell_far (p := ⟨gb7, _, none⟩) hn107 _).trans ((cell_far (p := ⟨gb7, _, none⟩) hn107 _).trans ((cell_far (p := ⟨gb7, _, none⟩) hn107 _).trans hHeld.2.2.1)))), ((cell_far (p := ⟨gb7, _, none⟩) hn237 _).trans ((cell_far (p := ⟨gb7, _, none⟩) hn237 _).trans ((cell_far (p := ⟨gb7, _, none⟩) hn237 _).trans ((cell_far (p := ⟨gb7, _, none⟩) hn237 _).trans hHeld.2.2.2.1)))), ((cell_far (p := ⟨gb7, _, none⟩) hn237 _).trans ((cell_far (p := ⟨gb7, _, none⟩) hn237 _).trans ((cell_far (p := ⟨gb7, _, none⟩) hn237 _).trans ((cell_far (p := ⟨gb7, _, none⟩) hn237 _).trans hHeld.2.2.2.2.1)))), ((cell_far (p := ⟨gb7, _, none⟩) hn237 _).trans ((cell_far (p := ⟨gb7, _, none⟩) hn237 _).trans ((cell_far (p := ⟨gb7, _, none⟩) hn237 _).trans ((cell_far (p := ⟨gb7, _, none⟩) hn237 _).trans hHeld.2.2.2.2.2.1)))), ((cell_far (p := ⟨gb7, _, none⟩) hn237 _).trans ((cell_far (p := ⟨gb7, _, none⟩) hn237 _).trans ((cell_far (p := ⟨gb7, _, none⟩) hn237 _).trans ((cell_far (p := ⟨gb7, _, none⟩) hn237 _).trans hHeld.2.2.2.2.2.2))))⟩ (fun hHeld => ?_)
       clear hK K hcs0 hfs0 hcs1 hfs1 hcs2 hfs2 hcs3 hfs3
       refine pure_ (i := 4) (N := some 8) (v := ?_) (a' := ?_) #[true, true, true, true, true] rfl rfl (by kernel_rfl) (fun _ _ _ h => h) (Or.inl ⟨by rfl, ?_⟩) ?_ ?_
       rotate_left
       ·intro w'
        go_simp
        with_reducible rfl
       rotate_left
       ·simp only [Act.put, sp_, i64_w, i32_w]
        rfl
       refine done_ (by kernel_rfl) ?_
       try go_wp2
       have BK6 := A0_ f6_
       have BK7 := A0_ f7k_
       have HB := A0_ fb2_
       have fin_ := fun W hW => set67 BK6.out BK7.out NE67.out HB.out GE6.out GE7.out (.slice (some ad) (crays a1).length c_) (.int .u8 (cpar a1)) (.func (Fn.func (cno a1)) #[] #[]) (.int .i64 s_) (.int .i64 o_) (.int .i64 m_) (.int .i64 (-1)) W hW
       generalize hW_ : (((((((wv.setCell ⟨gb6, 0, none⟩ (.slice (some ad) (crays a1).length c_)).setCell ⟨gb6, 1, none⟩ (.int .u8 (cpar a1))).setCell ⟨gb6, 2, none⟩ (.func (Fn.func (cno a1)) #[] #[])).setCell ⟨gb7, 0, none⟩ (.int .i64 s_)).setCell ⟨gb7, 1, none⟩ (.int .i64 o_)).setCell ⟨gb7, 2, none⟩ (.int .i64 m_)).setCell ⟨gb7, 3, none⟩ (.int .i64 (-1))) = W
       obtain ⟨f6_, f7_, fb_⟩ := fin_ W hW_
       clear hW_ fin_
       have hd0 : W.cell? ⟨gb6, 0, none⟩ = some (.slice (some ad) (crays a1).length c_) := (blk_cell f6_ 0).trans rfl
       have hd1 : W.cell? ⟨gb6, 1, none⟩ = some (.int .u8 (cpar a1)) := (blk_cell f6_ 1).trans rfl
       have hd2 : W.cell? ⟨gb6, 2, none⟩ = some (.func (Fn.func (cno a1)) #[] #[]) := (blk_cell f6_ 2).trans rfl
       have he0 : W.cell? ⟨gb7, 0, none⟩ = some (.int .i64 s_) := (blk_cell f7_ 0).trans rfl
       have he1 : W.cell? ⟨gb7, 1, none⟩ = some (.int .i64 o_) := (blk_cell f7_ 1).trans rfl
       have he2 : W.cell? ⟨gb7, 2, none⟩ = some (.int .i64 m_) := (blk_cell f7_ 2).trans rfl
       have he3 : W.cell? ⟨gb7, 3, none⟩ = some (.int .i64 (-1)) := (blk_cell f7_ 3).trans rfl
       refine bodyPost_ret (v := .tuple #[.agg #[.slice (some ad) (crays a1).length c_, .int .u8 (cpar a1), .func (Fn.func (cno a1)) #[] #[]], .agg #[.int .i64 s_, .int .i64 o_, .int .i64 m_, .int .i64 (-1)], .int .i64 (0)]) ?_ rfl ⟨(some ad), (crays a1).length, c_, (cpar a1), .func (Fn.func (cno a1)) #[] #[], rfl, fun _ => (by unfold csig; rw [hcis]; rfl), .inr ⟨_, rfl⟩, fb_⟩
       simp [results, Try.results63, go_sem, hd0, hd1, hd2, he0, he1, he2, he3]
    ·have sb : decide (q < 0) = false := decide_eq_false e4
     cases f2
     ·rw [if_neg (by rintro (h | h | h | h); exact h e1; exact e2 h; exact e3 h; exact h sb)] at H
      obtain ⟨⟨x1, x2, x3, x4⟩, Ax_, H⟩ := Option.bind_eq_some_iff.mp H
      obtain ⟨s_, As_, H⟩ := Option.bind_eq_some_iff.mp H
      obtain ⟨o_, Ao_, H⟩ := Option.bind_eq_some_iff.mp H
      obtain ⟨m_, Am_, H⟩ := Option.bind_eq_some_iff.mp H
      have Ax := A0_ Ax_; have As := A0_ As_; have Ao := A0_ Ao_; have Am := A0_ Am_; clear Ax_ As_ Ao_ Am_ e4 e1 e2 e3
      go_upto_region 20 with (first | (go_at_call 54; (with_reducible refine (word_Class.calls k a0 a2_0 c1 c2 _ Ac.out).mono ?_); rintro e wc ⟨rfl, hb⟩; have nb_ := A0_ (blk_below BK13.out hb); clear BK13; have BK13 := nb_; clear nb_; have n1_ := A0_ (below_step (qm_ HB.out) hb); clear HB; have HB := n1_; clear n1_;  clear hb) | (go_at_call 54; (with_reducible refine (word_Class.calls k a0 a2_1 l1 l2 _ Al.out).mono ?_); rintro e wd ⟨rfl, hb⟩; have nb_ := A0_ (blk_below BK13.out hb); clear BK13; have BK13 := nb_; clear nb_; have n1_ := A0_ (below_step (qm_ HB.out) hb); clear HB; have HB := n1_; clear n1_; have hcz13b_0 : wd.cell? ⟨gb13, 0, none⟩ = some (.bool true) := (blk_cell BK13.out 0).trans rfl; have hfz13b_0 := blk_frozen BK13.out 0; have hcz13b_1 : wd.cell? ⟨gb13, 1, none⟩ = some (.int .i64 f1) := (blk_cell BK13.out 1).trans rfl; have hfz13b_1 := blk_frozen BK13.out 1; have hcz13b_2 : wd.cell? ⟨gb13, 2, none⟩ = some (.bool false) := (blk_cell BK13.out 2).trans rfl; have hfz13b_2 := blk_frozen BK13.out 2; clear hb) | (go_at_call 87; (with_reducible refine (cuts_against.calls k a0 a2_1 f1 q _ Aq.out).mono ?_); rintro e we ⟨rfl, hb⟩; have nb_ := A0_ (blk_below BK13.out hb); clear BK13; have BK13 := nb_; clear nb_; have n1_ := A0_ (below_step (qm_ HB.out) hb); clear HB; have HB := n1_; clear n1_ hcz13b_0 hfz13b_0 hcz13b_1 hfz13b_1 hcz13b_2 hfz13b_2; have hcz13c_0 : we.cell? ⟨gb13, 0, none⟩ = some (.bool true) := (blk_cell BK13.out 0).trans rfl; have hfz13c_0 := blk_frozen BK13.out 0; have hcz13c_1 : we.cell? ⟨gb13, 1, none⟩ = some (.int .i64 f1) := (blk_cell BK13.out 1).trans rfl; have hfz13c_1 := blk_frozen BK13.out 1; have hcz13c_2 : we.cell? ⟨gb13, 2, none⟩ = some (.bool false) := (blk_cell BK13.out 2).trans rfl; have hfz13c_2 := blk_frozen BK13.out 2; clear hb) | (go_at_call 88; (with_reducible refine (word_Split.calls k a0 a2_0 x1 x2 x3 x4 _ Ax.out).mono ?_); rintro e wf ⟨rfl, hb⟩;  have n1_ := A0_ (below_step (qm_ HB.out) hb); clear HB; have HB := n1_; clear n1_;  clear hb) | ((with_reducible refine gate_dst (N := 21) rfl ?_); refine box_event ?hg (N := 21) ?hd (cs := #[.bool false, .int .i64 0, .int .u64 0]) (t := 84) ?hr ?_; (case hd => rfl); (case hg => rfl); (case hr => first | (go_simp; done) | (go_simp; rfl)); intro gb21 hg wg hbox hb;  have n0_ := A0_ (below_step (qm_ HB.out) hb); have n1_ := A0_ hbox; have n2_ := A0_ ((by rw [hg]; exact (below_size (qm_ HB.out))) : wr.heap.size ≤ gb21); clear HB; have HB := n0_; have BK21 := n1_; have GE21 := n2_; clear n0_ n1_ n2_ hb hbox hg; have hcz21_0 : wg.cell? ⟨gb21, 0, none⟩ = some (.bool false) := (blk_cell BK21.out 0).trans rfl; have hfz21_0 := blk_frozen BK21.out 0; have hcz21_1 : wg.cell? ⟨gb21, 1, none⟩ = some (.int .i64 0) := (blk_cell BK21.out 1).trans rfl; have hfz21_1 := blk_frozen BK21.out 1; have hcz21_2 : wg.cell? ⟨gb21, 2, none⟩ = some (.int .u64 0) := (blk_cell BK21.out 2).trans rfl; have hfz21_2 := blk_frozen BK21.out 2;))
      have f21_ := (blk_set (blk_set (blk_set BK21.out 0 (.bool x1)) 1 (.int .i64 x2)) 2 (.int .u64 x3))
      have fb_ := (below_set (below_set (below_set HB.out GE21.out (j := 0) (v := .bool x1)) GE21.out (j := 1) (v := .int .i64 x2)) GE21.out (j := 2) (v := .int .u64 x3))
      clear hcz21_0 hfz21_0 hcz21_1 hfz21_1 hcz21_2 hfz21_2 BK21 HB
      generalize ((wg.setCell ⟨gb21, 0, none⟩ (.bool x1)).setCell ⟨gb21, 1, none⟩ (.int .i64 x2)).setCell ⟨gb21, 2, none⟩ (.int .u64 x3) = wh at f21_ fb_ ⊢
      have BK21 := A0_ f21_
      have HB := A0_ fb_
      clear f21_ fb_
      go_upto_region 21 with (first | (go_at_call 87; (with_reducible refine (cuts_against.calls k a0 a2_1 0 s_ _ As.out).mono ?_); rintro e wi1 ⟨rfl, hb⟩; have nb_ := A0_ (blk_below BK21.out hb); clear BK21; have BK21 := nb_; clear nb_; have n1_ := A0_ (below_step (qm_ HB.out) hb); clear HB; have HB := n1_; clear n1_;  clear hb) | (go_at_call 87; (with_reducible refine (cuts_against.calls k a0 a2_1 1 o_ _ Ao.out).mono ?_); rintro e wi2 ⟨rfl, hb⟩; have nb_ := A0_ (blk_below BK21.out hb); clear BK21; have BK21 := nb_; clear nb_; have n1_ := A0_ (below_step (qm_ HB.out) hb); clear HB; have HB := n1_; clear n1_;  clear hb) | (go_at_call 87; (with_reducible refine (cuts_against.calls k a0 a2_1 (-1) m_ _ Am.out).mono ?_); rintro e wi3 ⟨rfl, hb⟩; have nb_ := A0_ (blk_below BK21.out hb); clear BK21; have BK21 := nb_; clear nb_; have n1_ := A0_ (below_step (qm_ HB.out) hb); clear HB; have HB := n1_; clear n1_;  clear hb) | ((with_reducible refine gate_dst (N := 23) rfl ?_); refine box_event ?hg (N := 23) ?hd (cs := #[.int .i64 0, .int .i64 0, .int .i64 0, .int .i64 0]) (t := 96) ?hr ?_; (case hd => rfl); (case hg => rfl); (case hr => first | (go_simp; done) | (go_simp; rfl)); intro gb23 hg wk hbox hb; have LT21 := blk_lt BK21.out; have nb_ := A0_ (blk_below BK21.out hb); clear BK21; have BK21 := nb_; clear nb_; have n0_ := A0_ (below_step (qm_ HB.out) hb); have n1_ := A0_ hbox; have n2_ := A0_ ((by rw [hg]; exact (below_size (qm_ HB.out))) : wr.heap.size ≤ gb23); clear HB; have HB := n0_; have BK23 := n1_; have GE23 := n2_; clear n0_ n1_ n2_; have NE2123 := A0_ ((by rw [hg]; exact Nat.ne_of_lt LT21) : gb21 ≠ gb23); clear LT21 hb hbox hg; have hcz23_0 : wk.cell? ⟨gb23, 0, none⟩ = some (.int .i64 0) := (blk_cell BK23.out 0).trans rfl; have hfz23_0 := blk_frozen BK23.out 0; have hcz23_1 : wk.cell? ⟨gb23, 1, none⟩ = some (.int .i64 0) := (blk_cell BK23.out 1).trans rfl; have hfz23_1 := blk_frozen BK23.out 1; have hcz23_2 : wk.cell? ⟨gb23, 2, none⟩ = some (.int .i64 0) := (blk_cell BK23.out 2).trans rfl; have hfz23_2 := blk_frozen BK23.out 2; have hcz23_3 : wk.cell? ⟨gb23, 3, none⟩ = some (.int .i64 0) := (blk_cell BK23.out 3).trans rfl; have hfz23_3 := blk_frozen BK23.out 3;))
      have f21_ := (blk_far (blk_far (blk_far (blk_far BK21.out (p := ⟨gb23, 0, none⟩) NE2123.out (.int .i64 s_)) (p := ⟨gb23, 1, none⟩) NE2123.out (.int .i64 o_)) (p := ⟨gb23, 2, none⟩) NE2123.out (.int .i64 m_)) (p := ⟨gb23, 3, none⟩) NE2123.out (.int .i64 1))
      have f23_ := (blk_set (blk_set (blk_set (blk_set BK23.out 0 (.int .i64 s_)) 1 (.int .i64 o_)) 2 (.int .i64 m_)) 3 (.int .i64 1))
      have fb_ := (below_set (below_set (below_set (below_set HB.out GE23.out (j := 0) (v := .int .i64 s_)) GE23.out (j := 1) (v := .int .i64 o_)) GE23.out (j := 2) (v := .int .i64 m_)) GE23.out (j := 3) (v := .int .i64 1))
      clear hcz23_0 hfz23_0 hcz23_1 hfz23_1 hcz23_2 hfz23_2 hcz23_3 hfz23_3 BK21 BK23 HB
      generalize (((wk.setCell ⟨gb23, 0, none⟩ (.int .i64 s_)).setCell ⟨gb23, 1, none⟩ (.int .i64 o_)).setCell ⟨gb23, 2, none⟩ (.int .i64 m_)).setCell ⟨gb23, 3, none⟩ (.int .i64 1) = wl1 at f21_ f23_ fb_ ⊢
      cases x1
      ·simp only [Bool.false_eq_true, if_false, if_true, Option.some.injEq, Prod.mk.injEq] at H
       obtain ⟨rfl, rfl, rfl, rfl, rfl⟩ := H
       have hcz21_0 : wl1.cell? ⟨gb21, 0, none⟩ = some (.bool false) := (blk_cell f21_ 0).trans rfl
       have hcz23_3 : wl1.cell? ⟨gb23, 3, none⟩ = some (.int .i64 1) := (blk_cell f23_ 3).trans rfl
       have hfz23_3 := blk_frozen f23_ 3
       go_upto_region 23 with (fail)
       clear hcz21_0 hcz23_3 hfz23_3 f21_
       have f6_ := blk_below BK6.out fb_
       have f7_ := blk_below BK7.out fb_
       have f10_ := blk_below BK10.out fb_
       have fb2_ := below_step HBO.out fb_
       have hn723 : gb7 ≠ gb23 := fun h => by have h1 := blk_lt BK7.out; have h2 := GE23.out; omega
       replace f6_ := blk_drew f6_
       replace f7_ := blk_drew f7_
       replace f10_ := blk_drew f10_
       replace f23_ := blk_drew f23_
       replace fb2_ := below_drew1 fb2_
       clear fb_
       refine start_ (n := 5) (S := fun w' => w'.cell? ⟨gb10, 0, none⟩ = some (.slice (some ad) (crays a1).length c_) ∧ w'.cell? ⟨gb10, 1, none⟩ = some (.int .u8 (cpar a1)) ∧ w'.cell? ⟨gb10, 2, none⟩ = some (.func (Fn.func (cno a1)) #[] #[]) ∧ w'.cell? ⟨gb23, 0, none⟩ = some (.int .i64 s_) ∧ w'.cell? ⟨gb23, 1, none⟩ = some (.int .i64 o_) ∧ w'.cell? ⟨gb23, 2, none⟩ = some (.int .i64 m_) ∧ w'.cell? ⟨gb23, 3, none⟩ = some (.int .i64 (1))) (ds := []) #[false, false, false, false, false] (by kernel_rfl) rfl rfl ⟨(blk_cell f10_ 0).trans rfl, (blk_cell f10_ 1).trans rfl, (blk_cell f10_ 2).trans rfl, (blk_cell f23_ 0).trans rfl, (blk_cell f23_ 1).trans rfl, (blk_cell f23_ 2).trans rfl, (blk_cell f23_ 3).trans rfl⟩ (fun hHeld => ?_)
       generalize wl1.drew = wv at f6_ f7_ f10_ f23_ fb2_ hHeld ⊢
       have hn623 : gb6 ≠ gb23 := blk_ne f6_ f23_ (by decide)
       refine take_ (i := 0) (N := some 106) (v := ?_) (a' := ?_) #[true, false, false, false, false] rfl rfl (by kernel_rfl) (fun _ _ _ h => h) (Or.inl ⟨by rfl, ?_⟩) hHeld ?_ ?_
       rotate_left
       ·rintro w' ⟨s0, s1, s2, s3, s4, s5, s6⟩
        go_simp
        with_reducible rfl
       rotate_left
       ·simp only [Act.put, sp_, i64_w, i32_w]
        rfl
       refine take_ (i := 1) (N := some 107) (v := ?_) (a' := ?_) #[true, true, false, false, false] rfl rfl (by kernel_rfl) (fun _ _ _ h => h) (Or.inl ⟨by rfl, ?_⟩) hHeld ?_ ?_
       rotate_left
       ·rintro w' ⟨s0, s1, s2, s3, s4, s5, s6⟩
        go_simp
        with_reducible rfl
       rotate_left
       ·simp only [Act.put, sp_, i64_w, i32_w]
        rfl
       have hn106 := Ne.symm NE610.out
       have hn107 := Ne.symm NE710.out
       have hn236 := Ne.symm hn623
       have hn237 := Ne.symm hn723
       refine one_ (i := 2) (N := none) #[true, true, true, false, false] rfl rfl (by kernel_rfl) (by decide) (fun K hK => ?_)
       have hcs0 : wv.cell? ⟨gb6, 0, none⟩ = some (.slice none 0 0) := (blk_cell f6_ 0).trans rfl
       have hfs0 := blk_frozen f6_ 0
       have hcs1 : wv.cell? ⟨gb6, 1, none⟩ = some (.int .u8 0) := (blk_cell f6_ 1).trans rfl
       have hfs1 := blk_frozen f6_ 1
       have hcs2 : wv.cell? ⟨gb6, 2, none⟩ = some (.nilFunc) := (blk_cell f6_ 2).trans rfl
       have hfs2 := blk_frozen f6_ 2
       refine skip_ (w1 := ?_) (by rfl) rfl ?_ ?_
       rotate_left
       ·go_simp
        rfl
       refine hK.out _ _ ⟨((cell_far (p := ⟨gb6, _, none⟩) hn106 _).trans ((cell_far (p := ⟨gb6, _, none⟩) hn106 _).trans ((cell_far (p := ⟨gb6, _, none⟩) hn106 _).trans hHeld.1))), ((cell_far (p := ⟨gb6, _, none⟩) hn106 _).trans ((cell_far (p := ⟨gb6, _, none⟩) hn106 _).trans ((cell_far (p := ⟨gb6, _, none⟩) hn106 _).trans hHeld.2.1))), ((cell_far (p := ⟨gb6, _, none⟩) hn106 _).trans ((cell_far (p := ⟨gb6, _, none⟩) hn106 _).trans ((cell_far (p := ⟨gb6, _, none⟩) hn106 _).trans hHeld.2.2.1))), ((cell_far (p := ⟨gb6, _, none⟩) hn236 _).trans ((cell_far (p := ⟨gb6, _, none⟩) hn236 _).trans ((cell_far (p := ⟨gb6, _, none⟩) hn236 _).trans hHeld.2.2.2.1))), ((cell_far (p := ⟨gb6, _, none⟩) hn236 _).trans ((cell_far (p := ⟨gb6, _, none⟩) hn236 _).trans ((cell_far (p := ⟨gb6, _, none⟩) hn236 _).trans hHeld.2.2.2.2.1))), ((cell_far (p := ⟨gb6, _, none⟩) hn236 _).trans ((cell_far (p := ⟨gb6, _, none⟩) hn236 _).trans ((cell_far (p := ⟨gb6, _, none⟩) hn236 _).trans hHeld.2.2.2.2.2.1))), ((cell_far (p := ⟨gb6, _, none⟩) hn236 _).trans ((cell_far (p := ⟨gb6, _, none⟩) hn236 _).trans ((cell_far (p := ⟨gb6, _, none⟩) hn236 _).trans hHeld.2.2.2.2.2.2)))⟩ (fun hHeld => ?_)
       clear hK K hcs0 hfs0 hcs1 hfs1 hcs2 hfs2
       have f7b_ := (blk_far (blk_far (blk_far f7_ (p := ⟨gb6, 0, none⟩) (Ne.symm NE67.out) (.slice (some ad) (crays a1).length c_)) (p := ⟨gb6, 1, none⟩) (Ne.symm NE67.out) (.int .u8 (cpar a1))) (p := ⟨gb6, 2, none⟩) (Ne.symm NE67.out) (.func (Fn.func (cno a1)) #[] #[]))
       have f7k_ := f7_
       clear f7_
       have f7_ := f7b_
       clear f7b_
       refine one_ (i := 3) (N := none) #[true, true, true, true, false] rfl rfl (by kernel_rfl) (by decide) (fun K hK => ?_)
       have hcs0 : (((wv.setCell ⟨gb6, 0, none⟩ (.slice (some ad) (crays a1).length c_)).setCell ⟨gb6, 1, none⟩ (.int .u8 (cpar a1))).setCell ⟨gb6, 2, none⟩ (.func (Fn.func (cno a1)) #[] #[])).cell? ⟨gb7, 0, none⟩ = some (.int .i64 0) := (blk_cell f7_ 0).trans rfl
       have hfs0 := blk_frozen f7_ 0
       have hcs1 : (((wv.setCell ⟨gb6, 0, none⟩ (.slice (some ad) (crays a1).length c_)).setCell ⟨gb6, 1, none⟩ (.int .u8 (cpar a1))).setCell ⟨gb6, 2, none⟩ (.func (Fn.func (cno a1)) #[] #[])).cell? ⟨gb7, 1, none⟩ = some (.int .i64 0) := (blk_cell f7_ 1).trans rfl
       have hfs1 := blk_frozen f7_ 1
       have hcs2 : (((wv.setCell ⟨gb6, 0, none⟩ (.slice (some ad) (crays a1).length c_)).setCell ⟨gb6, 1, none⟩ (.int .u8 (cpar a1))).setCell ⟨gb6, 2, none⟩ (.func (Fn.func (cno a1)) #[] #[])).cell? ⟨gb7, 2, none⟩ = some (.int .i64 0) := (blk_cell f7_ 2).trans rfl
       have hfs2 := blk_frozen f7_ 2
       have hcs3 : (((wv.setCell ⟨gb6, 0, none⟩ (.slice (some ad) (crays a1).length c_)).setCell ⟨gb6, 1, none⟩ (.int .u8 (cpar a1))).setCell ⟨gb6, 2, none⟩ (.func (Fn.func (cno a1)) #[] #[])).cell? ⟨gb7, 3, none⟩ = some (.int .i64 0) := (blk_cell f7_ 3).trans rfl
       have hfs3 := blk_frozen f7_ 3
       refine skip_ (w1 := ?_) (by rfl) rfl ?_ ?_
       rotate_left
       ·go_simp
        rfl
       refine hK.out _ _ ⟨((cell_far (p := ⟨gb7, _, none⟩) hn107 _).trans ((cell_far (p := ⟨gb7, _, none⟩) hn107 _).trans ((cell_far (p := ⟨gb7, _, none⟩) hn107 _).trans ((cell_far (p := ⟨gb7, _, none⟩) hn107 _).trans hHeld.1)))), ((cell_far (p := ⟨gb7, _, none⟩) hn107 _).trans ((cell_far (p := ⟨gb7, _, none⟩) hn107 _).trans ((cell_far (p := ⟨gb7, _, none⟩) hn107 _).trans ((cell_far (p := ⟨gb7, _, none⟩) hn107 _).trans hHeld.2.1)))), ((cell_far (p := ⟨gb7, _, none⟩) hn107 _).trans ((cell_far (p := ⟨gb7, _, none⟩) hn107 _).trans ((cell_far (p := ⟨gb7, _, none⟩) hn107 _).trans ((cell_far (p := ⟨gb7, _, none⟩) hn107 _).trans hHeld.2.2.1)))), ((cell_far (p := ⟨gb7, _, none⟩) hn237 _).trans ((cell_far (p := ⟨gb7, _, none⟩) hn237 _).trans ((cell_far (p := ⟨gb7, _, none⟩) hn237 _).trans ((cell_far (p := ⟨gb7, _, none⟩) hn237 _).trans hHeld.2.2.2.1)))), ((cell_far (p := ⟨gb7, _, none⟩) hn237 _).trans ((cell_far (p := ⟨gb7, _, none⟩) hn237 _).trans ((cell_far (p := ⟨gb7, _, none⟩) hn237 _).trans ((cell_far (p := ⟨gb7, _, none⟩) hn237 _).trans hHeld.2.2.2.2.1)))), ((cell_far (p := ⟨gb7, _, none⟩) hn237 _).trans ((cell_far (p := ⟨gb7, _, none⟩) hn237 _).trans ((cell_far (p := ⟨gb7, _, none⟩) hn237 _).trans ((cell_far (p := ⟨gb7, _, none⟩) hn237 _).trans hHeld.2.2.2.2.2.1)))), ((cell_far (p := ⟨gb7, _, none⟩) hn237 _).trans ((cell_far (p := ⟨gb7, _, none⟩) hn237 _).trans ((cell_far (p := ⟨gb7, _, none⟩) hn237 _).trans ((cell_far (p := ⟨gb7, _, none⟩) hn237 _).trans hHeld.2.2.2.2.2.2))))⟩ (fun hHeld => ?_)
       clear hK K hcs0 hfs0 hcs1 hfs1 hcs2 hfs2 hcs3 hfs3
       refine pure_ (i := 4) (N := some 8) (v := ?_) (a' := ?_) #[true, true, true, true, true] rfl rfl (by kernel_rfl) (fun _ _ _ h => h) (Or.inl ⟨by rfl, ?_⟩) ?_ ?_
       rotate_left
       ·intro w'
        go_simp
        with_reducible rfl
       rotate_left
       ·simp only [Act.put, sp_, i64_w, i32_w]
        rfl
       refine done_ (by kernel_rfl) ?_
       try go_wp2
       have BK6 := A0_ f6_
       have BK7 := A0_ f7k_
       have HB := A0_ fb2_
       have fin_ := fun W hW => set67 BK6.out BK7.out NE67.out HB.out GE6.out GE7.out (.slice (some ad) (crays a1).length c_) (.int .u8 (cpar a1)) (.func (Fn.func (cno a1)) #[] #[]) (.int .i64 s_) (.int .i64 o_) (.int .i64 m_) (.int .i64 (1)) W hW
       generalize hW_ : (((((((wv.setCell ⟨gb6, 0, none⟩ (.slice (some ad) (crays a1).length c_)).setCell ⟨gb6, 1, none⟩ (.int .u8 (cpar a1))).setCell ⟨gb6, 2, none⟩ (.func (Fn.func (cno a1)) #[] #[])).setCell ⟨gb7, 0, none⟩ (.int .i64 s_)).setCell ⟨gb7, 1, none⟩ (.int .i64 o_)).setCell ⟨gb7, 2, none⟩ (.int .i64 m_)).setCell ⟨gb7, 3, none⟩ (.int .i64 (1))) = W
       obtain ⟨f6_, f7_, fb_⟩ := fin_ W hW_
       clear hW_ fin_
       have hd0 : W.cell? ⟨gb6, 0, none⟩ = some (.slice (some ad) (crays a1).length c_) := (blk_cell f6_ 0).trans rfl
       have hd1 : W.cell? ⟨gb6, 1, none⟩ = some (.int .u8 (cpar a1)) := (blk_cell f6_ 1).trans rfl
       have hd2 : W.cell? ⟨gb6, 2, none⟩ = some (.func (Fn.func (cno a1)) #[] #[]) := (blk_cell f6_ 2).trans rfl
       have he0 : W.cell? ⟨gb7, 0, none⟩ = some (.int .i64 s_) := (blk_cell f7_ 0).trans rfl
       have he1 : W.cell? ⟨gb7, 1, none⟩ = some (.int .i64 o_) := (blk_cell f7_ 1).trans rfl
       have he2 : W.cell? ⟨gb7, 2, none⟩ = some (.int .i64 m_) := (blk_cell f7_ 2).trans rfl
       have he3 : W.cell? ⟨gb7, 3, none⟩ = some (.int .i64 (1)) := (blk_cell f7_ 3).trans rfl
       refine bodyPost_ret (v := .tuple #[.agg #[.slice (some ad) (crays a1).length c_, .int .u8 (cpar a1), .func (Fn.func (cno a1)) #[] #[]], .agg #[.int .i64 s_, .int .i64 o_, .int .i64 m_, .int .i64 (1)], .int .i64 (0)]) ?_ rfl ⟨(some ad), (crays a1).length, c_, (cpar a1), .func (Fn.func (cno a1)) #[] #[], rfl, fun _ => (by unfold csig; rw [hcis]; rfl), .inr ⟨_, rfl⟩, fb_⟩
       simp [results, Try.results63, go_sem, hd0, hd1, hd2, he0, he1, he2, he3]
      ·simp only [Bool.false_eq_true, if_false, if_true, Option.some.injEq, Prod.mk.injEq] at H
       obtain ⟨rfl, rfl, rfl, rfl, rfl⟩ := H
       have hcz21_0 : wl1.cell? ⟨gb21, 0, none⟩ = some (.bool true) := (blk_cell f21_ 0).trans rfl
       have hcz23_3 : wl1.cell? ⟨gb23, 3, none⟩ = some (.int .i64 1) := (blk_cell f23_ 3).trans rfl
       have hfz23_3 := blk_frozen f23_ 3
       go_upto_region 23 with (fail)
       replace f23_ := (blk_set f23_ 3 (.int .i64 (-1)))
       replace fb_ := below_set fb_ GE23.out (j := 3) (v := .int .i64 (-1))
       clear hcz21_0 hcz23_3 hfz23_3 f21_
       generalize wl1.setCell ⟨gb23, 3, none⟩ (.int .i64 (-1)) = wn1 at f23_ fb_ ⊢
       have f6_ := blk_below BK6.out fb_
       have f7_ := blk_below BK7.out fb_
       have f10_ := blk_below BK10.out fb_
       have fb2_ := below_step HBO.out fb_
       have hn723 : gb7 ≠ gb23 := fun h => by have h1 := blk_lt BK7.out; have h2 := GE23.out; omega
       replace f6_ := blk_drew f6_
       replace f7_ := blk_drew f7_
       replace f10_ := blk_drew f10_
       replace f23_ := blk_drew f23_
       replace fb2_ := below_drew1 fb2_
       clear fb_
       refine start_ (n := 5) (S := fun w' => w'.cell? ⟨gb10, 0, none⟩ = some (.slice (some ad) (crays a1).length c_) ∧ w'.cell? ⟨gb10, 1, none⟩ = some (.int .u8 (cpar a1)) ∧ w'.cell? ⟨gb10, 2, none⟩ = some (.func (Fn.func (cno a1)) #[] #[]) ∧ w'.cell? ⟨gb23, 0, none⟩ = some (.int .i64 s_) ∧ w'.cell? ⟨gb23, 1, none⟩ = some (.int .i64 o_) ∧ w'.cell? ⟨gb23, 2, none⟩ = some (.int .i64 m_) ∧ w'.cell? ⟨gb23, 3, none⟩ = some (.int .i64 (-1))) (ds := []) #[false, false, false, false, false] (by kernel_rfl) rfl rfl ⟨(blk_cell f10_ 0).trans rfl, (blk_cell f10_ 1).trans rfl, (blk_cell f10_ 2).trans rfl, (blk_cell f23_ 0).trans rfl, (blk_cell f23_ 1).trans rfl, (blk_cell f23_ 2).trans rfl, (blk_cell f23_ 3).trans rfl⟩ (fun hHeld => ?_)
       generalize wn1.drew = wv at f6_ f7_ f10_ f23_ fb2_ hHeld ⊢
       have hn623 : gb6 ≠ gb23 := blk_ne f6_ f23_ (by decide)
       refine take_ (i := 0) (N := some 106) (v := ?_) (a' := ?_) #[true, false, false, false, false] rfl rfl (by kernel_rfl) (fun _ _ _ h => h) (Or.inl ⟨by rfl, ?_⟩) hHeld ?_ ?_
       rotate_left
       ·rintro w' ⟨s0, s1, s2, s3, s4, s5, s6⟩
        go_simp
        with_reducible rfl
       rotate_left
       ·simp only [Act.put, sp_, i64_w, i32_w]
        rfl
       refine take_ (i := 1) (N := some 107) (v := ?_) (a' := ?_) #[true, true, false, false, false] rfl rfl (by kernel_rfl) (fun _ _ _ h => h) (Or.inl ⟨by rfl, ?_⟩) hHeld ?_ ?_
       rotate_left
       ·rintro w' ⟨s0, s1, s2, s3, s4, s5, s6⟩
        go_simp
        with_reducible rfl
       rotate_left
       ·simp only [Act.put, sp_, i64_w, i32_w]
        rfl
       have hn106 := Ne.symm NE610.out
       have hn107 := Ne.symm NE710.out
       have hn236 := Ne.symm hn623
       have hn237 := Ne.symm hn723
       refine one_ (i := 2) (N := none) #[true, true, true, false, false] rfl rfl (by kernel_rfl) (by decide) (fun K hK => ?_)
       have hcs0 : wv.cell? ⟨gb6, 0, none⟩ = some (.slice none 0 0) := (blk_cell f6_ 0).trans rfl
       have hfs0 := blk_frozen f6_ 0
       have hcs1 : wv.cell? ⟨gb6, 1, none⟩ = some (.int .u8 0) := (blk_cell f6_ 1).trans rfl
       have hfs1 := blk_frozen f6_ 1
       have hcs2 : wv.cell? ⟨gb6, 2, none⟩ = some (.nilFunc) := (blk_cell f6_ 2).trans rfl
       have hfs2 := blk_frozen f6_ 2
       refine skip_ (w1 := ?_) (by rfl) rfl ?_ ?_
       rotate_left
       ·go_simp
        rfl
       refine hK.out _ _ ⟨((cell_far (p := ⟨gb6, _, none⟩) hn106 _).trans ((cell_far (p := ⟨gb6, _, none⟩) hn106 _).trans ((cell_far (p := ⟨gb6, _, none⟩) hn106 _).trans hHeld.1))), ((cell_far (p := ⟨gb6, _, none⟩) hn106 _).trans ((cell_far (p := ⟨gb6, _, none⟩) hn106 _).trans ((cell_far (p := ⟨gb6, _, none⟩) hn106 _).trans hHeld.2.1))), ((cell_far (p := ⟨gb6, _, none⟩) hn106 _).trans ((cell_far (p := ⟨gb6, _, none⟩) hn106 _).trans ((cell_far (p := ⟨gb6, _, none⟩) hn106 _).trans hHeld.2.2.1))), ((cell_far (p := ⟨gb6, _, none⟩) hn236 _).trans ((cell_far (p := ⟨gb6, _, none⟩) hn236 _).trans ((cell_far (p := ⟨gb6, _, none⟩) hn236 _).trans hHeld.2.2.2.1))), ((cell_far (p := ⟨gb6, _, none⟩) hn236 _).trans ((cell_far (p := ⟨gb6, _, none⟩) hn236 _).trans ((cell_far (p := ⟨gb6, _, none⟩) hn236 _).trans hHeld.2.2.2.2.1))), ((cell_far (p := ⟨gb6, _, none⟩) hn236 _).trans ((cell_far (p := ⟨gb6, _, none⟩) hn236 _).trans ((cell_far (p := ⟨gb6, _, none⟩) hn236 _).trans hHeld.2.2.2.2.2.1))), ((cell_far (p := ⟨gb6, _, none⟩) hn236 _).trans ((cell_far (p := ⟨gb6, _, none⟩) hn236 _).trans ((cell_far (p := ⟨gb6, _, none⟩) hn236 _).trans hHeld.2.2.2.2.2.2)))⟩ (fun hHeld => ?_)
       clear hK K hcs0 hfs0 hcs1 hfs1 hcs2 hfs2
       have f7b_ := (blk_far (blk_far (blk_far f7_ (p := ⟨gb6, 0, none⟩) (Ne.symm NE67.out) (.slice (some ad) (crays a1).length c_)) (p := ⟨gb6, 1, none⟩) (Ne.symm NE67.out) (.int .u8 (cpar a1))) (p := ⟨gb6, 2, none⟩) (Ne.symm NE67.out) (.func (Fn.func (cno a1)) #[] #[]))
       have f7k_ := f7_
       clear f7_
       have f7_ := f7b_
       clear f7b_
       refine one_ (i := 3) (N := none) #[true, true, true, true, false] rfl rfl (by kernel_rfl) (by decide) (fun K hK => ?_)
       have hcs0 : (((wv.setCell ⟨gb6, 0, none⟩ (.slice (some ad) (crays a1).length c_)).setCell ⟨gb6, 1, none⟩ (.int .u8 (cpar a1))).setCell ⟨gb6, 2, none⟩ (.func (Fn.func (cno a1)) #[] #[])).cell? ⟨gb7, 0, none⟩ = some (.int .i64 0) := (blk_cell f7_ 0).trans rfl
       have hfs0 := blk_frozen f7_ 0
       have hcs1 : (((wv.setCell ⟨gb6, 0, none⟩ (.slice (some ad) (crays a1).length c_)).setCell ⟨gb6, 1, none⟩ (.int .u8 (cpar a1))).setCell ⟨gb6, 2, none⟩ (.func (Fn.func (cno a1)) #[] #[])).cell? ⟨gb7, 1, none⟩ = some (.int .i64 0) := (blk_cell f7_ 1).trans rfl
       have hfs1 := blk_frozen f7_ 1
       have hcs2 : (((wv.setCell ⟨gb6, 0, none⟩ (.slice (some ad) (crays a1).length c_)).setCell ⟨gb6, 1, none⟩ (.int .u8 (cpar a1))).setCell ⟨gb6, 2, none⟩ (.func (Fn.func (cno a1)) #[] #[])).cell? ⟨gb7, 2, none⟩ = some (.int .i64 0) := (blk_cell f7_ 2).trans rfl
       have hfs2 := blk_frozen f7_ 2
       have hcs3 : (((wv.setCell ⟨gb6, 0, none⟩ (.slice (some ad) (crays a1).length c_)).setCell ⟨gb6, 1, none⟩ (.int .u8 (cpar a1))).setCell ⟨gb6, 2, none⟩ (.func (Fn.func (cno a1)) #[] #[])).cell? ⟨gb7, 3, none⟩ = some (.int .i64 0) := (blk_cell f7_ 3).trans rfl
       have hfs3 := blk_frozen f7_ 3
       refine skip_ (w1 := ?_) (by rfl) rfl ?_ ?_
       rotate_left
       ·go_simp
        rfl
       refine hK.out _ _ ⟨((cell_far (p := ⟨gb7, _, none⟩) hn107 _).trans ((cell_far (p := ⟨gb7, _, none⟩) hn107 _).trans ((cell_far (p := ⟨gb7, _, none⟩) hn107 _).trans ((cell_far (p := ⟨gb7, _, none⟩) hn107 _).trans hHeld.1)))), ((cell_far (p := ⟨gb7, _, none⟩) hn107 _).trans ((cell_far (p := ⟨gb7, _, none⟩) hn107 _).trans ((cell_far (p := ⟨gb7, _, none⟩) hn107 _).trans ((cell_far (p := ⟨gb7, _, none⟩) hn107 _).trans hHeld.2.1)))), ((cell_far (p := ⟨gb7, _, none⟩) hn107 _).trans ((cell_far (p := ⟨gb7, _, none⟩) hn107 _).trans ((cell_far (p := ⟨gb7, _, none⟩) hn107 _).trans ((cell_far (p := ⟨gb7, _, none⟩) hn107 _).trans hHeld.2.2.1)))), ((cell_far (p := ⟨gb7, _, none⟩) hn237 _).trans ((cell_far (p := ⟨gb7, _, none⟩) hn237 _).trans ((cell_far (p := ⟨gb7, _, none⟩) hn237 _).trans ((cell_far (p := ⟨gb7, _, none⟩) hn237 _).trans hHeld.2.2.2.1)))), ((cell_far (p := ⟨gb7, _, none⟩) hn237 _).trans ((cell_far (p := ⟨gb7, _, none⟩) hn237 _).trans ((cell_far (p := ⟨gb7, _, none⟩) hn237 _).trans ((cell_far (p := ⟨gb7, _, none⟩) hn237 _).trans hHeld.2.2.2.2.1)))), ((cell_far (p := ⟨gb7, _, none⟩) hn237 _).trans ((cell_far (p := ⟨gb7, _, none⟩) hn237 _).trans ((cell_far (p := ⟨gb7, _, none⟩) hn237 _).trans ((cell_far (p := ⟨gb7, _, none⟩) hn237 _).trans hHeld.2.2.2.2.2.1)))), ((cell_far (p := ⟨gb7, _, none⟩) hn237 _).trans ((cell_far (p := ⟨gb7, _, none⟩) hn237 _).trans ((cell_far (p := ⟨gb7, _, none⟩) hn237 _).trans ((cell_far (p := ⟨gb7, _, none⟩) hn237 _).trans hHeld.2.2.2.2.2.2))))⟩ (fun hHeld => ?_)
       clear hK K hcs0 hfs0 hcs1 hfs1 hcs2 hfs2 hcs3 hfs3
       refine pure_ (i := 4) (N := some 8) (v := ?_) (a' := ?_) #[true, true, true, true, true] rfl rfl (by kernel_rfl) (fun _ _ _ h => h) (Or.inl ⟨by rfl, ?_⟩) ?_ ?_
       rotate_left
       ·intro w'
        go_simp
        with_reducible rfl
       rotate_left
       ·simp only [Act.put, sp_, i64_w, i32_w]
        rfl
       refine done_ (by kernel_rfl) ?_
       try go_wp2
       have BK6 := A0_ f6_
       have BK7 := A0_ f7k_
       have HB := A0_ fb2_
       have fin_ := fun W hW => set67 BK6.out BK7.out NE67.out HB.out GE6.out GE7.out (.slice (some ad) (crays a1).length c_) (.int .u8 (cpar a1)) (.func (Fn.func (cno a1)) #[] #[]) (.int .i64 s_) (.int .i64 o_) (.int .i64 m_) (.int .i64 (-1)) W hW
       generalize hW_ : (((((((wv.setCell ⟨gb6, 0, none⟩ (.slice (some ad) (crays a1).length c_)).setCell ⟨gb6, 1, none⟩ (.int .u8 (cpar a1))).setCell ⟨gb6, 2, none⟩ (.func (Fn.func (cno a1)) #[] #[])).setCell ⟨gb7, 0, none⟩ (.int .i64 s_)).setCell ⟨gb7, 1, none⟩ (.int .i64 o_)).setCell ⟨gb7, 2, none⟩ (.int .i64 m_)).setCell ⟨gb7, 3, none⟩ (.int .i64 (-1))) = W
       obtain ⟨f6_, f7_, fb_⟩ := fin_ W hW_
       clear hW_ fin_
       have hd0 : W.cell? ⟨gb6, 0, none⟩ = some (.slice (some ad) (crays a1).length c_) := (blk_cell f6_ 0).trans rfl
       have hd1 : W.cell? ⟨gb6, 1, none⟩ = some (.int .u8 (cpar a1)) := (blk_cell f6_ 1).trans rfl
       have hd2 : W.cell? ⟨gb6, 2, none⟩ = some (.func (Fn.func (cno a1)) #[] #[]) := (blk_cell f6_ 2).trans rfl
       have he0 : W.cell? ⟨gb7, 0, none⟩ = some (.int .i64 s_) := (blk_cell f7_ 0).trans rfl
       have he1 : W.cell? ⟨gb7, 1, none⟩ = some (.int .i64 o_) := (blk_cell f7_ 1).trans rfl
       have he2 : W.cell? ⟨gb7, 2, none⟩ = some (.int .i64 m_) := (blk_cell f7_ 2).trans rfl
       have he3 : W.cell? ⟨gb7, 3, none⟩ = some (.int .i64 (-1)) := (blk_cell f7_ 3).trans rfl
       refine bodyPost_ret (v := .tuple #[.agg #[.slice (some ad) (crays a1).length c_, .int .u8 (cpar a1), .func (Fn.func (cno a1)) #[] #[]], .agg #[.int .i64 s_, .int .i64 o_, .int .i64 m_, .int .i64 (-1)], .int .i64 (0)]) ?_ rfl ⟨(some ad), (crays a1).length, c_, (cpar a1), .func (Fn.func (cno a1)) #[] #[], rfl, fun _ => (by unfold csig; rw [hcis]; rfl), .inr ⟨_, rfl⟩, fb_⟩
       simp [results, Try.results63, go_sem, hd0, hd1, hd2, he0, he1, he2, he3]
     ·rw [if_pos (.inr (.inr (.inr (by rw [sb]; decide))))] at H
      have HN := A0_ H
      clear H e4 e1 e2 e3
      go_wp2_with (first | (go_at_call 54; (with_reducible refine (word_Class.calls k a0 a2_0 c1 c2 _ Ac.out).mono ?_); rintro e wc ⟨rfl, hb⟩; have nb_ := A0_ (blk_below BK13.out hb); clear BK13; have BK13 := nb_; clear nb_; have n1_ := A0_ (below_step (qm_ HB.out) hb); clear HB; have HB := n1_; clear n1_;  clear hb) | (go_at_call 54; (with_reducible refine (word_Class.calls k a0 a2_1 l1 l2 _ Al.out).mono ?_); rintro e wd ⟨rfl, hb⟩; have nb_ := A0_ (blk_below BK13.out hb); clear BK13; have BK13 := nb_; clear nb_; have n1_ := A0_ (below_step (qm_ HB.out) hb); clear HB; have HB := n1_; clear n1_; have hcz13b_0 : wd.cell? ⟨gb13, 0, none⟩ = some (.bool true) := (blk_cell BK13.out 0).trans rfl; have hfz13b_0 := blk_frozen BK13.out 0; have hcz13b_1 : wd.cell? ⟨gb13, 1, none⟩ = some (.int .i64 f1) := (blk_cell BK13.out 1).trans rfl; have hfz13b_1 := blk_frozen BK13.out 1; have hcz13b_2 : wd.cell? ⟨gb13, 2, none⟩ = some (.bool true) := (blk_cell BK13.out 2).trans rfl; have hfz13b_2 := blk_frozen BK13.out 2; clear hb) | (go_at_call 87; (with_reducible refine (cuts_against.calls k a0 a2_1 f1 q _ Aq.out).mono ?_); rintro e we ⟨rfl, hb⟩; have nb_ := A0_ (blk_below BK13.out hb); clear BK13; have BK13 := nb_; clear nb_; have n1_ := A0_ (below_step (qm_ HB.out) hb); clear HB; have HB := n1_; clear n1_ hcz13b_0 hfz13b_0 hcz13b_1 hfz13b_1 hcz13b_2 hfz13b_2; have hcz13c_0 : we.cell? ⟨gb13, 0, none⟩ = some (.bool true) := (blk_cell BK13.out 0).trans rfl; have hfz13c_0 := blk_frozen BK13.out 0; have hcz13c_1 : we.cell? ⟨gb13, 1, none⟩ = some (.int .i64 f1) := (blk_cell BK13.out 1).trans rfl; have hfz13c_1 := blk_frozen BK13.out 1; have hcz13c_2 : we.cell? ⟨gb13, 2, none⟩ = some (.bool true) := (blk_cell BK13.out 2).trans rfl; have hfz13c_2 := blk_frozen BK13.out 2; clear hb))
      go_roundg ((crays a1).length - (i + 1))
      case measure => have := HK.out; have := HC8.out; omega
      case rel => exact ⟨i + 1, (congrArg (Value.int .i64) (by have := HC8.out; have := HLen.out; unfold wrap64; omega)), ⟨by have := HC8.out; omega⟩, ⟨rfl⟩, HN, ⟨Kd.R_below HO.out HB.out⟩, ⟨blk_below BK5O.out HB.out⟩, ⟨blk_below BK6.out HB.out⟩, ⟨blk_below BK7.out HB.out⟩, ⟨blk_below BK10.out HB.out⟩, ⟨below_step HBO.out HB.out⟩⟩
  ·have c8b : decide ((i : Int) < ((crays a1).length : Int)) = false := decide_eq_false (by omega)
   have H := HA.out
   rw [List.drop_eq_nil_of_le (by omega)] at H
   simp only [cuts_find.g, Option.some.injEq, Prod.mk.injEq] at H
   obtain ⟨rfl, rfl, rfl, rfl, rfl⟩ := H
   have hne67 := NE67.out
   have hne76 := Ne.symm NE67.out
   have hcz6_0 : wr.cell? ⟨gb6, 0, none⟩ = some (.slice none 0 0) := (blk_cell BK6.out 0).trans rfl
   have hfz6_0 := blk_frozen BK6.out 0
   have hcz6_1 : wr.cell? ⟨gb6, 1, none⟩ = some (.int .u8 0) := (blk_cell BK6.out 1).trans rfl
   have hfz6_1 := blk_frozen BK6.out 1
   have hcz6_2 : wr.cell? ⟨gb6, 2, none⟩ = some (.nilFunc) := (blk_cell BK6.out 2).trans rfl
   have hfz6_2 := blk_frozen BK6.out 2
   have hcz7_0 : wr.cell? ⟨gb7, 0, none⟩ = some (.int .i64 0) := (blk_cell BK7.out 0).trans rfl
   have hfz7_0 := blk_frozen BK7.out 0
   have hcz7_1 : wr.cell? ⟨gb7, 1, none⟩ = some (.int .i64 0) := (blk_cell BK7.out 1).trans rfl
   have hfz7_1 := blk_frozen BK7.out 1
   have hcz7_2 : wr.cell? ⟨gb7, 2, none⟩ = some (.int .i64 0) := (blk_cell BK7.out 2).trans rfl
   have hfz7_2 := blk_frozen BK7.out 2
   have hcz7_3 : wr.cell? ⟨gb7, 3, none⟩ = some (.int .i64 0) := (blk_cell BK7.out 3).trans rfl
   have hfz7_3 := blk_frozen BK7.out 3
   go_wp2
   have fin_ := fun W hW => set67 BK6.out BK7.out NE67.out HB.out GE6.out GE7.out (.slice none 0 0) (.int .u8 0) (.nilFunc) (.int .i64 0) (.int .i64 0) (.int .i64 0) (.int .i64 0) W hW
   generalize hW_ : (((((((wr.setCell ⟨gb6, 0, none⟩ (.slice none 0 0)).setCell ⟨gb6, 1, none⟩ (.int .u8 0)).setCell ⟨gb6, 2, none⟩ (.nilFunc)).setCell ⟨gb7, 0, none⟩ (.int .i64 0)).setCell ⟨gb7, 1, none⟩ (.int .i64 0)).setCell ⟨gb7, 2, none⟩ (.int .i64 0)).setCell ⟨gb7, 3, none⟩ (.int .i64 0)) = W
   obtain ⟨f6_, f7_, fb_⟩ := fin_ W hW_
   clear hW_ fin_
   have hd0 : W.cell? ⟨gb6, 0, none⟩ = some (.slice none 0 0) := (blk_cell f6_ 0).trans rfl
   have hd1 : W.cell? ⟨gb6, 1, none⟩ = some (.int .u8 0) := (blk_cell f6_ 1).trans rfl
   have hd2 : W.cell? ⟨gb6, 2, none⟩ = some (.nilFunc) := (blk_cell f6_ 2).trans rfl
   have he0 : W.cell? ⟨gb7, 0, none⟩ = some (.int .i64 0) := (blk_cell f7_ 0).trans rfl
   have he1 : W.cell? ⟨gb7, 1, none⟩ = some (.int .i64 0) := (blk_cell f7_ 1).trans rfl
   have he2 : W.cell? ⟨gb7, 2, none⟩ = some (.int .i64 0) := (blk_cell f7_ 2).trans rfl
   have he3 : W.cell? ⟨gb7, 3, none⟩ = some (.int .i64 0) := (blk_cell f7_ 3).trans rfl
   refine bodyPost_ret (v := .tuple #[.agg #[.slice none 0 0, .int .u8 0, .nilFunc], .agg #[.int .i64 0, .int .i64 0, .int .i64 0, .int .i64 0], .int .i64 (7)]) ?_ rfl ⟨none, 0, 0, 0, .nilFunc, rfl, fun h => absurd h (by decide), .inl rfl, fb_⟩
   simp [results, Try.results63, go_sem, hd0, hd1, hd2, he0, he1, he2, he3]
theorem cuts_find.calls (k : Nat) (a0 a1 a2_0 a2_1 s o m d er : Int) (w : World) (h : cuts_find.f k a0 a1 a2_0 a2_1 = some (s, o, m, d, er)) : Calls Try.prog 63 #[.int .u8 a0, .int .u8 a1, .agg #[.int .u64 a2_0, .int .u64 a2_1]] w fun e w' => cuts_find.post a1 s o m d er w e w' := by
 unfold cuts_find.f at h
 obtain ⟨e0, A1, h⟩ := Option.bind_eq_some_iff.mp h
 by_cases he : e0 = 0
 ·subst he
  rw [if_pos rfl] at h
  cases hcis : cis a1
  ·rw [hcis, if_neg (by decide)] at h
   simp only [Option.some.injEq, Prod.mk.injEq] at h
   obtain ⟨rfl, rfl, rfl, rfl, rfl⟩ := h
   exact cuts_find.t2 k a0 a1 a2_0 a2_1 w A1 hcis
  ·rw [hcis, if_pos rfl] at h
   exact cuts_find.t3 k a0 a1 a2_0 a2_1 s o m d er w A1 hcis h
 ·rw [if_neg he] at h
  simp only [Option.some.injEq, Prod.mk.injEq] at h
  obtain ⟨rfl, rfl, rfl, rfl, rfl⟩ := h
  exact cuts_find.t1 k a0 a1 a2_0 a2_1 e0 w A1 he
end Go.Proofs.Ytgaabjjenlbmhaa.PA
end
