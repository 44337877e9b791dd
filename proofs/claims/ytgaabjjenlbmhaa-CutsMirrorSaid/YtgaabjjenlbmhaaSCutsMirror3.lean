/- Steps of Go functions that the law CutsMirror uses, told as plain Lean functions, each with the proof that its call comes to what it tells; words on memory; plain facts. No condition beyond those that each text names. -/
import Derived.Test.YtgaabjjenlbmhaaProg
import Derived.WalkMore
import Derived.Below
import Derived.Deep.Draws
import Derived.Deep.AppendLies
import Derived.Maps.AppendAt
import Derived.OwnWalk
import Derived.Laws.BytesArg
import Derived.Laws.MakeOwn
import Derived.Laws.OwnMore
import Derived.Deep.OwnRows
import Derived.Tactics
import Derived.Lib.ConvBytes
import Derived.Laws.Slices
import Derived.WalkKit
import Derived.KernelRfl
import Derived.RowKit3
import Derived.Deep.LoopGhost
import Derived.Deep.QuietTactic
import Derived.BigQuiet
import Derived.WideLaws
import Derived.Deep.DeepCutAuto
import Derived.Deep.CutBlock
import Derived.Deep.RegionHeld3
import Derived.Laws.Rows
import Derived.Lib.AppendStr
import Derived.ArgAppend
import Derived.Laws.IdiomCopy
import Derived.OrdersHeld
import Derived.Laws.BitsLemmas
import Derived.RowKit
import Derived.Laws.StructEq
import Derived.Test.YtgaabjjenlbmhaaSCutsMirror0
import Derived.Test.YtgaabjjenlbmhaaSCutsMirror1
import Derived.Test.YtgaabjjenlbmhaaSCutsMirror2
section
namespace Go.Proofs.Ytgaabjjenlbmhaa.PA
open Go.RowKit Go.Proofs.YtgaabjjenlbmhaaW.PrintWords Go.Proofs.YtgaabjjenlbmhaaW.PrintLast Go.Proofs.YtgaabjjenlbmhaaW.PrintMore
attribute [local go_sem] max2_int min2_int max_two min_two max_three min_three max_four min_four   -- for this text's walks alone
set_option linter.unusedVariables false
set_option linter.unusedSimpArgs false
theorem run_store_func (P : Program) (w : World) (a : Addr) (m : Mode) (f : Fn) (x y) : (store a (.func f x y) m).run P w = stored P w a (.func f x y) m := run_store P w a _ m rfl
theorem run_store_nilFunc (P : Program) (w : World) (a : Addr) (m : Mode) : (store a .nilFunc m).run P w = stored P w a .nilFunc m := run_store P w a _ m rfl
attribute [local go_sem] run_store_func run_store_nilFunc
theorem ne94 : ∀ q, q ∈ 54 :: k54.E → q ≠ 94 := by
 intro q hq
 cases hq with
 | head => decide
 | tail _ h => cases h
/-- the table of the functions' cuts: their rays -/
def crays (fn : Int) : List S54 := if fn = 1 ∨ fn = 3 then [⟨false, 0, true⟩] else if fn = 10 ∨ fn = 15 ∨ fn = 11 then [⟨false, 1, false⟩, ⟨false, (-1), true⟩] else if fn = 12 ∨ fn = 13 then [⟨true, 1, false⟩, ⟨true, (-1), true⟩] else if fn = 14 then [⟨false, 1, true⟩] else []
def cis (fn : Int) : Bool := decide (1 ≤ fn ∧ fn ≤ 15)
def cpar (fn : Int) : Int := if fn = 4 ∨ fn = 6 ∨ fn = 7 ∨ fn = 9 ∨ fn = 10 ∨ fn = 15 ∨ fn = 12 ∨ fn = 13 then 1 else if fn = 5 ∨ fn = 8 then 2 else 0
/-- which function tells the signs -/
def cno (fn : Int) : Nat := if fn = 1 then 92 else if fn = 3 then 93 else if fn = 11 then 95 else if fn = 12 ∨ fn = 13 then 91 else if fn = 14 then 96 else 90
def csig (fn : Int) : Value := if cis fn then .func (Fn.func (cno fn)) #[] #[] else .nilFunc
def cuts_table.post (a0 : Int) (w : World) (e : Ending) (w' : World) : Prop := ∃ v0_ : Value, e = .returned (.tuple #[.agg #[v0_, .int .u8 (cpar a0), csig a0], .bool (cis a0)]) ∧ Kd.R k54 54 w' w.heap.size (fun _ => True) v0_ (crays a0) ∧ Below w.heap.size w w'
set_option maxHeartbeats 2000000 in
set_option maxRecDepth 100000 in
theorem cuts_table.at1 (a0 : Int) (h : a0 = 1) (w : World) : Calls Try.prog 68 #[.int .u8 a0] w fun e w' => cuts_table.post a0 w e w' := by
 have hu54 := Try.underlying54
 have HB := A0_ (Below.refl w.heap.size w)
 subst h
 go_enter Try.func68, Try.ntmps68
 go_wp2_with (first | ((with_reducible refine gate_dst (N := 2) rfl ?_); refine box_event ?hg (N := 2) ?hd (cs := #[.slice none 0 0, .int .u8 0, .nilFunc]) (t := 94) ?hr ?_; (case hd => rfl); (case hg => rfl); (case hr => first | (go_simp; done) | (go_simp; rfl)); intro gb2 hg w2 hbox hb;  have n0_ := A0_ (below_step (qm_ HB.out) hb); have n1_ := A0_ hbox; have n2_ := A0_ ((by rw [hg]; exact (below_size (qm_ HB.out))) : w.heap.size ≤ gb2); clear HB; have HB := n0_; have BK2 := n1_; have GE2 := n2_; clear n0_ n1_ n2_ hb hbox hg) | ((with_reducible refine gate_dst (N := 8) rfl ?_); refine Kd.R_lit k54 _ 54 ?hg (N := 8) ?hd (xs := ([(⟨false, 0, true⟩ : S54)] : List S54)) (inner := [.bool false, .int .i64 0, .bool true]) (ok := fun _ => True) (okp := fun _ => True) ?hr ?hp (fun _ hk => hk) trivial (Below.refl _ _) (Nat.le_refl _) (by simp) ?_; (case hd => rfl); (case hg => rfl); (case hr => first | (go_simp; done) | (go_simp; rfl)); (case hp => exact (Reps.c3 (show Kd.M k54 _ _ _ (⟨false, 0, true⟩ : S54) [.bool false, .int .i64 0, .bool true] from (k54_mkM _ _ _ (⟨false, 0, true⟩ : S54) )) (Reps.none _ _))); intro v_ w8 ho3 hb hg_ hnew_; obtain ⟨ad_, cc_, rfl⟩ := (show ∃ (ad : Addr) (c : Nat), v_ = .slice (some ad) 1 c from Kd.R_slice1 ho3 (by simp)); clear hg_ hnew_; have nb_ := A0_ (blk_below BK2.out hb); clear BK2; have BK2 := nb_; clear nb_; have n0_ := A0_ (Kd.R_lower ho3 (below_size (qm_ HB.out))); have n1_ := A0_ (below_step (qm_ HB.out) hb); clear HB; have HO8 := n0_; have HB := n1_; clear n0_ n1_ hb ho3; have hcza_0 : w8.cell? ⟨gb2, 0, none⟩ = some (.slice none 0 0) := (blk_cell BK2.out 0).trans rfl; have hfza_0 := blk_frozen BK2.out 0; have hcza_1 : w8.cell? ⟨gb2, 1, none⟩ = some (.int .u8 0) := (blk_cell BK2.out 1).trans rfl; have hfza_1 := blk_frozen BK2.out 1; have hcza_2 : w8.cell? ⟨gb2, 2, none⟩ = some (.nilFunc) := (blk_cell BK2.out 2).trans rfl; have hfza_2 := blk_frozen BK2.out 2;))
 refine bodyPost_ret (v := .tuple #[.agg #[.slice (some ad_) 1 cc_, .int .u8 0, .func (Fn.func 92) #[] #[]], .bool true]) ?_ rfl ⟨.slice (some ad_) 1 cc_, ?_, ?_, ?_⟩
 ·have BKf := blk_set (blk_set (blk_set BK2.out 0 (.slice (some ad_) 1 cc_)) 1 (.int .u8 0)) 2 (.func (Fn.func 92) #[] #[])
  generalize ((w8.setCell ⟨gb2, 0, none⟩ (.slice (some ad_) 1 cc_)).setCell ⟨gb2, 1, none⟩ (.int .u8 0)).setCell ⟨gb2, 2, none⟩ (.func (Fn.func 92) #[] #[]) = W at BKf ⊢
  have hc0 : W.cell? ⟨gb2, 0, none⟩ = some (.slice (some ad_) 1 cc_) := (blk_cell BKf 0).trans rfl
  have hc1 : W.cell? ⟨gb2, 1, none⟩ = some (.int .u8 0) := (blk_cell BKf 1).trans rfl
  have hc2 : W.cell? ⟨gb2, 2, none⟩ = some (.func (Fn.func 92) #[] #[]) := (blk_cell BKf 2).trans rfl
  simp [results, Try.results68, go_sem, hc0, hc1, hc2]
 ·rfl
 ·exact Kd.R_set (Kd.R_set (Kd.R_set HO8.out BK2.out ne94 0 _) (blk_set BK2.out 0 _) ne94 1 _) (blk_set (blk_set BK2.out 0 _) 1 _) ne94 2 _
 ·exact below_set (below_set (below_set HB.out GE2.out) GE2.out) GE2.out
set_option maxHeartbeats 2000000 in
set_option maxRecDepth 100000 in
theorem cuts_table.at2 (a0 : Int) (h : a0 = 2) (w : World) : Calls Try.prog 68 #[.int .u8 a0] w fun e w' => cuts_table.post a0 w e w' := by
 have hu54 := Try.underlying54
 have HB := A0_ (Below.refl w.heap.size w)
 subst h
 go_enter Try.func68, Try.ntmps68
 go_wp2_with (first | ((with_reducible refine gate_dst (N := 2) rfl ?_); refine box_event ?hg (N := 2) ?hd (cs := #[.slice none 0 0, .int .u8 0, .nilFunc]) (t := 94) ?hr ?_; (case hd => rfl); (case hg => rfl); (case hr => first | (go_simp; done) | (go_simp; rfl)); intro gb2 hg w2 hbox hb;  have n0_ := A0_ (below_step (qm_ HB.out) hb); have n1_ := A0_ hbox; have n2_ := A0_ ((by rw [hg]; exact (below_size (qm_ HB.out))) : w.heap.size ≤ gb2); clear HB; have HB := n0_; have BK2 := n1_; have GE2 := n2_; clear n0_ n1_ n2_ hb hbox hg) | ((with_reducible refine gate_dst (N := 8) rfl ?_); refine Kd.R_lit k54 _ 54 ?hg (N := 8) ?hd (xs := ([(⟨false, 0, true⟩ : S54)] : List S54)) (inner := [.bool false, .int .i64 0, .bool true]) (ok := fun _ => True) (okp := fun _ => True) ?hr ?hp (fun _ hk => hk) trivial (Below.refl _ _) (Nat.le_refl _) (by simp) ?_; (case hd => rfl); (case hg => rfl); (case hr => first | (go_simp; done) | (go_simp; rfl)); (case hp => exact (Reps.c3 (show Kd.M k54 _ _ _ (⟨false, 0, true⟩ : S54) [.bool false, .int .i64 0, .bool true] from (k54_mkM _ _ _ (⟨false, 0, true⟩ : S54) )) (Reps.none _ _))); intro v_ w8 ho3 hb hg_ hnew_; obtain ⟨ad_, cc_, rfl⟩ := (show ∃ (ad : Addr) (c : Nat), v_ = .slice (some ad) 1 c from Kd.R_slice1 ho3 (by simp)); clear hg_ hnew_; have nb_ := A0_ (blk_below BK2.out hb); clear BK2; have BK2 := nb_; clear nb_; have n0_ := A0_ (Kd.R_lower ho3 (below_size (qm_ HB.out))); have n1_ := A0_ (below_step (qm_ HB.out) hb); clear HB; have HO8 := n0_; have HB := n1_; clear n0_ n1_ hb ho3; have hcza_0 : w8.cell? ⟨gb2, 0, none⟩ = some (.slice none 0 0) := (blk_cell BK2.out 0).trans rfl; have hfza_0 := blk_frozen BK2.out 0; have hcza_1 : w8.cell? ⟨gb2, 1, none⟩ = some (.int .u8 0) := (blk_cell BK2.out 1).trans rfl; have hfza_1 := blk_frozen BK2.out 1; have hcza_2 : w8.cell? ⟨gb2, 2, none⟩ = some (.nilFunc) := (blk_cell BK2.out 2).trans rfl; have hfza_2 := blk_frozen BK2.out 2;))
 refine bodyPost_ret (v := .tuple #[.agg #[.slice none 0 0, .int .u8 0, .func (Fn.func 90) #[] #[]], .bool true]) ?_ rfl ⟨.slice none 0 0, ?_, ?_, ?_⟩
 ·have BKf := blk_set (blk_set (blk_set BK2.out 0 (.slice none 0 0)) 1 (.int .u8 0)) 2 (.func (Fn.func 90) #[] #[])
  generalize ((w8.setCell ⟨gb2, 0, none⟩ (.slice none 0 0)).setCell ⟨gb2, 1, none⟩ (.int .u8 0)).setCell ⟨gb2, 2, none⟩ (.func (Fn.func 90) #[] #[]) = W at BKf ⊢
  have hc0 : W.cell? ⟨gb2, 0, none⟩ = some (.slice none 0 0) := (blk_cell BKf 0).trans rfl
  have hc1 : W.cell? ⟨gb2, 1, none⟩ = some (.int .u8 0) := (blk_cell BKf 1).trans rfl
  have hc2 : W.cell? ⟨gb2, 2, none⟩ = some (.func (Fn.func 90) #[] #[]) := (blk_cell BKf 2).trans rfl
  simp [results, Try.results68, go_sem, hc0, hc1, hc2]
 ·rfl
 ·exact Kd.R_nil _ _ _ _ _
 ·exact below_set (below_set (below_set HB.out GE2.out) GE2.out) GE2.out
set_option maxHeartbeats 2000000 in
set_option maxRecDepth 100000 in
theorem cuts_table.at3 (a0 : Int) (h : a0 = 3) (w : World) : Calls Try.prog 68 #[.int .u8 a0] w fun e w' => cuts_table.post a0 w e w' := by
 have hu54 := Try.underlying54
 have HB := A0_ (Below.refl w.heap.size w)
 subst h
 go_enter Try.func68, Try.ntmps68
 go_wp2_with (first | ((with_reducible refine gate_dst (N := 2) rfl ?_); refine box_event ?hg (N := 2) ?hd (cs := #[.slice none 0 0, .int .u8 0, .nilFunc]) (t := 94) ?hr ?_; (case hd => rfl); (case hg => rfl); (case hr => first | (go_simp; done) | (go_simp; rfl)); intro gb2 hg w2 hbox hb;  have n0_ := A0_ (below_step (qm_ HB.out) hb); have n1_ := A0_ hbox; have n2_ := A0_ ((by rw [hg]; exact (below_size (qm_ HB.out))) : w.heap.size ≤ gb2); clear HB; have HB := n0_; have BK2 := n1_; have GE2 := n2_; clear n0_ n1_ n2_ hb hbox hg) | ((with_reducible refine gate_dst (N := 8) rfl ?_); refine Kd.R_lit k54 _ 54 ?hg (N := 8) ?hd (xs := ([(⟨false, 0, true⟩ : S54)] : List S54)) (inner := [.bool false, .int .i64 0, .bool true]) (ok := fun _ => True) (okp := fun _ => True) ?hr ?hp (fun _ hk => hk) trivial (Below.refl _ _) (Nat.le_refl _) (by simp) ?_; (case hd => rfl); (case hg => rfl); (case hr => first | (go_simp; done) | (go_simp; rfl)); (case hp => exact (Reps.c3 (show Kd.M k54 _ _ _ (⟨false, 0, true⟩ : S54) [.bool false, .int .i64 0, .bool true] from (k54_mkM _ _ _ (⟨false, 0, true⟩ : S54) )) (Reps.none _ _))); intro v_ w8 ho3 hb hg_ hnew_; obtain ⟨ad_, cc_, rfl⟩ := (show ∃ (ad : Addr) (c : Nat), v_ = .slice (some ad) 1 c from Kd.R_slice1 ho3 (by simp)); clear hg_ hnew_; have nb_ := A0_ (blk_below BK2.out hb); clear BK2; have BK2 := nb_; clear nb_; have n0_ := A0_ (Kd.R_lower ho3 (below_size (qm_ HB.out))); have n1_ := A0_ (below_step (qm_ HB.out) hb); clear HB; have HO8 := n0_; have HB := n1_; clear n0_ n1_ hb ho3; have hcza_0 : w8.cell? ⟨gb2, 0, none⟩ = some (.slice none 0 0) := (blk_cell BK2.out 0).trans rfl; have hfza_0 := blk_frozen BK2.out 0; have hcza_1 : w8.cell? ⟨gb2, 1, none⟩ = some (.int .u8 0) := (blk_cell BK2.out 1).trans rfl; have hfza_1 := blk_frozen BK2.out 1; have hcza_2 : w8.cell? ⟨gb2, 2, none⟩ = some (.nilFunc) := (blk_cell BK2.out 2).trans rfl; have hfza_2 := blk_frozen BK2.out 2;))
 refine bodyPost_ret (v := .tuple #[.agg #[.slice (some ad_) 1 cc_, .int .u8 0, .func (Fn.func 93) #[] #[]], .bool true]) ?_ rfl ⟨.slice (some ad_) 1 cc_, ?_, ?_, ?_⟩
 ·have BKf := blk_set (blk_set (blk_set BK2.out 0 (.slice (some ad_) 1 cc_)) 1 (.int .u8 0)) 2 (.func (Fn.func 93) #[] #[])
  generalize ((w8.setCell ⟨gb2, 0, none⟩ (.slice (some ad_) 1 cc_)).setCell ⟨gb2, 1, none⟩ (.int .u8 0)).setCell ⟨gb2, 2, none⟩ (.func (Fn.func 93) #[] #[]) = W at BKf ⊢
  have hc0 : W.cell? ⟨gb2, 0, none⟩ = some (.slice (some ad_) 1 cc_) := (blk_cell BKf 0).trans rfl
  have hc1 : W.cell? ⟨gb2, 1, none⟩ = some (.int .u8 0) := (blk_cell BKf 1).trans rfl
  have hc2 : W.cell? ⟨gb2, 2, none⟩ = some (.func (Fn.func 93) #[] #[]) := (blk_cell BKf 2).trans rfl
  simp [results, Try.results68, go_sem, hc0, hc1, hc2]
 ·rfl
 ·exact Kd.R_set (Kd.R_set (Kd.R_set HO8.out BK2.out ne94 0 _) (blk_set BK2.out 0 _) ne94 1 _) (blk_set (blk_set BK2.out 0 _) 1 _) ne94 2 _
 ·exact below_set (below_set (below_set HB.out GE2.out) GE2.out) GE2.out
set_option maxHeartbeats 2000000 in
set_option maxRecDepth 100000 in
theorem cuts_table.at4 (a0 : Int) (h : a0 = 4) (w : World) : Calls Try.prog 68 #[.int .u8 a0] w fun e w' => cuts_table.post a0 w e w' := by
 have hu54 := Try.underlying54
 have HB := A0_ (Below.refl w.heap.size w)
 subst h
 go_enter Try.func68, Try.ntmps68
 go_wp2_with (first | ((with_reducible refine gate_dst (N := 2) rfl ?_); refine box_event ?hg (N := 2) ?hd (cs := #[.slice none 0 0, .int .u8 0, .nilFunc]) (t := 94) ?hr ?_; (case hd => rfl); (case hg => rfl); (case hr => first | (go_simp; done) | (go_simp; rfl)); intro gb2 hg w2 hbox hb;  have n0_ := A0_ (below_step (qm_ HB.out) hb); have n1_ := A0_ hbox; have n2_ := A0_ ((by rw [hg]; exact (below_size (qm_ HB.out))) : w.heap.size ≤ gb2); clear HB; have HB := n0_; have BK2 := n1_; have GE2 := n2_; clear n0_ n1_ n2_ hb hbox hg) | ((with_reducible refine gate_dst (N := 8) rfl ?_); refine Kd.R_lit k54 _ 54 ?hg (N := 8) ?hd (xs := ([(⟨false, 0, true⟩ : S54)] : List S54)) (inner := [.bool false, .int .i64 0, .bool true]) (ok := fun _ => True) (okp := fun _ => True) ?hr ?hp (fun _ hk => hk) trivial (Below.refl _ _) (Nat.le_refl _) (by simp) ?_; (case hd => rfl); (case hg => rfl); (case hr => first | (go_simp; done) | (go_simp; rfl)); (case hp => exact (Reps.c3 (show Kd.M k54 _ _ _ (⟨false, 0, true⟩ : S54) [.bool false, .int .i64 0, .bool true] from (k54_mkM _ _ _ (⟨false, 0, true⟩ : S54) )) (Reps.none _ _))); intro v_ w8 ho3 hb hg_ hnew_; obtain ⟨ad_, cc_, rfl⟩ := (show ∃ (ad : Addr) (c : Nat), v_ = .slice (some ad) 1 c from Kd.R_slice1 ho3 (by simp)); clear hg_ hnew_; have nb_ := A0_ (blk_below BK2.out hb); clear BK2; have BK2 := nb_; clear nb_; have n0_ := A0_ (Kd.R_lower ho3 (below_size (qm_ HB.out))); have n1_ := A0_ (below_step (qm_ HB.out) hb); clear HB; have HO8 := n0_; have HB := n1_; clear n0_ n1_ hb ho3; have hcza_0 : w8.cell? ⟨gb2, 0, none⟩ = some (.slice none 0 0) := (blk_cell BK2.out 0).trans rfl; have hfza_0 := blk_frozen BK2.out 0; have hcza_1 : w8.cell? ⟨gb2, 1, none⟩ = some (.int .u8 0) := (blk_cell BK2.out 1).trans rfl; have hfza_1 := blk_frozen BK2.out 1; have hcza_2 : w8.cell? ⟨gb2, 2, none⟩ = some (.nilFunc) := (blk_cell BK2.out 2).trans rfl; have hfza_2 := blk_frozen BK2.out 2;))
 refine bodyPost_ret (v := .tuple #[.agg #[.slice none 0 0, .int .u8 1, .func (Fn.func 90) #[] #[]], .bool true]) ?_ rfl ⟨.slice none 0 0, ?_, ?_, ?_⟩
 ·have BKf := blk_set (blk_set (blk_set BK2.out 0 (.slice none 0 0)) 1 (.int .u8 1)) 2 (.func (Fn.func 90) #[] #[])
  generalize ((w8.setCell ⟨gb2, 0, none⟩ (.slice none 0 0)).setCell ⟨gb2, 1, none⟩ (.int .u8 1)).setCell ⟨gb2, 2, none⟩ (.func (Fn.func 90) #[] #[]) = W at BKf ⊢
  have hc0 : W.cell? ⟨gb2, 0, none⟩ = some (.slice none 0 0) := (blk_cell BKf 0).trans rfl
  have hc1 : W.cell? ⟨gb2, 1, none⟩ = some (.int .u8 1) := (blk_cell BKf 1).trans rfl
  have hc2 : W.cell? ⟨gb2, 2, none⟩ = some (.func (Fn.func 90) #[] #[]) := (blk_cell BKf 2).trans rfl
  simp [results, Try.results68, go_sem, hc0, hc1, hc2]
 ·rfl
 ·exact Kd.R_nil _ _ _ _ _
 ·exact below_set (below_set (below_set HB.out GE2.out) GE2.out) GE2.out
set_option maxHeartbeats 2000000 in
set_option maxRecDepth 100000 in
theorem cuts_table.at5 (a0 : Int) (h : a0 = 5) (w : World) : Calls Try.prog 68 #[.int .u8 a0] w fun e w' => cuts_table.post a0 w e w' := by
 have hu54 := Try.underlying54
 have HB := A0_ (Below.refl w.heap.size w)
 subst h
 go_enter Try.func68, Try.ntmps68
 go_wp2_with (first | ((with_reducible refine gate_dst (N := 2) rfl ?_); refine box_event ?hg (N := 2) ?hd (cs := #[.slice none 0 0, .int .u8 0, .nilFunc]) (t := 94) ?hr ?_; (case hd => rfl); (case hg => rfl); (case hr => first | (go_simp; done) | (go_simp; rfl)); intro gb2 hg w2 hbox hb;  have n0_ := A0_ (below_step (qm_ HB.out) hb); have n1_ := A0_ hbox; have n2_ := A0_ ((by rw [hg]; exact (below_size (qm_ HB.out))) : w.heap.size ≤ gb2); clear HB; have HB := n0_; have BK2 := n1_; have GE2 := n2_; clear n0_ n1_ n2_ hb hbox hg) | ((with_reducible refine gate_dst (N := 8) rfl ?_); refine Kd.R_lit k54 _ 54 ?hg (N := 8) ?hd (xs := ([(⟨false, 0, true⟩ : S54)] : List S54)) (inner := [.bool false, .int .i64 0, .bool true]) (ok := fun _ => True) (okp := fun _ => True) ?hr ?hp (fun _ hk => hk) trivial (Below.refl _ _) (Nat.le_refl _) (by simp) ?_; (case hd => rfl); (case hg => rfl); (case hr => first | (go_simp; done) | (go_simp; rfl)); (case hp => exact (Reps.c3 (show Kd.M k54 _ _ _ (⟨false, 0, true⟩ : S54) [.bool false, .int .i64 0, .bool true] from (k54_mkM _ _ _ (⟨false, 0, true⟩ : S54) )) (Reps.none _ _))); intro v_ w8 ho3 hb hg_ hnew_; obtain ⟨ad_, cc_, rfl⟩ := (show ∃ (ad : Addr) (c : Nat), v_ = .slice (some ad) 1 c from Kd.R_slice1 ho3 (by simp)); clear hg_ hnew_; have nb_ := A0_ (blk_below BK2.out hb); clear BK2; have BK2 := nb_; clear nb_; have n0_ := A0_ (Kd.R_lower ho3 (below_size (qm_ HB.out))); have n1_ := A0_ (below_step (qm_ HB.out) hb); clear HB; have HO8 := n0_; have HB := n1_; clear n0_ n1_ hb ho3; have hcza_0 : w8.cell? ⟨gb2, 0, none⟩ = some (.slice none 0 0) := (blk_cell BK2.out 0).trans rfl; have hfza_0 := blk_frozen BK2.out 0; have hcza_1 : w8.cell? ⟨gb2, 1, none⟩ = some (.int .u8 0) := (blk_cell BK2.out 1).trans rfl; have hfza_1 := blk_frozen BK2.out 1; have hcza_2 : w8.cell? ⟨gb2, 2, none⟩ = some (.nilFunc) := (blk_cell BK2.out 2).trans rfl; have hfza_2 := blk_frozen BK2.out 2;))
 refine bodyPost_ret (v := .tuple #[.agg #[.slice none 0 0, .int .u8 2, .func (Fn.func 90) #[] #[]], .bool true]) ?_ rfl ⟨.slice none 0 0, ?_, ?_, ?_⟩
 ·have BKf := blk_set (blk_set (blk_set BK2.out 0 (.slice none 0 0)) 1 (.int .u8 2)) 2 (.func (Fn.func 90) #[] #[])
  generalize ((w8.setCell ⟨gb2, 0, none⟩ (.slice none 0 0)).setCell ⟨gb2, 1, none⟩ (.int .u8 2)).setCell ⟨gb2, 2, none⟩ (.func (Fn.func 90) #[] #[]) = W at BKf ⊢
  have hc0 : W.cell? ⟨gb2, 0, none⟩ = some (.slice none 0 0) := (blk_cell BKf 0).trans rfl
  have hc1 : W.cell? ⟨gb2, 1, none⟩ = some (.int .u8 2) := (blk_cell BKf 1).trans rfl
  have hc2 : W.cell? ⟨gb2, 2, none⟩ = some (.func (Fn.func 90) #[] #[]) := (blk_cell BKf 2).trans rfl
  simp [results, Try.results68, go_sem, hc0, hc1, hc2]
 ·rfl
 ·exact Kd.R_nil _ _ _ _ _
 ·exact below_set (below_set (below_set HB.out GE2.out) GE2.out) GE2.out
set_option maxHeartbeats 2000000 in
set_option maxRecDepth 100000 in
theorem cuts_table.at6 (a0 : Int) (h : a0 = 6) (w : World) : Calls Try.prog 68 #[.int .u8 a0] w fun e w' => cuts_table.post a0 w e w' := by
 have hu54 := Try.underlying54
 have HB := A0_ (Below.refl w.heap.size w)
 subst h
 go_enter Try.func68, Try.ntmps68
 go_wp2_with (first | ((with_reducible refine gate_dst (N := 2) rfl ?_); refine box_event ?hg (N := 2) ?hd (cs := #[.slice none 0 0, .int .u8 0, .nilFunc]) (t := 94) ?hr ?_; (case hd => rfl); (case hg => rfl); (case hr => first | (go_simp; done) | (go_simp; rfl)); intro gb2 hg w2 hbox hb;  have n0_ := A0_ (below_step (qm_ HB.out) hb); have n1_ := A0_ hbox; have n2_ := A0_ ((by rw [hg]; exact (below_size (qm_ HB.out))) : w.heap.size ≤ gb2); clear HB; have HB := n0_; have BK2 := n1_; have GE2 := n2_; clear n0_ n1_ n2_ hb hbox hg) | ((with_reducible refine gate_dst (N := 8) rfl ?_); refine Kd.R_lit k54 _ 54 ?hg (N := 8) ?hd (xs := ([(⟨false, 0, true⟩ : S54)] : List S54)) (inner := [.bool false, .int .i64 0, .bool true]) (ok := fun _ => True) (okp := fun _ => True) ?hr ?hp (fun _ hk => hk) trivial (Below.refl _ _) (Nat.le_refl _) (by simp) ?_; (case hd => rfl); (case hg => rfl); (case hr => first | (go_simp; done) | (go_simp; rfl)); (case hp => exact (Reps.c3 (show Kd.M k54 _ _ _ (⟨false, 0, true⟩ : S54) [.bool false, .int .i64 0, .bool true] from (k54_mkM _ _ _ (⟨false, 0, true⟩ : S54) )) (Reps.none _ _))); intro v_ w8 ho3 hb hg_ hnew_; obtain ⟨ad_, cc_, rfl⟩ := (show ∃ (ad : Addr) (c : Nat), v_ = .slice (some ad) 1 c from Kd.R_slice1 ho3 (by simp)); clear hg_ hnew_; have nb_ := A0_ (blk_below BK2.out hb); clear BK2; have BK2 := nb_; clear nb_; have n0_ := A0_ (Kd.R_lower ho3 (below_size (qm_ HB.out))); have n1_ := A0_ (below_step (qm_ HB.out) hb); clear HB; have HO8 := n0_; have HB := n1_; clear n0_ n1_ hb ho3; have hcza_0 : w8.cell? ⟨gb2, 0, none⟩ = some (.slice none 0 0) := (blk_cell BK2.out 0).trans rfl; have hfza_0 := blk_frozen BK2.out 0; have hcza_1 : w8.cell? ⟨gb2, 1, none⟩ = some (.int .u8 0) := (blk_cell BK2.out 1).trans rfl; have hfza_1 := blk_frozen BK2.out 1; have hcza_2 : w8.cell? ⟨gb2, 2, none⟩ = some (.nilFunc) := (blk_cell BK2.out 2).trans rfl; have hfza_2 := blk_frozen BK2.out 2;))
 refine bodyPost_ret (v := .tuple #[.agg #[.slice none 0 0, .int .u8 1, .func (Fn.func 90) #[] #[]], .bool true]) ?_ rfl ⟨.slice none 0 0, ?_, ?_, ?_⟩
 ·have BKf := blk_set (blk_set (blk_set BK2.out 0 (.slice none 0 0)) 1 (.int .u8 1)) 2 (.func (Fn.func 90) #[] #[])
  generalize ((w8.setCell ⟨gb2, 0, none⟩ (.slice none 0 0)).setCell ⟨gb2, 1, none⟩ (.int .u8 1)).setCell ⟨gb2, 2, none⟩ (.func (Fn.func 90) #[] #[]) = W at BKf ⊢
  have hc0 : W.cell? ⟨gb2, 0, none⟩ = some (.slice none 0 0) := (blk_cell BKf 0).trans rfl
  have hc1 : W.cell? ⟨gb2, 1, none⟩ = some (.int .u8 1) := (blk_cell BKf 1).trans rfl
  have hc2 : W.cell? ⟨gb2, 2, none⟩ = some (.func (Fn.func 90) #[] #[]) := (blk_cell BKf 2).trans rfl
  simp [results, Try.results68, go_sem, hc0, hc1, hc2]
 ·rfl
 ·exact Kd.R_nil _ _ _ _ _
 ·exact below_set (below_set (below_set HB.out GE2.out) GE2.out) GE2.out
set_option maxHeartbeats 2000000 in
set_option maxRecDepth 100000 in
theorem cuts_table.at7 (a0 : Int) (h : a0 = 7) (w : World) : Calls Try.prog 68 #[.int .u8 a0] w fun e w' => cuts_table.post a0 w e w' := by
 have hu54 := Try.underlying54
 have HB := A0_ (Below.refl w.heap.size w)
 subst h
 go_enter Try.func68, Try.ntmps68
 go_wp2_with (first | ((with_reducible refine gate_dst (N := 2) rfl ?_); refine box_event ?hg (N := 2) ?hd (cs := #[.slice none 0 0, .int .u8 0, .nilFunc]) (t := 94) ?hr ?_; (case hd => rfl); (case hg => rfl); (case hr => first | (go_simp; done) | (go_simp; rfl)); intro gb2 hg w2 hbox hb;  have n0_ := A0_ (below_step (qm_ HB.out) hb); have n1_ := A0_ hbox; have n2_ := A0_ ((by rw [hg]; exact (below_size (qm_ HB.out))) : w.heap.size ≤ gb2); clear HB; have HB := n0_; have BK2 := n1_; have GE2 := n2_; clear n0_ n1_ n2_ hb hbox hg) | ((with_reducible refine gate_dst (N := 8) rfl ?_); refine Kd.R_lit k54 _ 54 ?hg (N := 8) ?hd (xs := ([(⟨false, 0, true⟩ : S54)] : List S54)) (inner := [.bool false, .int .i64 0, .bool true]) (ok := fun _ => True) (okp := fun _ => True) ?hr ?hp (fun _ hk => hk) trivial (Below.refl _ _) (Nat.le_refl _) (by simp) ?_; (case hd => rfl); (case hg => rfl); (case hr => first | (go_simp; done) | (go_simp; rfl)); (case hp => exact (Reps.c3 (show Kd.M k54 _ _ _ (⟨false, 0, true⟩ : S54) [.bool false, .int .i64 0, .bool true] from (k54_mkM _ _ _ (⟨false, 0, true⟩ : S54) )) (Reps.none _ _))); intro v_ w8 ho3 hb hg_ hnew_; obtain ⟨ad_, cc_, rfl⟩ := (show ∃ (ad : Addr) (c : Nat), v_ = .slice (some ad) 1 c from Kd.R_slice1 ho3 (by simp)); clear hg_ hnew_; have nb_ := A0_ (blk_below BK2.out hb); clear BK2; have BK2 := nb_; clear nb_; have n0_ := A0_ (Kd.R_lower ho3 (below_size (qm_ HB.out))); have n1_ := A0_ (below_step (qm_ HB.out) hb); clear HB; have HO8 := n0_; have HB := n1_; clear n0_ n1_ hb ho3; have hcza_0 : w8.cell? ⟨gb2, 0, none⟩ = some (.slice none 0 0) := (blk_cell BK2.out 0).trans rfl; have hfza_0 := blk_frozen BK2.out 0; have hcza_1 : w8.cell? ⟨gb2, 1, none⟩ = some (.int .u8 0) := (blk_cell BK2.out 1).trans rfl; have hfza_1 := blk_frozen BK2.out 1; have hcza_2 : w8.cell? ⟨gb2, 2, none⟩ = some (.nilFunc) := (blk_cell BK2.out 2).trans rfl; have hfza_2 := blk_frozen BK2.out 2;))
 refine bodyPost_ret (v := .tuple #[.agg #[.slice none 0 0, .int .u8 1, .func (Fn.func 90) #[] #[]], .bool true]) ?_ rfl ⟨.slice none 0 0, ?_, ?_, ?_⟩
 ·have BKf := blk_set (blk_set (blk_set BK2.out 0 (.slice none 0 0)) 1 (.int .u8 1)) 2 (.func (Fn.func 90) #[] #[])
  generalize ((w8.setCell ⟨gb2, 0, none⟩ (.slice none 0 0)).setCell ⟨gb2, 1, none⟩ (.int .u8 1)).setCell ⟨gb2, 2, none⟩ (.func (Fn.func 90) #[] #[]) = W at BKf ⊢
  have hc0 : W.cell? ⟨gb2, 0, none⟩ = some (.slice none 0 0) := (blk_cell BKf 0).trans rfl
  have hc1 : W.cell? ⟨gb2, 1, none⟩ = some (.int .u8 1) := (blk_cell BKf 1).trans rfl
  have hc2 : W.cell? ⟨gb2, 2, none⟩ = some (.func (Fn.func 90) #[] #[]) := (blk_cell BKf 2).trans rfl
  simp [results, Try.results68, go_sem, hc0, hc1, hc2]
 ·rfl
 ·exact Kd.R_nil _ _ _ _ _
 ·exact below_set (below_set (below_set HB.out GE2.out) GE2.out) GE2.out
set_option maxHeartbeats 2000000 in
set_option maxRecDepth 100000 in
theorem cuts_table.at8 (a0 : Int) (h : a0 = 8) (w : World) : Calls Try.prog 68 #[.int .u8 a0] w fun e w' => cuts_table.post a0 w e w' := by
 have hu54 := Try.underlying54
 have HB := A0_ (Below.refl w.heap.size w)
 subst h
 go_enter Try.func68, Try.ntmps68
 go_wp2_with (first | ((with_reducible refine gate_dst (N := 2) rfl ?_); refine box_event ?hg (N := 2) ?hd (cs := #[.slice none 0 0, .int .u8 0, .nilFunc]) (t := 94) ?hr ?_; (case hd => rfl); (case hg => rfl); (case hr => first | (go_simp; done) | (go_simp; rfl)); intro gb2 hg w2 hbox hb;  have n0_ := A0_ (below_step (qm_ HB.out) hb); have n1_ := A0_ hbox; have n2_ := A0_ ((by rw [hg]; exact (below_size (qm_ HB.out))) : w.heap.size ≤ gb2); clear HB; have HB := n0_; have BK2 := n1_; have GE2 := n2_; clear n0_ n1_ n2_ hb hbox hg) | ((with_reducible refine gate_dst (N := 8) rfl ?_); refine Kd.R_lit k54 _ 54 ?hg (N := 8) ?hd (xs := ([(⟨false, 0, true⟩ : S54)] : List S54)) (inner := [.bool false, .int .i64 0, .bool true]) (ok := fun _ => True) (okp := fun _ => True) ?hr ?hp (fun _ hk => hk) trivial (Below.refl _ _) (Nat.le_refl _) (by simp) ?_; (case hd => rfl); (case hg => rfl); (case hr => first | (go_simp; done) | (go_simp; rfl)); (case hp => exact (Reps.c3 (show Kd.M k54 _ _ _ (⟨false, 0, true⟩ : S54) [.bool false, .int .i64 0, .bool true] from (k54_mkM _ _ _ (⟨false, 0, true⟩ : S54) )) (Reps.none _ _))); intro v_ w8 ho3 hb hg_ hnew_; obtain ⟨ad_, cc_, rfl⟩ := (show ∃ (ad : Addr) (c : Nat), v_ = .slice (some ad) 1 c from Kd.R_slice1 ho3 (by simp)); clear hg_ hnew_; have nb_ := A0_ (blk_below BK2.out hb); clear BK2; have BK2 := nb_; clear nb_; have n0_ := A0_ (Kd.R_lower ho3 (below_size (qm_ HB.out))); have n1_ := A0_ (below_step (qm_ HB.out) hb); clear HB; have HO8 := n0_; have HB := n1_; clear n0_ n1_ hb ho3; have hcza_0 : w8.cell? ⟨gb2, 0, none⟩ = some (.slice none 0 0) := (blk_cell BK2.out 0).trans rfl; have hfza_0 := blk_frozen BK2.out 0; have hcza_1 : w8.cell? ⟨gb2, 1, none⟩ = some (.int .u8 0) := (blk_cell BK2.out 1).trans rfl; have hfza_1 := blk_frozen BK2.out 1; have hcza_2 : w8.cell? ⟨gb2, 2, none⟩ = some (.nilFunc) := (blk_cell BK2.out 2).trans rfl; have hfza_2 := blk_frozen BK2.out 2;))
 refine bodyPost_ret (v := .tuple #[.agg #[.slice none 0 0, .int .u8 2, .func (Fn.func 90) #[] #[]], .bool true]) ?_ rfl ⟨.slice none 0 0, ?_, ?_, ?_⟩
 ·have BKf := blk_set (blk_set (blk_set BK2.out 0 (.slice none 0 0)) 1 (.int .u8 2)) 2 (.func (Fn.func 90) #[] #[])
  generalize ((w8.setCell ⟨gb2, 0, none⟩ (.slice none 0 0)).setCell ⟨gb2, 1, none⟩ (.int .u8 2)).setCell ⟨gb2, 2, none⟩ (.func (Fn.func 90) #[] #[]) = W at BKf ⊢
  have hc0 : W.cell? ⟨gb2, 0, none⟩ = some (.slice none 0 0) := (blk_cell BKf 0).trans rfl
  have hc1 : W.cell? ⟨gb2, 1, none⟩ = some (.int .u8 2) := (blk_cell BKf 1).trans rfl
  have hc2 : W.cell? ⟨gb2, 2, none⟩ = some (.func (Fn.func 90) #[] #[]) := (blk_cell BKf 2).trans rfl
  simp [results, Try.results68, go_sem, hc0, hc1, hc2]
 ·rfl
 ·exact Kd.R_nil _ _ _ _ _
 ·exact below_set (below_set (below_set HB.out GE2.out) GE2.out) GE2.out
set_option maxHeartbeats 2000000 in
set_option maxRecDepth 100000 in
theorem cuts_table.at9 (a0 : Int) (h : a0 = 9) (w : World) : Calls Try.prog 68 #[.int .u8 a0] w fun e w' => cuts_table.post a0 w e w' := by
 have hu54 := Try.underlying54
 have HB := A0_ (Below.refl w.heap.size w)
 subst h
 go_enter Try.func68, Try.ntmps68
 go_wp2_with (first | ((with_reducible refine gate_dst (N := 2) rfl ?_); refine box_event ?hg (N := 2) ?hd (cs := #[.slice none 0 0, .int .u8 0, .nilFunc]) (t := 94) ?hr ?_; (case hd => rfl); (case hg => rfl); (case hr => first | (go_simp; done) | (go_simp; rfl)); intro gb2 hg w2 hbox hb;  have n0_ := A0_ (below_step (qm_ HB.out) hb); have n1_ := A0_ hbox; have n2_ := A0_ ((by rw [hg]; exact (below_size (qm_ HB.out))) : w.heap.size ≤ gb2); clear HB; have HB := n0_; have BK2 := n1_; have GE2 := n2_; clear n0_ n1_ n2_ hb hbox hg) | ((with_reducible refine gate_dst (N := 8) rfl ?_); refine Kd.R_lit k54 _ 54 ?hg (N := 8) ?hd (xs := ([(⟨false, 0, true⟩ : S54)] : List S54)) (inner := [.bool false, .int .i64 0, .bool true]) (ok := fun _ => True) (okp := fun _ => True) ?hr ?hp (fun _ hk => hk) trivial (Below.refl _ _) (Nat.le_refl _) (by simp) ?_; (case hd => rfl); (case hg => rfl); (case hr => first | (go_simp; done) | (go_simp; rfl)); (case hp => exact (Reps.c3 (show Kd.M k54 _ _ _ (⟨false, 0, true⟩ : S54) [.bool false, .int .i64 0, .bool true] from (k54_mkM _ _ _ (⟨false, 0, true⟩ : S54) )) (Reps.none _ _))); intro v_ w8 ho3 hb hg_ hnew_; obtain ⟨ad_, cc_, rfl⟩ := (show ∃ (ad : Addr) (c : Nat), v_ = .slice (some ad) 1 c from Kd.R_slice1 ho3 (by simp)); clear hg_ hnew_; have nb_ := A0_ (blk_below BK2.out hb); clear BK2; have BK2 := nb_; clear nb_; have n0_ := A0_ (Kd.R_lower ho3 (below_size (qm_ HB.out))); have n1_ := A0_ (below_step (qm_ HB.out) hb); clear HB; have HO8 := n0_; have HB := n1_; clear n0_ n1_ hb ho3; have hcza_0 : w8.cell? ⟨gb2, 0, none⟩ = some (.slice none 0 0) := (blk_cell BK2.out 0).trans rfl; have hfza_0 := blk_frozen BK2.out 0; have hcza_1 : w8.cell? ⟨gb2, 1, none⟩ = some (.int .u8 0) := (blk_cell BK2.out 1).trans rfl; have hfza_1 := blk_frozen BK2.out 1; have hcza_2 : w8.cell? ⟨gb2, 2, none⟩ = some (.nilFunc) := (blk_cell BK2.out 2).trans rfl; have hfza_2 := blk_frozen BK2.out 2;))
 refine bodyPost_ret (v := .tuple #[.agg #[.slice none 0 0, .int .u8 1, .func (Fn.func 90) #[] #[]], .bool true]) ?_ rfl ⟨.slice none 0 0, ?_, ?_, ?_⟩
 ·have BKf := blk_set (blk_set (blk_set BK2.out 0 (.slice none 0 0)) 1 (.int .u8 1)) 2 (.func (Fn.func 90) #[] #[])
  generalize ((w8.setCell ⟨gb2, 0, none⟩ (.slice none 0 0)).setCell ⟨gb2, 1, none⟩ (.int .u8 1)).setCell ⟨gb2, 2, none⟩ (.func (Fn.func 90) #[] #[]) = W at BKf ⊢
  have hc0 : W.cell? ⟨gb2, 0, none⟩ = some (.slice none 0 0) := (blk_cell BKf 0).trans rfl
  have hc1 : W.cell? ⟨gb2, 1, none⟩ = some (.int .u8 1) := (blk_cell BKf 1).trans rfl
  have hc2 : W.cell? ⟨gb2, 2, none⟩ = some (.func (Fn.func 90) #[] #[]) := (blk_cell BKf 2).trans rfl
  simp [results, Try.results68, go_sem, hc0, hc1, hc2]
 ·rfl
 ·exact Kd.R_nil _ _ _ _ _
 ·exact below_set (below_set (below_set HB.out GE2.out) GE2.out) GE2.out
set_option maxHeartbeats 2000000 in
set_option maxRecDepth 100000 in
theorem cuts_table.at10 (a0 : Int) (h : a0 = 10) (w : World) : Calls Try.prog 68 #[.int .u8 a0] w fun e w' => cuts_table.post a0 w e w' := by
 have hu54 := Try.underlying54
 have HB := A0_ (Below.refl w.heap.size w)
 subst h
 go_enter Try.func68, Try.ntmps68
 go_wp2_with (first | ((with_reducible refine gate_dst (N := 2) rfl ?_); refine box_event ?hg (N := 2) ?hd (cs := #[.slice none 0 0, .int .u8 0, .nilFunc]) (t := 94) ?hr ?_; (case hd => rfl); (case hg => rfl); (case hr => first | (go_simp; done) | (go_simp; rfl)); intro gb2 hg w2 hbox hb;  have n0_ := A0_ (below_step (qm_ HB.out) hb); have n1_ := A0_ hbox; have n2_ := A0_ ((by rw [hg]; exact (below_size (qm_ HB.out))) : w.heap.size ≤ gb2); clear HB; have HB := n0_; have BK2 := n1_; have GE2 := n2_; clear n0_ n1_ n2_ hb hbox hg) | ((with_reducible refine gate_dst (N := 8) rfl ?_); refine Kd.R_lit k54 _ 54 ?hg (N := 8) ?hd (xs := ([(⟨false, 0, true⟩ : S54)] : List S54)) (inner := [.bool false, .int .i64 0, .bool true]) (ok := fun _ => True) (okp := fun _ => True) ?hr ?hp (fun _ hk => hk) trivial (Below.refl _ _) (Nat.le_refl _) (by simp) ?_; (case hd => rfl); (case hg => rfl); (case hr => first | (go_simp; done) | (go_simp; rfl)); (case hp => exact (Reps.c3 (show Kd.M k54 _ _ _ (⟨false, 0, true⟩ : S54) [.bool false, .int .i64 0, .bool true] from (k54_mkM _ _ _ (⟨false, 0, true⟩ : S54) )) (Reps.none _ _))); intro v_ w8 ho3 hb hg_ hnew_; obtain ⟨ad_, cc_, rfl⟩ := (show ∃ (ad : Addr) (c : Nat), v_ = .slice (some ad) 1 c from Kd.R_slice1 ho3 (by simp)); clear hg_ hnew_; have nb_ := A0_ (blk_below BK2.out hb); clear BK2; have BK2 := nb_; clear nb_; have n0_ := A0_ (Kd.R_lower ho3 (below_size (qm_ HB.out))); have n1_ := A0_ (below_step (qm_ HB.out) hb); clear HB; have HO8 := n0_; have HB := n1_; clear n0_ n1_ hb ho3; have hcza_0 : w8.cell? ⟨gb2, 0, none⟩ = some (.slice none 0 0) := (blk_cell BK2.out 0).trans rfl; have hfza_0 := blk_frozen BK2.out 0; have hcza_1 : w8.cell? ⟨gb2, 1, none⟩ = some (.int .u8 0) := (blk_cell BK2.out 1).trans rfl; have hfza_1 := blk_frozen BK2.out 1; have hcza_2 : w8.cell? ⟨gb2, 2, none⟩ = some (.nilFunc) := (blk_cell BK2.out 2).trans rfl; have hfza_2 := blk_frozen BK2.out 2;) | (go_at_call 94; (with_reducible refine (cuts_both.calls false _ _ rfl).mono ?_); rintro e wb ⟨v_, rfl, ho3, hb⟩; obtain ⟨ad2_, cc2_, rfl⟩ := (show ∃ (ad : Addr) (c : Nat), v_ = .slice (some ad) 2 c from Kd.R_slice1 ho3 (by simp)); have nb_ := A0_ (blk_below BK2.out hb); clear BK2; have BK2 := nb_; clear nb_; have n0_ := A0_ (Kd.R_lower ho3 (below_size (qm_ HB.out))); have n1_ := A0_ (below_step (qm_ HB.out) hb); clear HB; have HOb := n0_; have HB := n1_; clear n0_ n1_ hb ho3 hcza_0 hfza_0 hcza_1 hfza_1 hcza_2 hfza_2; have hczb_0 : wb.cell? ⟨gb2, 0, none⟩ = some (.slice none 0 0) := (blk_cell BK2.out 0).trans rfl; have hfzb_0 := blk_frozen BK2.out 0; have hczb_1 : wb.cell? ⟨gb2, 1, none⟩ = some (.int .u8 0) := (blk_cell BK2.out 1).trans rfl; have hfzb_1 := blk_frozen BK2.out 1; have hczb_2 : wb.cell? ⟨gb2, 2, none⟩ = some (.nilFunc) := (blk_cell BK2.out 2).trans rfl; have hfzb_2 := blk_frozen BK2.out 2;))
 refine bodyPost_ret (v := .tuple #[.agg #[.slice (some ad2_) 2 cc2_, .int .u8 1, .func (Fn.func 90) #[] #[]], .bool true]) ?_ rfl ⟨.slice (some ad2_) 2 cc2_, ?_, ?_, ?_⟩
 ·have BKf := blk_set (blk_set (blk_set BK2.out 0 (.slice (some ad2_) 2 cc2_)) 1 (.int .u8 1)) 2 (.func (Fn.func 90) #[] #[])
  generalize ((wb.setCell ⟨gb2, 0, none⟩ (.slice (some ad2_) 2 cc2_)).setCell ⟨gb2, 1, none⟩ (.int .u8 1)).setCell ⟨gb2, 2, none⟩ (.func (Fn.func 90) #[] #[]) = W at BKf ⊢
  have hc0 : W.cell? ⟨gb2, 0, none⟩ = some (.slice (some ad2_) 2 cc2_) := (blk_cell BKf 0).trans rfl
  have hc1 : W.cell? ⟨gb2, 1, none⟩ = some (.int .u8 1) := (blk_cell BKf 1).trans rfl
  have hc2 : W.cell? ⟨gb2, 2, none⟩ = some (.func (Fn.func 90) #[] #[]) := (blk_cell BKf 2).trans rfl
  simp [results, Try.results68, go_sem, hc0, hc1, hc2]
 ·rfl
 ·exact Kd.R_set (Kd.R_set (Kd.R_set HOb.out BK2.out ne94 0 _) (blk_set BK2.out 0 _) ne94 1 _) (blk_set (blk_set BK2.out 0 _) 1 _) ne94 2 _
 ·exact below_set (below_set (below_set HB.out GE2.out) GE2.out) GE2.out
set_option maxHeartbeats 2000000 in
set_option maxRecDepth 100000 in
theorem cuts_table.at11 (a0 : Int) (h : a0 = 11) (w : World) : Calls Try.prog 68 #[.int .u8 a0] w fun e w' => cuts_table.post a0 w e w' := by
 have hu54 := Try.underlying54
 have HB := A0_ (Below.refl w.heap.size w)
 subst h
 go_enter Try.func68, Try.ntmps68
 go_wp2_with (first | ((with_reducible refine gate_dst (N := 2) rfl ?_); refine box_event ?hg (N := 2) ?hd (cs := #[.slice none 0 0, .int .u8 0, .nilFunc]) (t := 94) ?hr ?_; (case hd => rfl); (case hg => rfl); (case hr => first | (go_simp; done) | (go_simp; rfl)); intro gb2 hg w2 hbox hb;  have n0_ := A0_ (below_step (qm_ HB.out) hb); have n1_ := A0_ hbox; have n2_ := A0_ ((by rw [hg]; exact (below_size (qm_ HB.out))) : w.heap.size ≤ gb2); clear HB; have HB := n0_; have BK2 := n1_; have GE2 := n2_; clear n0_ n1_ n2_ hb hbox hg) | ((with_reducible refine gate_dst (N := 8) rfl ?_); refine Kd.R_lit k54 _ 54 ?hg (N := 8) ?hd (xs := ([(⟨false, 0, true⟩ : S54)] : List S54)) (inner := [.bool false, .int .i64 0, .bool true]) (ok := fun _ => True) (okp := fun _ => True) ?hr ?hp (fun _ hk => hk) trivial (Below.refl _ _) (Nat.le_refl _) (by simp) ?_; (case hd => rfl); (case hg => rfl); (case hr => first | (go_simp; done) | (go_simp; rfl)); (case hp => exact (Reps.c3 (show Kd.M k54 _ _ _ (⟨false, 0, true⟩ : S54) [.bool false, .int .i64 0, .bool true] from (k54_mkM _ _ _ (⟨false, 0, true⟩ : S54) )) (Reps.none _ _))); intro v_ w8 ho3 hb hg_ hnew_; obtain ⟨ad_, cc_, rfl⟩ := (show ∃ (ad : Addr) (c : Nat), v_ = .slice (some ad) 1 c from Kd.R_slice1 ho3 (by simp)); clear hg_ hnew_; have nb_ := A0_ (blk_below BK2.out hb); clear BK2; have BK2 := nb_; clear nb_; have n0_ := A0_ (Kd.R_lower ho3 (below_size (qm_ HB.out))); have n1_ := A0_ (below_step (qm_ HB.out) hb); clear HB; have HO8 := n0_; have HB := n1_; clear n0_ n1_ hb ho3; have hcza_0 : w8.cell? ⟨gb2, 0, none⟩ = some (.slice none 0 0) := (blk_cell BK2.out 0).trans rfl; have hfza_0 := blk_frozen BK2.out 0; have hcza_1 : w8.cell? ⟨gb2, 1, none⟩ = some (.int .u8 0) := (blk_cell BK2.out 1).trans rfl; have hfza_1 := blk_frozen BK2.out 1; have hcza_2 : w8.cell? ⟨gb2, 2, none⟩ = some (.nilFunc) := (blk_cell BK2.out 2).trans rfl; have hfza_2 := blk_frozen BK2.out 2;) | (go_at_call 94; (with_reducible refine (cuts_both.calls false _ _ rfl).mono ?_); rintro e wb ⟨v_, rfl, ho3, hb⟩; obtain ⟨ad2_, cc2_, rfl⟩ := (show ∃ (ad : Addr) (c : Nat), v_ = .slice (some ad) 2 c from Kd.R_slice1 ho3 (by simp)); have nb_ := A0_ (blk_below BK2.out hb); clear BK2; have BK2 := nb_; clear nb_; have n0_ := A0_ (Kd.R_lower ho3 (below_size (qm_ HB.out))); have n1_ := A0_ (below_step (qm_ HB.out) hb); clear HB; have HOb := n0_; have HB := n1_; clear n0_ n1_ hb ho3 hcza_0 hfza_0 hcza_1 hfza_1 hcza_2 hfza_2; have hczb_0 : wb.cell? ⟨gb2, 0, none⟩ = some (.slice none 0 0) := (blk_cell BK2.out 0).trans rfl; have hfzb_0 := blk_frozen BK2.out 0; have hczb_1 : wb.cell? ⟨gb2, 1, none⟩ = some (.int .u8 0) := (blk_cell BK2.out 1).trans rfl; have hfzb_1 := blk_frozen BK2.out 1; have hczb_2 : wb.cell? ⟨gb2, 2, none⟩ = some (.nilFunc) := (blk_cell BK2.out 2).trans rfl; have hfzb_2 := blk_frozen BK2.out 2;))
 refine bodyPost_ret (v := .tuple #[.agg #[.slice (some ad2_) 2 cc2_, .int .u8 0, .func (Fn.func 95) #[] #[]], .bool true]) ?_ rfl ⟨.slice (some ad2_) 2 cc2_, ?_, ?_, ?_⟩
 ·have BKf := blk_set (blk_set (blk_set BK2.out 0 (.slice (some ad2_) 2 cc2_)) 1 (.int .u8 0)) 2 (.func (Fn.func 95) #[] #[])
  generalize ((wb.setCell ⟨gb2, 0, none⟩ (.slice (some ad2_) 2 cc2_)).setCell ⟨gb2, 1, none⟩ (.int .u8 0)).setCell ⟨gb2, 2, none⟩ (.func (Fn.func 95) #[] #[]) = W at BKf ⊢
  have hc0 : W.cell? ⟨gb2, 0, none⟩ = some (.slice (some ad2_) 2 cc2_) := (blk_cell BKf 0).trans rfl
  have hc1 : W.cell? ⟨gb2, 1, none⟩ = some (.int .u8 0) := (blk_cell BKf 1).trans rfl
  have hc2 : W.cell? ⟨gb2, 2, none⟩ = some (.func (Fn.func 95) #[] #[]) := (blk_cell BKf 2).trans rfl
  simp [results, Try.results68, go_sem, hc0, hc1, hc2]
 ·rfl
 ·exact Kd.R_set (Kd.R_set (Kd.R_set HOb.out BK2.out ne94 0 _) (blk_set BK2.out 0 _) ne94 1 _) (blk_set (blk_set BK2.out 0 _) 1 _) ne94 2 _
 ·exact below_set (below_set (below_set HB.out GE2.out) GE2.out) GE2.out
set_option maxHeartbeats 2000000 in
set_option maxRecDepth 100000 in
theorem cuts_table.at12 (a0 : Int) (h : a0 = 12) (w : World) : Calls Try.prog 68 #[.int .u8 a0] w fun e w' => cuts_table.post a0 w e w' := by
 have hu54 := Try.underlying54
 have HB := A0_ (Below.refl w.heap.size w)
 subst h
 go_enter Try.func68, Try.ntmps68
 go_wp2_with (first | ((with_reducible refine gate_dst (N := 2) rfl ?_); refine box_event ?hg (N := 2) ?hd (cs := #[.slice none 0 0, .int .u8 0, .nilFunc]) (t := 94) ?hr ?_; (case hd => rfl); (case hg => rfl); (case hr => first | (go_simp; done) | (go_simp; rfl)); intro gb2 hg w2 hbox hb;  have n0_ := A0_ (below_step (qm_ HB.out) hb); have n1_ := A0_ hbox; have n2_ := A0_ ((by rw [hg]; exact (below_size (qm_ HB.out))) : w.heap.size ≤ gb2); clear HB; have HB := n0_; have BK2 := n1_; have GE2 := n2_; clear n0_ n1_ n2_ hb hbox hg) | ((with_reducible refine gate_dst (N := 8) rfl ?_); refine Kd.R_lit k54 _ 54 ?hg (N := 8) ?hd (xs := ([(⟨false, 0, true⟩ : S54)] : List S54)) (inner := [.bool false, .int .i64 0, .bool true]) (ok := fun _ => True) (okp := fun _ => True) ?hr ?hp (fun _ hk => hk) trivial (Below.refl _ _) (Nat.le_refl _) (by simp) ?_; (case hd => rfl); (case hg => rfl); (case hr => first | (go_simp; done) | (go_simp; rfl)); (case hp => exact (Reps.c3 (show Kd.M k54 _ _ _ (⟨false, 0, true⟩ : S54) [.bool false, .int .i64 0, .bool true] from (k54_mkM _ _ _ (⟨false, 0, true⟩ : S54) )) (Reps.none _ _))); intro v_ w8 ho3 hb hg_ hnew_; obtain ⟨ad_, cc_, rfl⟩ := (show ∃ (ad : Addr) (c : Nat), v_ = .slice (some ad) 1 c from Kd.R_slice1 ho3 (by simp)); clear hg_ hnew_; have nb_ := A0_ (blk_below BK2.out hb); clear BK2; have BK2 := nb_; clear nb_; have n0_ := A0_ (Kd.R_lower ho3 (below_size (qm_ HB.out))); have n1_ := A0_ (below_step (qm_ HB.out) hb); clear HB; have HO8 := n0_; have HB := n1_; clear n0_ n1_ hb ho3; have hcza_0 : w8.cell? ⟨gb2, 0, none⟩ = some (.slice none 0 0) := (blk_cell BK2.out 0).trans rfl; have hfza_0 := blk_frozen BK2.out 0; have hcza_1 : w8.cell? ⟨gb2, 1, none⟩ = some (.int .u8 0) := (blk_cell BK2.out 1).trans rfl; have hfza_1 := blk_frozen BK2.out 1; have hcza_2 : w8.cell? ⟨gb2, 2, none⟩ = some (.nilFunc) := (blk_cell BK2.out 2).trans rfl; have hfza_2 := blk_frozen BK2.out 2;) | (go_at_call 94; (with_reducible refine (cuts_both.calls true _ _ rfl).mono ?_); rintro e wb ⟨v_, rfl, ho3, hb⟩; obtain ⟨ad2_, cc2_, rfl⟩ := (show ∃ (ad : Addr) (c : Nat), v_ = .slice (some ad) 2 c from Kd.R_slice1 ho3 (by simp)); have nb_ := A0_ (blk_below BK2.out hb); clear BK2; have BK2 := nb_; clear nb_; have n0_ := A0_ (Kd.R_lower ho3 (below_size (qm_ HB.out))); have n1_ := A0_ (below_step (qm_ HB.out) hb); clear HB; have HOb := n0_; have HB := n1_; clear n0_ n1_ hb ho3 hcza_0 hfza_0 hcza_1 hfza_1 hcza_2 hfza_2; have hczb_0 : wb.cell? ⟨gb2, 0, none⟩ = some (.slice none 0 0) := (blk_cell BK2.out 0).trans rfl; have hfzb_0 := blk_frozen BK2.out 0; have hczb_1 : wb.cell? ⟨gb2, 1, none⟩ = some (.int .u8 0) := (blk_cell BK2.out 1).trans rfl; have hfzb_1 := blk_frozen BK2.out 1; have hczb_2 : wb.cell? ⟨gb2, 2, none⟩ = some (.nilFunc) := (blk_cell BK2.out 2).trans rfl; have hfzb_2 := blk_frozen BK2.out 2;))
 refine bodyPost_ret (v := .tuple #[.agg #[.slice (some ad2_) 2 cc2_, .int .u8 1, .func (Fn.func 91) #[] #[]], .bool true]) ?_ rfl ⟨.slice (some ad2_) 2 cc2_, ?_, ?_, ?_⟩
 ·have BKf := blk_set (blk_set (blk_set BK2.out 0 (.slice (some ad2_) 2 cc2_)) 1 (.int .u8 1)) 2 (.func (Fn.func 91) #[] #[])
  generalize ((wb.setCell ⟨gb2, 0, none⟩ (.slice (some ad2_) 2 cc2_)).setCell ⟨gb2, 1, none⟩ (.int .u8 1)).setCell ⟨gb2, 2, none⟩ (.func (Fn.func 91) #[] #[]) = W at BKf ⊢
  have hc0 : W.cell? ⟨gb2, 0, none⟩ = some (.slice (some ad2_) 2 cc2_) := (blk_cell BKf 0).trans rfl
  have hc1 : W.cell? ⟨gb2, 1, none⟩ = some (.int .u8 1) := (blk_cell BKf 1).trans rfl
  have hc2 : W.cell? ⟨gb2, 2, none⟩ = some (.func (Fn.func 91) #[] #[]) := (blk_cell BKf 2).trans rfl
  simp [results, Try.results68, go_sem, hc0, hc1, hc2]
 ·rfl
 ·exact Kd.R_set (Kd.R_set (Kd.R_set HOb.out BK2.out ne94 0 _) (blk_set BK2.out 0 _) ne94 1 _) (blk_set (blk_set BK2.out 0 _) 1 _) ne94 2 _
 ·exact below_set (below_set (below_set HB.out GE2.out) GE2.out) GE2.out
set_option maxHeartbeats 2000000 in
set_option maxRecDepth 100000 in
theorem cuts_table.at13 (a0 : Int) (h : a0 = 13) (w : World) : Calls Try.prog 68 #[.int .u8 a0] w fun e w' => cuts_table.post a0 w e w' := by
 have hu54 := Try.underlying54
 have HB := A0_ (Below.refl w.heap.size w)
 subst h
 go_enter Try.func68, Try.ntmps68
 go_wp2_with (first | ((with_reducible refine gate_dst (N := 2) rfl ?_); refine box_event ?hg (N := 2) ?hd (cs := #[.slice none 0 0, .int .u8 0, .nilFunc]) (t := 94) ?hr ?_; (case hd => rfl); (case hg => rfl); (case hr => first | (go_simp; done) | (go_simp; rfl)); intro gb2 hg w2 hbox hb;  have n0_ := A0_ (below_step (qm_ HB.out) hb); have n1_ := A0_ hbox; have n2_ := A0_ ((by rw [hg]; exact (below_size (qm_ HB.out))) : w.heap.size ≤ gb2); clear HB; have HB := n0_; have BK2 := n1_; have GE2 := n2_; clear n0_ n1_ n2_ hb hbox hg) | ((with_reducible refine gate_dst (N := 8) rfl ?_); refine Kd.R_lit k54 _ 54 ?hg (N := 8) ?hd (xs := ([(⟨false, 0, true⟩ : S54)] : List S54)) (inner := [.bool false, .int .i64 0, .bool true]) (ok := fun _ => True) (okp := fun _ => True) ?hr ?hp (fun _ hk => hk) trivial (Below.refl _ _) (Nat.le_refl _) (by simp) ?_; (case hd => rfl); (case hg => rfl); (case hr => first | (go_simp; done) | (go_simp; rfl)); (case hp => exact (Reps.c3 (show Kd.M k54 _ _ _ (⟨false, 0, true⟩ : S54) [.bool false, .int .i64 0, .bool true] from (k54_mkM _ _ _ (⟨false, 0, true⟩ : S54) )) (Reps.none _ _))); intro v_ w8 ho3 hb hg_ hnew_; obtain ⟨ad_, cc_, rfl⟩ := (show ∃ (ad : Addr) (c : Nat), v_ = .slice (some ad) 1 c from Kd.R_slice1 ho3 (by simp)); clear hg_ hnew_; have nb_ := A0_ (blk_below BK2.out hb); clear BK2; have BK2 := nb_; clear nb_; have n0_ := A0_ (Kd.R_lower ho3 (below_size (qm_ HB.out))); have n1_ := A0_ (below_step (qm_ HB.out) hb); clear HB; have HO8 := n0_; have HB := n1_; clear n0_ n1_ hb ho3; have hcza_0 : w8.cell? ⟨gb2, 0, none⟩ = some (.slice none 0 0) := (blk_cell BK2.out 0).trans rfl; have hfza_0 := blk_frozen BK2.out 0; have hcza_1 : w8.cell? ⟨gb2, 1, none⟩ = some (.int .u8 0) := (blk_cell BK2.out 1).trans rfl; have hfza_1 := blk_frozen BK2.out 1; have hcza_2 : w8.cell? ⟨gb2, 2, none⟩ = some (.nilFunc) := (blk_cell BK2.out 2).trans rfl; have hfza_2 := blk_frozen BK2.out 2;) | (go_at_call 94; (with_reducible refine (cuts_both.calls true _ _ rfl).mono ?_); rintro e wb ⟨v_, rfl, ho3, hb⟩; obtain ⟨ad2_, cc2_, rfl⟩ := (show ∃ (ad : Addr) (c : Nat), v_ = .slice (some ad) 2 c from Kd.R_slice1 ho3 (by simp)); have nb_ := A0_ (blk_below BK2.out hb); clear BK2; have BK2 := nb_; clear nb_; have n0_ := A0_ (Kd.R_lower ho3 (below_size (qm_ HB.out))); have n1_ := A0_ (below_step (qm_ HB.out) hb); clear HB; have HOb := n0_; have HB := n1_; clear n0_ n1_ hb ho3 hcza_0 hfza_0 hcza_1 hfza_1 hcza_2 hfza_2; have hczb_0 : wb.cell? ⟨gb2, 0, none⟩ = some (.slice none 0 0) := (blk_cell BK2.out 0).trans rfl; have hfzb_0 := blk_frozen BK2.out 0; have hczb_1 : wb.cell? ⟨gb2, 1, none⟩ = some (.int .u8 0) := (blk_cell BK2.out 1).trans rfl; have hfzb_1 := blk_frozen BK2.out 1; have hczb_2 : wb.cell? ⟨gb2, 2, none⟩ = some (.nilFunc) := (blk_cell BK2.out 2).trans rfl; have hfzb_2 := blk_frozen BK2.out 2;))
 refine bodyPost_ret (v := .tuple #[.agg #[.slice (some ad2_) 2 cc2_, .int .u8 1, .func (Fn.func 91) #[] #[]], .bool true]) ?_ rfl ⟨.slice (some ad2_) 2 cc2_, ?_, ?_, ?_⟩
 ·have BKf := blk_set (blk_set (blk_set BK2.out 0 (.slice (some ad2_) 2 cc2_)) 1 (.int .u8 1)) 2 (.func (Fn.func 91) #[] #[])
  generalize ((wb.setCell ⟨gb2, 0, none⟩ (.slice (some ad2_) 2 cc2_)).setCell ⟨gb2, 1, none⟩ (.int .u8 1)).setCell ⟨gb2, 2, none⟩ (.func (Fn.func 91) #[] #[]) = W at BKf ⊢
  have hc0 : W.cell? ⟨gb2, 0, none⟩ = some (.slice (some ad2_) 2 cc2_) := (blk_cell BKf 0).trans rfl
  have hc1 : W.cell? ⟨gb2, 1, none⟩ = some (.int .u8 1) := (blk_cell BKf 1).trans rfl
  have hc2 : W.cell? ⟨gb2, 2, none⟩ = some (.func (Fn.func 91) #[] #[]) := (blk_cell BKf 2).trans rfl
  simp [results, Try.results68, go_sem, hc0, hc1, hc2]
 ·rfl
 ·exact Kd.R_set (Kd.R_set (Kd.R_set HOb.out BK2.out ne94 0 _) (blk_set BK2.out 0 _) ne94 1 _) (blk_set (blk_set BK2.out 0 _) 1 _) ne94 2 _
 ·exact below_set (below_set (below_set HB.out GE2.out) GE2.out) GE2.out
set_option maxHeartbeats 2000000 in
set_option maxRecDepth 100000 in
theorem cuts_table.at14 (a0 : Int) (h : a0 = 14) (w : World) : Calls Try.prog 68 #[.int .u8 a0] w fun e w' => cuts_table.post a0 w e w' := by
 have hu54 := Try.underlying54
 have HB := A0_ (Below.refl w.heap.size w)
 subst h
 go_enter Try.func68, Try.ntmps68
 go_wp2_with (first | ((with_reducible refine gate_dst (N := 2) rfl ?_); refine box_event ?hg (N := 2) ?hd (cs := #[.slice none 0 0, .int .u8 0, .nilFunc]) (t := 94) ?hr ?_; (case hd => rfl); (case hg => rfl); (case hr => first | (go_simp; done) | (go_simp; rfl)); intro gb2 hg w2 hbox hb;  have n0_ := A0_ (below_step (qm_ HB.out) hb); have n1_ := A0_ hbox; have n2_ := A0_ ((by rw [hg]; exact (below_size (qm_ HB.out))) : w.heap.size ≤ gb2); clear HB; have HB := n0_; have BK2 := n1_; have GE2 := n2_; clear n0_ n1_ n2_ hb hbox hg) | ((with_reducible refine gate_dst (N := 8) rfl ?_); refine Kd.R_lit k54 _ 54 ?hg (N := 8) ?hd (xs := ([(⟨false, 0, true⟩ : S54)] : List S54)) (inner := [.bool false, .int .i64 0, .bool true]) (ok := fun _ => True) (okp := fun _ => True) ?hr ?hp (fun _ hk => hk) trivial (Below.refl _ _) (Nat.le_refl _) (by simp) ?_; (case hd => rfl); (case hg => rfl); (case hr => first | (go_simp; done) | (go_simp; rfl)); (case hp => exact (Reps.c3 (show Kd.M k54 _ _ _ (⟨false, 0, true⟩ : S54) [.bool false, .int .i64 0, .bool true] from (k54_mkM _ _ _ (⟨false, 0, true⟩ : S54) )) (Reps.none _ _))); intro v_ w8 ho3 hb hg_ hnew_; obtain ⟨ad_, cc_, rfl⟩ := (show ∃ (ad : Addr) (c : Nat), v_ = .slice (some ad) 1 c from Kd.R_slice1 ho3 (by simp)); clear hg_ hnew_; have nb_ := A0_ (blk_below BK2.out hb); clear BK2; have BK2 := nb_; clear nb_; have n0_ := A0_ (Kd.R_lower ho3 (below_size (qm_ HB.out))); have n1_ := A0_ (below_step (qm_ HB.out) hb); clear HB; have HO8 := n0_; have HB := n1_; clear n0_ n1_ hb ho3; have hcza_0 : w8.cell? ⟨gb2, 0, none⟩ = some (.slice none 0 0) := (blk_cell BK2.out 0).trans rfl; have hfza_0 := blk_frozen BK2.out 0; have hcza_1 : w8.cell? ⟨gb2, 1, none⟩ = some (.int .u8 0) := (blk_cell BK2.out 1).trans rfl; have hfza_1 := blk_frozen BK2.out 1; have hcza_2 : w8.cell? ⟨gb2, 2, none⟩ = some (.nilFunc) := (blk_cell BK2.out 2).trans rfl; have hfza_2 := blk_frozen BK2.out 2;) | ((with_reducible refine gate_dst (N := 53) rfl ?_); refine Kd.R_lit k54 _ 54 ?hg (N := 53) ?hd (xs := ([(⟨false, 1, true⟩ : S54)] : List S54)) (inner := [.bool false, .int .i64 1, .bool true]) (ok := fun _ => True) (okp := fun _ => True) ?hr ?hp (fun _ hk => hk) trivial (Below.refl _ _) (Nat.le_refl _) (by simp) ?_; (case hd => rfl); (case hg => rfl); (case hr => first | (go_simp; done) | (go_simp; rfl)); (case hp => exact (Reps.c3 (show Kd.M k54 _ _ _ (⟨false, 1, true⟩ : S54) [.bool false, .int .i64 1, .bool true] from (k54_mkM _ _ _ (⟨false, 1, true⟩ : S54) )) (Reps.none _ _))); intro v_ w53 ho3 hb hg_ hnew_; obtain ⟨ad_, cc_, rfl⟩ := (show ∃ (ad : Addr) (c : Nat), v_ = .slice (some ad) 1 c from Kd.R_slice1 ho3 (by simp)); clear hg_ hnew_; have nb_ := A0_ (blk_below BK2.out hb); clear BK2; have BK2 := nb_; clear nb_; have n0_ := A0_ (Kd.R_lower ho3 (below_size (qm_ HB.out))); have n1_ := A0_ (below_step (qm_ HB.out) hb); clear HB; have HO53 := n0_; have HB := n1_; clear n0_ n1_ hb ho3 hcza_0 hfza_0 hcza_1 hfza_1 hcza_2 hfza_2; have hczb_0 : w53.cell? ⟨gb2, 0, none⟩ = some (.slice none 0 0) := (blk_cell BK2.out 0).trans rfl; have hfzb_0 := blk_frozen BK2.out 0; have hczb_1 : w53.cell? ⟨gb2, 1, none⟩ = some (.int .u8 0) := (blk_cell BK2.out 1).trans rfl; have hfzb_1 := blk_frozen BK2.out 1; have hczb_2 : w53.cell? ⟨gb2, 2, none⟩ = some (.nilFunc) := (blk_cell BK2.out 2).trans rfl; have hfzb_2 := blk_frozen BK2.out 2;))
 refine bodyPost_ret (v := .tuple #[.agg #[.slice (some ad_) 1 cc_, .int .u8 0, .func (Fn.func 96) #[] #[]], .bool true]) ?_ rfl ⟨.slice (some ad_) 1 cc_, ?_, ?_, ?_⟩
 ·have BKf := blk_set (blk_set (blk_set BK2.out 0 (.slice (some ad_) 1 cc_)) 1 (.int .u8 0)) 2 (.func (Fn.func 96) #[] #[])
  generalize ((w53.setCell ⟨gb2, 0, none⟩ (.slice (some ad_) 1 cc_)).setCell ⟨gb2, 1, none⟩ (.int .u8 0)).setCell ⟨gb2, 2, none⟩ (.func (Fn.func 96) #[] #[]) = W at BKf ⊢
  have hc0 : W.cell? ⟨gb2, 0, none⟩ = some (.slice (some ad_) 1 cc_) := (blk_cell BKf 0).trans rfl
  have hc1 : W.cell? ⟨gb2, 1, none⟩ = some (.int .u8 0) := (blk_cell BKf 1).trans rfl
  have hc2 : W.cell? ⟨gb2, 2, none⟩ = some (.func (Fn.func 96) #[] #[]) := (blk_cell BKf 2).trans rfl
  simp [results, Try.results68, go_sem, hc0, hc1, hc2]
 ·rfl
 ·exact Kd.R_set (Kd.R_set (Kd.R_set HO53.out BK2.out ne94 0 _) (blk_set BK2.out 0 _) ne94 1 _) (blk_set (blk_set BK2.out 0 _) 1 _) ne94 2 _
 ·exact below_set (below_set (below_set HB.out GE2.out) GE2.out) GE2.out
set_option maxHeartbeats 2000000 in
set_option maxRecDepth 100000 in
theorem cuts_table.at15 (a0 : Int) (h : a0 = 15) (w : World) : Calls Try.prog 68 #[.int .u8 a0] w fun e w' => cuts_table.post a0 w e w' := by
 have hu54 := Try.underlying54
 have HB := A0_ (Below.refl w.heap.size w)
 subst h
 go_enter Try.func68, Try.ntmps68
 go_wp2_with (first | ((with_reducible refine gate_dst (N := 2) rfl ?_); refine box_event ?hg (N := 2) ?hd (cs := #[.slice none 0 0, .int .u8 0, .nilFunc]) (t := 94) ?hr ?_; (case hd => rfl); (case hg => rfl); (case hr => first | (go_simp; done) | (go_simp; rfl)); intro gb2 hg w2 hbox hb;  have n0_ := A0_ (below_step (qm_ HB.out) hb); have n1_ := A0_ hbox; have n2_ := A0_ ((by rw [hg]; exact (below_size (qm_ HB.out))) : w.heap.size ≤ gb2); clear HB; have HB := n0_; have BK2 := n1_; have GE2 := n2_; clear n0_ n1_ n2_ hb hbox hg) | ((with_reducible refine gate_dst (N := 8) rfl ?_); refine Kd.R_lit k54 _ 54 ?hg (N := 8) ?hd (xs := ([(⟨false, 0, true⟩ : S54)] : List S54)) (inner := [.bool false, .int .i64 0, .bool true]) (ok := fun _ => True) (okp := fun _ => True) ?hr ?hp (fun _ hk => hk) trivial (Below.refl _ _) (Nat.le_refl _) (by simp) ?_; (case hd => rfl); (case hg => rfl); (case hr => first | (go_simp; done) | (go_simp; rfl)); (case hp => exact (Reps.c3 (show Kd.M k54 _ _ _ (⟨false, 0, true⟩ : S54) [.bool false, .int .i64 0, .bool true] from (k54_mkM _ _ _ (⟨false, 0, true⟩ : S54) )) (Reps.none _ _))); intro v_ w8 ho3 hb hg_ hnew_; obtain ⟨ad_, cc_, rfl⟩ := (show ∃ (ad : Addr) (c : Nat), v_ = .slice (some ad) 1 c from Kd.R_slice1 ho3 (by simp)); clear hg_ hnew_; have nb_ := A0_ (blk_below BK2.out hb); clear BK2; have BK2 := nb_; clear nb_; have n0_ := A0_ (Kd.R_lower ho3 (below_size (qm_ HB.out))); have n1_ := A0_ (below_step (qm_ HB.out) hb); clear HB; have HO8 := n0_; have HB := n1_; clear n0_ n1_ hb ho3; have hcza_0 : w8.cell? ⟨gb2, 0, none⟩ = some (.slice none 0 0) := (blk_cell BK2.out 0).trans rfl; have hfza_0 := blk_frozen BK2.out 0; have hcza_1 : w8.cell? ⟨gb2, 1, none⟩ = some (.int .u8 0) := (blk_cell BK2.out 1).trans rfl; have hfza_1 := blk_frozen BK2.out 1; have hcza_2 : w8.cell? ⟨gb2, 2, none⟩ = some (.nilFunc) := (blk_cell BK2.out 2).trans rfl; have hfza_2 := blk_frozen BK2.out 2;) | (go_at_call 94; (with_reducible refine (cuts_both.calls false _ _ rfl).mono ?_); rintro e wb ⟨v_, rfl, ho3, hb⟩; obtain ⟨ad2_, cc2_, rfl⟩ := (show ∃ (ad : Addr) (c : Nat), v_ = .slice (some ad) 2 c from Kd.R_slice1 ho3 (by simp)); have nb_ := A0_ (blk_below BK2.out hb); clear BK2; have BK2 := nb_; clear nb_; have n0_ := A0_ (Kd.R_lower ho3 (below_size (qm_ HB.out))); have n1_ := A0_ (below_step (qm_ HB.out) hb); clear HB; have HOb := n0_; have HB := n1_; clear n0_ n1_ hb ho3 hcza_0 hfza_0 hcza_1 hfza_1 hcza_2 hfza_2; have hczb_0 : wb.cell? ⟨gb2, 0, none⟩ = some (.slice none 0 0) := (blk_cell BK2.out 0).trans rfl; have hfzb_0 := blk_frozen BK2.out 0; have hczb_1 : wb.cell? ⟨gb2, 1, none⟩ = some (.int .u8 0) := (blk_cell BK2.out 1).trans rfl; have hfzb_1 := blk_frozen BK2.out 1; have hczb_2 : wb.cell? ⟨gb2, 2, none⟩ = some (.nilFunc) := (blk_cell BK2.out 2).trans rfl; have hfzb_2 := blk_frozen BK2.out 2;))
 refine bodyPost_ret (v := .tuple #[.agg #[.slice (some ad2_) 2 cc2_, .int .u8 1, .func (Fn.func 90) #[] #[]], .bool true]) ?_ rfl ⟨.slice (some ad2_) 2 cc2_, ?_, ?_, ?_⟩
 ·have BKf := blk_set (blk_set (blk_set BK2.out 0 (.slice (some ad2_) 2 cc2_)) 1 (.int .u8 1)) 2 (.func (Fn.func 90) #[] #[])
  generalize ((wb.setCell ⟨gb2, 0, none⟩ (.slice (some ad2_) 2 cc2_)).setCell ⟨gb2, 1, none⟩ (.int .u8 1)).setCell ⟨gb2, 2, none⟩ (.func (Fn.func 90) #[] #[]) = W at BKf ⊢
  have hc0 : W.cell? ⟨gb2, 0, none⟩ = some (.slice (some ad2_) 2 cc2_) := (blk_cell BKf 0).trans rfl
  have hc1 : W.cell? ⟨gb2, 1, none⟩ = some (.int .u8 1) := (blk_cell BKf 1).trans rfl
  have hc2 : W.cell? ⟨gb2, 2, none⟩ = some (.func (Fn.func 90) #[] #[]) := (blk_cell BKf 2).trans rfl
  simp [results, Try.results68, go_sem, hc0, hc1, hc2]
 ·rfl
 ·exact Kd.R_set (Kd.R_set (Kd.R_set HOb.out BK2.out ne94 0 _) (blk_set BK2.out 0 _) ne94 1 _) (blk_set (blk_set BK2.out 0 _) 1 _) ne94 2 _
 ·exact below_set (below_set (below_set HB.out GE2.out) GE2.out) GE2.out
set_option maxHeartbeats 2000000 in
set_option maxRecDepth 100000 in
theorem cuts_table.at0 (a0 : Int) (h1 : (a0 == 1) = false) (h2 : (a0 == 2) = false) (h3 : (a0 == 3) = false) (h4 : (a0 == 4) = false) (h5 : (a0 == 5) = false) (h6 : (a0 == 6) = false) (h7 : (a0 == 7) = false) (h8 : (a0 == 8) = false) (h9 : (a0 == 9) = false) (h10 : (a0 == 10) = false) (h11 : (a0 == 11) = false) (h12 : (a0 == 12) = false) (h13 : (a0 == 13) = false) (h14 : (a0 == 14) = false) (h15 : (a0 == 15) = false) (hv : cpar a0 = 0 ∧ csig a0 = .nilFunc ∧ cis a0 = false ∧ crays a0 = []) (w : World) : Calls Try.prog 68 #[.int .u8 a0] w fun e w' => cuts_table.post a0 w e w' := by
 have hu54 := Try.underlying54
 have HB := A0_ (Below.refl w.heap.size w)
 skip
 go_enter Try.func68, Try.ntmps68
 go_wp2_with (first | ((with_reducible refine gate_dst (N := 2) rfl ?_); refine box_event ?hg (N := 2) ?hd (cs := #[.slice none 0 0, .int .u8 0, .nilFunc]) (t := 94) ?hr ?_; (case hd => rfl); (case hg => rfl); (case hr => first | (go_simp; done) | (go_simp; rfl)); intro gb2 hg w2 hbox hb;  have n0_ := A0_ (below_step (qm_ HB.out) hb); have n1_ := A0_ hbox; have n2_ := A0_ ((by rw [hg]; exact (below_size (qm_ HB.out))) : w.heap.size ≤ gb2); clear HB; have HB := n0_; have BK2 := n1_; have GE2 := n2_; clear n0_ n1_ n2_ hb hbox hg) | ((with_reducible refine gate_dst (N := 8) rfl ?_); refine Kd.R_lit k54 _ 54 ?hg (N := 8) ?hd (xs := ([(⟨false, 0, true⟩ : S54)] : List S54)) (inner := [.bool false, .int .i64 0, .bool true]) (ok := fun _ => True) (okp := fun _ => True) ?hr ?hp (fun _ hk => hk) trivial (Below.refl _ _) (Nat.le_refl _) (by simp) ?_; (case hd => rfl); (case hg => rfl); (case hr => first | (go_simp; done) | (go_simp; rfl)); (case hp => exact (Reps.c3 (show Kd.M k54 _ _ _ (⟨false, 0, true⟩ : S54) [.bool false, .int .i64 0, .bool true] from (k54_mkM _ _ _ (⟨false, 0, true⟩ : S54) )) (Reps.none _ _))); intro v_ w8 ho3 hb hg_ hnew_; obtain ⟨ad_, cc_, rfl⟩ := (show ∃ (ad : Addr) (c : Nat), v_ = .slice (some ad) 1 c from Kd.R_slice1 ho3 (by simp)); clear hg_ hnew_; have nb_ := A0_ (blk_below BK2.out hb); clear BK2; have BK2 := nb_; clear nb_; have n0_ := A0_ (Kd.R_lower ho3 (below_size (qm_ HB.out))); have n1_ := A0_ (below_step (qm_ HB.out) hb); clear HB; have HO8 := n0_; have HB := n1_; clear n0_ n1_ hb ho3; have hcza_0 : w8.cell? ⟨gb2, 0, none⟩ = some (.slice none 0 0) := (blk_cell BK2.out 0).trans rfl; have hfza_0 := blk_frozen BK2.out 0; have hcza_1 : w8.cell? ⟨gb2, 1, none⟩ = some (.int .u8 0) := (blk_cell BK2.out 1).trans rfl; have hfza_1 := blk_frozen BK2.out 1; have hcza_2 : w8.cell? ⟨gb2, 2, none⟩ = some (.nilFunc) := (blk_cell BK2.out 2).trans rfl; have hfza_2 := blk_frozen BK2.out 2;))
 refine bodyPost_ret (v := .tuple #[.agg #[.slice none 0 0, .int .u8 0, .nilFunc], .bool false]) ?_ rfl ⟨.slice none 0 0, ?_, ?_, ?_⟩
 ·have BKf := blk_set (blk_set (blk_set BK2.out 0 (.slice none 0 0)) 1 (.int .u8 0)) 2 (.nilFunc)
  generalize ((w8.setCell ⟨gb2, 0, none⟩ (.slice none 0 0)).setCell ⟨gb2, 1, none⟩ (.int .u8 0)).setCell ⟨gb2, 2, none⟩ (.nilFunc) = W at BKf ⊢
  have hc0 : W.cell? ⟨gb2, 0, none⟩ = some (.slice none 0 0) := (blk_cell BKf 0).trans rfl
  have hc1 : W.cell? ⟨gb2, 1, none⟩ = some (.int .u8 0) := (blk_cell BKf 1).trans rfl
  have hc2 : W.cell? ⟨gb2, 2, none⟩ = some (.nilFunc) := (blk_cell BKf 2).trans rfl
  simp [results, Try.results68, go_sem, hc0, hc1, hc2]
 ·rw [hv.1, hv.2.1, hv.2.2.1]
 ·rw [hv.2.2.2]; exact Kd.R_nil _ _ _ _ _
 ·exact below_set (below_set (below_set HB.out GE2.out) GE2.out) GE2.out
theorem cuts_table.calls (a0 : Int) (w : World) : Calls Try.prog 68 #[.int .u8 a0] w fun e w' => cuts_table.post a0 w e w' := by
 by_cases h1 : a0 = 1
 ·exact cuts_table.at1 a0 h1 w
 by_cases h2 : a0 = 2
 ·exact cuts_table.at2 a0 h2 w
 by_cases h3 : a0 = 3
 ·exact cuts_table.at3 a0 h3 w
 by_cases h4 : a0 = 4
 ·exact cuts_table.at4 a0 h4 w
 by_cases h5 : a0 = 5
 ·exact cuts_table.at5 a0 h5 w
 by_cases h6 : a0 = 6
 ·exact cuts_table.at6 a0 h6 w
 by_cases h7 : a0 = 7
 ·exact cuts_table.at7 a0 h7 w
 by_cases h8 : a0 = 8
 ·exact cuts_table.at8 a0 h8 w
 by_cases h9 : a0 = 9
 ·exact cuts_table.at9 a0 h9 w
 by_cases h10 : a0 = 10
 ·exact cuts_table.at10 a0 h10 w
 by_cases h11 : a0 = 11
 ·exact cuts_table.at11 a0 h11 w
 by_cases h12 : a0 = 12
 ·exact cuts_table.at12 a0 h12 w
 by_cases h13 : a0 = 13
 ·exact cuts_table.at13 a0 h13 w
 by_cases h14 : a0 = 14
 ·exact cuts_table.at14 a0 h14 w
 by_cases h15 : a0 = 15
 ·exact cuts_table.at15 a0 h15 w
 have hc : cis a0 = false := by unfold cis; exact decide_eq_false (by omega)
 exact cuts_table.at0 a0 (beq_eq_false_iff_ne.mpr h1) (beq_eq_false_iff_ne.mpr h2) (beq_eq_false_iff_ne.mpr h3) (beq_eq_false_iff_ne.mpr h4) (beq_eq_false_iff_ne.mpr h5) (beq_eq_false_iff_ne.mpr h6) (beq_eq_false_iff_ne.mpr h7) (beq_eq_false_iff_ne.mpr h8) (beq_eq_false_iff_ne.mpr h9) (beq_eq_false_iff_ne.mpr h10) (beq_eq_false_iff_ne.mpr h11) (beq_eq_false_iff_ne.mpr h12) (beq_eq_false_iff_ne.mpr h13) (beq_eq_false_iff_ne.mpr h14) (beq_eq_false_iff_ne.mpr h15) ⟨by unfold cpar; simp [*], by unfold csig; rw [hc]; rfl, hc, by unfold crays; simp [*]⟩ w
theorem cuts_table.yes (a0 : Int) (h : cis a0 = true) (w : World) : Calls Try.prog 68 #[.int .u8 a0] w fun e w' => ∃ (A : Option Addr) (c : Nat), e = .returned (.tuple #[.agg #[.slice A (crays a0).length c, .int .u8 (cpar a0), .func (Fn.func (cno a0)) #[] #[]], .bool true]) ∧ Kd.R k54 54 w' w.heap.size (fun _ => True) (.slice A (crays a0).length c) (crays a0) ∧ Below w.heap.size w w' := by
 refine (cuts_table.calls a0 w).mono ?_
 rintro e w' ⟨v, rfl, hr, hb⟩
 obtain ⟨A, c, rfl⟩ := Kd.R_slice hr
 exact ⟨A, c, by unfold csig; rw [h]; rfl, hr, hb⟩
theorem cuts_table.no (a0 : Int) (h : cis a0 = false) (w : World) : Calls Try.prog 68 #[.int .u8 a0] w fun e w' => ∃ (A : Option Addr) (c : Nat), e = .returned (.tuple #[.agg #[.slice A (crays a0).length c, .int .u8 (cpar a0), .nilFunc], .bool false]) ∧ Below w.heap.size w w' := by
 refine (cuts_table.calls a0 w).mono ?_
 rintro e w' ⟨v, rfl, hr, hb⟩
 obtain ⟨A, c, rfl⟩ := Kd.R_slice hr
 exact ⟨A, c, by unfold csig; rw [h]; rfl, hb⟩
end Go.Proofs.Ytgaabjjenlbmhaa.PA
end

section
namespace Go.Proofs.Ytgaabjjenlbmhaa.PA
open Go.RowKit Go.Proofs.YtgaabjjenlbmhaaW.PrintWords Go.Proofs.YtgaabjjenlbmhaaW.PrintLast Go.Proofs.YtgaabjjenlbmhaaW.PrintMore
attribute [local go_sem] max2_int min2_int max_two min_two max_three min_three max_four min_four   -- for this text's walks alone
set_option linter.unusedVariables false
set_option linter.unusedSimpArgs false
def nat_May.f (l0 : List Int) : Option (Bool) := if (l0.length : Int) ≤ 4096 then (if (l0.length : Int) = 0 then (some true) else (if 0 ≤ (wrap64 ((l0.length : Int) - 1)) then (if (wrap64 ((l0.length : Int) - 1)) < (l0.length : Int) then (some ((rd l0 (wrap64 ((l0.length : Int) - 1))) != 0)) else (none)) else (none))) else (some false)
set_option maxHeartbeats 2000000 in
set_option maxRecDepth 100000 in
theorem nat_May.calls (A0 : Option Addr) (c0 : Nat) (l0 : List Int) (r : Bool) (w : World) (hr0 : Kd.C (Kd.int .u32) w A0 l0.length l0) (hc0 : l0.length ≤ c0) (h : nat_May.f l0 = some r) :
  Calls Try.prog 127 #[.slice A0 l0.length c0] w fun e w' => e = .returned (.bool r) ∧ Drawn0 w w' := by
 have HR0 := A0_ hr0
 have HC0 := A0_ hc0
 clear hr0 hc0
 have H : (if (l0.length : Int) ≤ 4096 then (if (l0.length : Int) = 0 then (some true) else (if 0 ≤ (wrap64 ((l0.length : Int) - 1)) then (if (wrap64 ((l0.length : Int) - 1)) < (l0.length : Int) then (some ((rd l0 (wrap64 ((l0.length : Int) - 1))) != 0)) else (none)) else (none))) else (some false)) = some r := h
 clear h
 by_cases c2 : (l0.length : Int) ≤ 4096
 ·rw [if_pos c2] at H
  have c2b0 : decide ((l0.length : Int) ≤ 4096) = true := decide_eq_true c2
  have c2b1 : decide (l0.length ≤ 4096) = true := decide_eq_true (by omega)
  clear c2
  by_cases c3 : (l0.length : Int) = 0
  ·rw [if_pos c3] at H
   have c3b0 : ((l0.length : Int) == 0) = true := beq_iff_eq.mpr c3
   have c3b1 : ((l0.length : Int) != 0) = false := bne_eq_false_iff_eq.mpr c3
   clear c3
   obtain rfl := Option.some.inj H
   go_enter Try.func127, Try.ntmps127
   go_wp2
   go_ret
   exact ⟨by first | rfl | (simp; done) | (simp [*]; done), by repeat (first | exact Drawn0.refl _ | apply Drawn0.step)⟩
  ·rw [if_neg c3] at H
   have c3b0 : ((l0.length : Int) == 0) = false := beq_eq_false_iff_ne.mpr c3
   have c3b1 : ((l0.length : Int) != 0) = true := bne_iff_ne.mpr c3
   have c3b2 : ¬ (l0 = []) := fun h_ => c3 (by rw [h_]; rfl)
   obtain ⟨ji4, hji4⟩ : ∃ j_ : Int, (wrap64 ((l0.length : Int) - 1)) = j_ := ⟨_, rfl⟩
   replace H : (if 0 ≤ (ji4) then (if (ji4) < (l0.length : Int) then (some ((rd l0 (ji4)) != 0)) else (none)) else (none)) = some r := by first | (rw [hji4] at H; exact H) | (simp only [hji4] at H ⊢; exact H)
   have hji4w : (IntKind.i64.wrap ((l0.length : Int) - 1)) = ji4 := (i64_w _).trans hji4
   by_cases c5 : 0 ≤ (ji4)
   ·rw [if_pos c5] at H
    have c5b0 : decide (0 ≤ (ji4)) = true := decide_eq_true c5
    clear c5
    by_cases c6 : (ji4) < (l0.length : Int)
    ·rw [if_pos c6] at H
     have c6b0 : decide ((ji4) < (l0.length : Int)) = true := decide_eq_true c6
     clear c6
     obtain rfl := Option.some.inj H
     have p694 : 0 ≤ ((ji4) : Int) := of_decide_eq_true (by first | (with_reducible assumption) | assumption)
     have q694 : (ji4) < (l0.length : Int) := of_decide_eq_true (by first | (with_reducible assumption) | assumption)
     obtain ⟨ad694, e694, hx694_0⟩ := Kd.at_int HR0.out (ji4) p694 q694
     cases e694
     replace p694 := eq_true p694
     replace q694 := eq_true q694
     go_enter Try.func127, Try.ntmps127
     go_wp2
     go_ret
     exact ⟨by first | rfl | (simp; done) | (simp only [← hji4] <;> (first | rfl | simp)) | (simp [*]; done), by repeat (first | exact Drawn0.refl _ | apply Drawn0.step)⟩
    ·rw [if_neg c6] at H
     exact absurd H (by simp)
   ·rw [if_neg c5] at H
    exact absurd H (by simp)
 ·rw [if_neg c2] at H
  have c2b0 : decide ((l0.length : Int) ≤ 4096) = false := decide_eq_false c2
  have c2b1 : decide (l0.length ≤ 4096) = false := decide_eq_false (by omega)
  clear c2
  obtain rfl := Option.some.inj H
  go_enter Try.func127, Try.ntmps127
  go_wp2
  go_ret
  exact ⟨by first | rfl | (simp; done) | (simp [*]; done), by repeat (first | exact Drawn0.refl _ | apply Drawn0.step)⟩
def dyad_inside.f (a0 : Int) : Option (Bool) := if (-16777216) ≤ a0 then (some (decide (a0 ≤ 16777216))) else (some false)
set_option maxHeartbeats 2000000 in
set_option maxRecDepth 100000 in
theorem dyad_inside.calls (a0 : Int) (r : Bool) (w : World) (h : dyad_inside.f a0 = some r) :
  Calls Try.prog 128 #[.int .i64 a0] w fun e w' => e = .returned (.bool r) ∧ Drawn0 w w' := by
 have H : (if (-16777216) ≤ a0 then (some (decide (a0 ≤ 16777216))) else (some false)) = some r := h
 clear h
 by_cases c2 : (-16777216) ≤ a0
 ·rw [if_pos c2] at H
  have c2b0 : decide ((-16777216) ≤ a0) = true := decide_eq_true c2
  clear c2
  obtain rfl := Option.some.inj H
  go_enter Try.func128, Try.ntmps128
  go_wp2
  go_ret
  exact ⟨by first | rfl | (simp; done) | (simp [*]; done), by repeat (first | exact Drawn0.refl _ | apply Drawn0.step)⟩
 ·rw [if_neg c2] at H
  have c2b0 : decide ((-16777216) ≤ a0) = false := decide_eq_false c2
  clear c2
  obtain rfl := Option.some.inj H
  go_enter Try.func128, Try.ntmps128
  go_wp2
  go_ret
  exact ⟨by first | rfl | (simp; done) | (simp [*]; done), by repeat (first | exact Drawn0.refl _ | apply Drawn0.step)⟩
def dyad_May.f (a0_0 : Bool) (l0_1 : List Int) (a0_2 : Int) : Option (Bool) := (nat_May.f l0_1).bind fun t696 => (if t696 = true then (if (l0_1.length : Int) = 0 then (if a0_0 = true then (some false) else (some (a0_2 == 0))) else (if 0 < (l0_1.length : Int) then (if (Go.bits .and .u32 (rd l0_1 0) 1) = 1 then ((dyad_inside.f a0_2).bind fun t698 => (some t698)) else (some false)) else (none))) else (some false))
set_option maxHeartbeats 2000000 in
set_option maxRecDepth 100000 in
theorem dyad_May.calls (a0_0 : Bool) (A0_1 : Option Addr) (c0_1 : Nat) (l0_1 : List Int) (a0_2 : Int) (r : Bool) (w : World) (hr0_1 : Kd.C (Kd.int .u32) w A0_1 l0_1.length l0_1) (hc0_1 : l0_1.length ≤ c0_1) (h : dyad_May.f a0_0 l0_1 a0_2 = some r) :
  Calls Try.prog 117 #[.agg #[.bool a0_0, .slice A0_1 l0_1.length c0_1, .int .i64 a0_2]] w fun e w' => e = .returned (.bool r) ∧ Below w.heap.size w w' := by
 have hu124 := Try.underlying124
 have HR0_1 := A0_ hr0_1
 have HC0_1 := A0_ hc0_1
 clear hr0_1 hc0_1
 have HB := A0_ (Below.refl w.heap.size w)
 have H : ((nat_May.f l0_1).bind fun t696 => (if t696 = true then (if (l0_1.length : Int) = 0 then (if a0_0 = true then (some false) else (some (a0_2 == 0))) else (if 0 < (l0_1.length : Int) then (if (Go.bits .and .u32 (rd l0_1 0) 1) = 1 then ((dyad_inside.f a0_2).bind fun t698 => (some t698)) else (some false)) else (none))) else (some false))) = some r := h
 clear h
 replace H := Option.bind_eq_some_iff.mp H
 obtain ⟨t696, A20, H⟩ := H
 replace H : (if t696 = true then (if (l0_1.length : Int) = 0 then (if a0_0 = true then (some false) else (some (a0_2 == 0))) else (if 0 < (l0_1.length : Int) then (if (Go.bits .and .u32 (rd l0_1 0) 1) = 1 then ((dyad_inside.f a0_2).bind fun t698 => (some t698)) else (some false)) else (none))) else (some false)) = some r := H
 have A2 := A0_ A20
 clear A20
 by_cases c3 : t696 = true
 ·subst c3
  have H1 : (if (l0_1.length : Int) = 0 then (if a0_0 = true then (some false) else (some (a0_2 == 0))) else (if 0 < (l0_1.length : Int) then (if (Go.bits .and .u32 (rd l0_1 0) 1) = 1 then ((dyad_inside.f a0_2).bind fun t698 => (some t698)) else (some false)) else (none))) = some r := by rw [if_pos rfl] at H; exact H
  clear H
  have H := H1
  clear H1
  by_cases c4 : (l0_1.length : Int) = 0
  ·rw [if_pos c4] at H
   have c4b0 : ((l0_1.length : Int) == 0) = true := beq_iff_eq.mpr c4
   have c4b1 : ((l0_1.length : Int) != 0) = false := bne_eq_false_iff_eq.mpr c4
   clear c4
   by_cases c5 : a0_0 = true
   ·subst c5
    have H1 : (some false) = some r := by rw [if_pos rfl] at H; exact H
    clear H
    have H := H1
    clear H1
    obtain rfl := Option.some.inj H
    go_enter Try.func117, Try.ntmps117
    go_wp2_with (first | ((with_reducible refine gate_dst (N := 1) rfl ?_); refine box_event ?hg (N := 1) ?hd (cs := #[.bool true, .slice A0_1 l0_1.length c0_1, .int .i64 a0_2]) (t := 124) ?hr ?_; (case hd => rfl); (case hg => rfl); (case hr => first | (go_simp; done) | (go_simp; rfl)); intro gb695 hg w6 hbox hb; have n0_ := A0_ (below_step (qm_ HB.out) hb); have n1_ := A0_ (hbox); have n2_ := A0_ ((by rw [hg]; exact (below_size (qm_ HB.out)) : w.heap.size ≤ gb695)); have n3_ := A0_ ((by rw [hg]; exact (below_size (qm_ HB.out)) : w.heap.size ≤ gb695)); clear HB; have HB := n0_; have BK695 := n1_; have GW695 := n2_; have GE695 := n3_; clear n0_ n1_ n2_ n3_ hb hbox hg; have hcz7 := bc3_ BK695.out; have hfz7 := bf3_ BK695.out) | ((with_reducible refine gate_callee (f := 127) rfl ?_); refine goesL_ (some 5) rfl rfl Try.func127 (by kernel_rfl) rfl #[.slice A0_1 l0_1.length c0_1] rfl (by (try simp only [List.map_toArray, List.map_cons, List.map_nil]); first | done | rfl | (simp only [List.length_drop, List.length_take]; rfl)) ?_; (with_reducible refine (nat_May.calls _ _ l0_1 true _ ?side1 ?side2 A2.out).mono ?_); (case side1 => repeat (first | exact (Kd.C_below HR0_1.out HB.out) | (with_reducible refine Kd.C_alloc ?_ _) | (with_reducible refine Kd.C_drewN ?_ _) | (with_reducible refine Kd.C_drew ?_))); (case side2 => exact HC0_1.out); rintro e w' ⟨rfl, ⟨nd, rfl⟩⟩; refine ⟨_, rfl, ?_⟩))
    go_ret
    exact ⟨by first | rfl | (simp [errW_none, errW_some] <;> rfl) | (simp [*, errW_none, errW_some] <;> rfl), by repeat (first | (with_reducible first | exact qm_ HB.out | apply qA_ | apply qN_ | apply qD_ | refine below_set ?_ GE695.out) | exact HB.out)⟩
   ·replace c5 := Bool.eq_false_iff.mpr c5
    subst c5
    have H1 : (some (a0_2 == 0)) = some r := by rw [if_neg (show ¬ (false = true) by decide)] at H; exact H
    clear H
    have H := H1
    clear H1
    obtain rfl := Option.some.inj H
    go_enter Try.func117, Try.ntmps117
    go_wp2_with (first | ((with_reducible refine gate_dst (N := 1) rfl ?_); refine box_event ?hg (N := 1) ?hd (cs := #[.bool false, .slice A0_1 l0_1.length c0_1, .int .i64 a0_2]) (t := 124) ?hr ?_; (case hd => rfl); (case hg => rfl); (case hr => first | (go_simp; done) | (go_simp; rfl)); intro gb695 hg w8 hbox hb; have n0_ := A0_ (below_step (qm_ HB.out) hb); have n1_ := A0_ (hbox); have n2_ := A0_ ((by rw [hg]; exact (below_size (qm_ HB.out)) : w.heap.size ≤ gb695)); have n3_ := A0_ ((by rw [hg]; exact (below_size (qm_ HB.out)) : w.heap.size ≤ gb695)); clear HB; have HB := n0_; have BK695 := n1_; have GW695 := n2_; have GE695 := n3_; clear n0_ n1_ n2_ n3_ hb hbox hg; have hcz9 := bc3_ BK695.out; have hfz9 := bf3_ BK695.out) | ((with_reducible refine gate_callee (f := 127) rfl ?_); refine goesL_ (some 5) rfl rfl Try.func127 (by kernel_rfl) rfl #[.slice A0_1 l0_1.length c0_1] rfl (by (try simp only [List.map_toArray, List.map_cons, List.map_nil]); first | done | rfl | (simp only [List.length_drop, List.length_take]; rfl)) ?_; (with_reducible refine (nat_May.calls _ _ l0_1 true _ ?side1 ?side2 A2.out).mono ?_); (case side1 => repeat (first | exact (Kd.C_below HR0_1.out HB.out) | (with_reducible refine Kd.C_alloc ?_ _) | (with_reducible refine Kd.C_drewN ?_ _) | (with_reducible refine Kd.C_drew ?_))); (case side2 => exact HC0_1.out); rintro e w' ⟨rfl, ⟨nd, rfl⟩⟩; refine ⟨_, rfl, ?_⟩))
    go_ret
    exact ⟨by first | rfl | (simp [errW_none, errW_some] <;> rfl) | (simp [*, errW_none, errW_some] <;> rfl), by repeat (first | (with_reducible first | exact qm_ HB.out | apply qA_ | apply qN_ | apply qD_ | refine below_set ?_ GE695.out) | exact HB.out)⟩
  ·rw [if_neg c4] at H
   have c4b0 : ((l0_1.length : Int) == 0) = false := beq_eq_false_iff_ne.mpr c4
   have c4b1 : ((l0_1.length : Int) != 0) = true := bne_iff_ne.mpr c4
   have c4b2 : ¬ (l0_1 = []) := fun h_ => c4 (by rw [h_]; rfl)
   by_cases c10 : 0 < (l0_1.length : Int)
   ·rw [if_pos c10] at H
    have c10b0 : decide (0 < (l0_1.length : Int)) = true := decide_eq_true c10
    have c10b1 : decide (0 < l0_1.length) = true := decide_eq_true (by omega)
    clear c10
    by_cases c11 : (Go.bits .and .u32 (rd l0_1 0) 1) = 1
    ·rw [if_pos c11] at H
     have c11b0 : ((Go.bits .and .u32 (rd l0_1 0) 1) == 1) = true := beq_iff_eq.mpr c11
     have c11b1 : ((Go.bits .and .u32 (rd l0_1 0) 1) != 1) = false := bne_eq_false_iff_eq.mpr c11
     clear c11
     replace H := Option.bind_eq_some_iff.mp H
     obtain ⟨t698, A120, H⟩ := H
     replace H : (some t698) = some r := H
     have A12 := A0_ A120
     clear A120
     obtain rfl := Option.some.inj H
     go_enter Try.func117, Try.ntmps117
     go_wp2_with (first | ((with_reducible refine gate_dst (N := 1) rfl ?_); refine box_event ?hg (N := 1) ?hd (cs := #[.bool a0_0, .slice A0_1 l0_1.length c0_1, .int .i64 a0_2]) (t := 124) ?hr ?_; (case hd => rfl); (case hg => rfl); (case hr => first | (go_simp; done) | (go_simp; rfl)); intro gb695 hg w13 hbox hb; have n0_ := A0_ (below_step (qm_ HB.out) hb); have n1_ := A0_ (hbox); have n2_ := A0_ ((by rw [hg]; exact (below_size (qm_ HB.out)) : w.heap.size ≤ gb695)); have n3_ := A0_ ((by rw [hg]; exact (below_size (qm_ HB.out)) : w.heap.size ≤ gb695)); clear HB; have HB := n0_; have BK695 := n1_; have GW695 := n2_; have GE695 := n3_; clear n0_ n1_ n2_ n3_ hb hbox hg; have hcz14 := bc3_ BK695.out; have hfz14 := bf3_ BK695.out) | ((with_reducible refine gate_callee (f := 127) rfl ?_); refine goesL_ (some 5) rfl rfl Try.func127 (by kernel_rfl) rfl #[.slice A0_1 l0_1.length c0_1] rfl (by (try simp only [List.map_toArray, List.map_cons, List.map_nil]); first | done | rfl | (simp only [List.length_drop, List.length_take]; rfl)) ?_; (with_reducible refine (nat_May.calls _ _ l0_1 true _ ?side1 ?side2 A2.out).mono ?_); (case side1 => repeat (first | exact (Kd.C_below HR0_1.out HB.out) | (with_reducible refine Kd.C_alloc ?_ _) | (with_reducible refine Kd.C_drewN ?_ _) | (with_reducible refine Kd.C_drew ?_))); (case side2 => exact HC0_1.out); rintro e w' ⟨rfl, ⟨nd, rfl⟩⟩; refine ⟨_, rfl, ?_⟩; have p697 : 0 ≤ (0 : Int) := (by omega); have q697 : 0 < (l0_1.length : Int) := of_decide_eq_true (by first | (with_reducible assumption) | assumption); obtain ⟨ad697, e697, hx697_0⟩ := Kd.at_int HR0_1.out 0 p697 q697; cases e697; have qi697 : (0 < l0_1.length) = True := eq_true (by omega); (try rw [show ((0 : Int)).toNat = 0 from rfl] at hx697_0); (try rw [Addr.add_zero'] at hx697_0); replace hx697_0 := (HB.out.cell (World.block_lt_of_cell? w _ hx697_0)).trans hx697_0; replace p697 := eq_true p697; replace q697 := eq_true q697) | (go_at_call 128; (with_reducible refine (dyad_inside.calls a0_2 t698 _ A12.out).mono ?_); rintro e w' ⟨rfl, ⟨nd, rfl⟩⟩))
     go_ret
     exact ⟨by first | rfl | (simp [errW_none, errW_some] <;> rfl) | (simp [*, errW_none, errW_some] <;> rfl), by repeat (first | (with_reducible first | exact qm_ HB.out | apply qA_ | apply qN_ | apply qD_ | refine below_set ?_ GE695.out) | exact HB.out)⟩
    ·rw [if_neg c11] at H
     have c11b0 : ((Go.bits .and .u32 (rd l0_1 0) 1) == 1) = false := beq_eq_false_iff_ne.mpr c11
     have c11b1 : ((Go.bits .and .u32 (rd l0_1 0) 1) != 1) = true := bne_iff_ne.mpr c11
     obtain rfl := Option.some.inj H
     go_enter Try.func117, Try.ntmps117
     go_wp2_with (first | ((with_reducible refine gate_dst (N := 1) rfl ?_); refine box_event ?hg (N := 1) ?hd (cs := #[.bool a0_0, .slice A0_1 l0_1.length c0_1, .int .i64 a0_2]) (t := 124) ?hr ?_; (case hd => rfl); (case hg => rfl); (case hr => first | (go_simp; done) | (go_simp; rfl)); intro gb695 hg w15 hbox hb; have n0_ := A0_ (below_step (qm_ HB.out) hb); have n1_ := A0_ (hbox); have n2_ := A0_ ((by rw [hg]; exact (below_size (qm_ HB.out)) : w.heap.size ≤ gb695)); have n3_ := A0_ ((by rw [hg]; exact (below_size (qm_ HB.out)) : w.heap.size ≤ gb695)); clear HB; have HB := n0_; have BK695 := n1_; have GW695 := n2_; have GE695 := n3_; clear n0_ n1_ n2_ n3_ hb hbox hg; have hcz16 := bc3_ BK695.out; have hfz16 := bf3_ BK695.out) | ((with_reducible refine gate_callee (f := 127) rfl ?_); refine goesL_ (some 5) rfl rfl Try.func127 (by kernel_rfl) rfl #[.slice A0_1 l0_1.length c0_1] rfl (by (try simp only [List.map_toArray, List.map_cons, List.map_nil]); first | done | rfl | (simp only [List.length_drop, List.length_take]; rfl)) ?_; (with_reducible refine (nat_May.calls _ _ l0_1 true _ ?side1 ?side2 A2.out).mono ?_); (case side1 => repeat (first | exact (Kd.C_below HR0_1.out HB.out) | (with_reducible refine Kd.C_alloc ?_ _) | (with_reducible refine Kd.C_drewN ?_ _) | (with_reducible refine Kd.C_drew ?_))); (case side2 => exact HC0_1.out); rintro e w' ⟨rfl, ⟨nd, rfl⟩⟩; refine ⟨_, rfl, ?_⟩; have p697 : 0 ≤ (0 : Int) := (by omega); have q697 : 0 < (l0_1.length : Int) := of_decide_eq_true (by first | (with_reducible assumption) | assumption); obtain ⟨ad697, e697, hx697_0⟩ := Kd.at_int HR0_1.out 0 p697 q697; cases e697; have qi697 : (0 < l0_1.length) = True := eq_true (by omega); (try rw [show ((0 : Int)).toNat = 0 from rfl] at hx697_0); (try rw [Addr.add_zero'] at hx697_0); replace hx697_0 := (HB.out.cell (World.block_lt_of_cell? w _ hx697_0)).trans hx697_0; replace p697 := eq_true p697; replace q697 := eq_true q697))
     go_ret
     exact ⟨by first | rfl | (simp [errW_none, errW_some] <;> rfl) | (simp [*, errW_none, errW_some] <;> rfl), by repeat (first | (with_reducible first | exact qm_ HB.out | apply qA_ | apply qN_ | apply qD_ | refine below_set ?_ GE695.out) | exact HB.out)⟩
   ·rw [if_neg c10] at H
    exact absurd H (by simp)
 ·replace c3 := Bool.eq_false_iff.mpr c3
  subst c3
  have H1 : (some false) = some r := by rw [if_neg (show ¬ (false = true) by decide)] at H; exact H
  clear H
  have H := H1
  clear H1
  obtain rfl := Option.some.inj H
  go_enter Try.func117, Try.ntmps117
  go_wp2_with (first | ((with_reducible refine gate_dst (N := 1) rfl ?_); refine box_event ?hg (N := 1) ?hd (cs := #[.bool a0_0, .slice A0_1 l0_1.length c0_1, .int .i64 a0_2]) (t := 124) ?hr ?_; (case hd => rfl); (case hg => rfl); (case hr => first | (go_simp; done) | (go_simp; rfl)); intro gb695 hg w17 hbox hb; have n0_ := A0_ (below_step (qm_ HB.out) hb); have n1_ := A0_ (hbox); have n2_ := A0_ ((by rw [hg]; exact (below_size (qm_ HB.out)) : w.heap.size ≤ gb695)); have n3_ := A0_ ((by rw [hg]; exact (below_size (qm_ HB.out)) : w.heap.size ≤ gb695)); clear HB; have HB := n0_; have BK695 := n1_; have GW695 := n2_; have GE695 := n3_; clear n0_ n1_ n2_ n3_ hb hbox hg; have hcz18 := bc3_ BK695.out; have hfz18 := bf3_ BK695.out) | ((with_reducible refine gate_callee (f := 127) rfl ?_); refine goesL_ (some 5) rfl rfl Try.func127 (by kernel_rfl) rfl #[.slice A0_1 l0_1.length c0_1] rfl (by (try simp only [List.map_toArray, List.map_cons, List.map_nil]); first | done | rfl | (simp only [List.length_drop, List.length_take]; rfl)) ?_; (with_reducible refine (nat_May.calls _ _ l0_1 false _ ?side1 ?side2 A2.out).mono ?_); (case side1 => repeat (first | exact (Kd.C_below HR0_1.out HB.out) | (with_reducible refine Kd.C_alloc ?_ _) | (with_reducible refine Kd.C_drewN ?_ _) | (with_reducible refine Kd.C_drew ?_))); (case side2 => exact HC0_1.out); rintro e w' ⟨rfl, ⟨nd, rfl⟩⟩; refine ⟨_, rfl, ?_⟩))
  go_ret
  exact ⟨by first | rfl | (simp [errW_none, errW_some] <;> rfl) | (simp [*, errW_none, errW_some] <;> rfl), by repeat (first | (with_reducible first | exact qm_ HB.out | apply qA_ | apply qN_ | apply qD_ | refine below_set ?_ GE695.out) | exact HB.out)⟩
end Go.Proofs.Ytgaabjjenlbmhaa.PA
end

section
namespace Go.Proofs.Ytgaabjjenlbmhaa.PA
open Go.RowKit Go.Proofs.YtgaabjjenlbmhaaW.PrintWords Go.Proofs.YtgaabjjenlbmhaaW.PrintLast Go.Proofs.YtgaabjjenlbmhaaW.PrintMore
attribute [local go_sem] max2_int min2_int max_two min_two max_three min_three max_four min_four   -- for this text's walks alone
set_option linter.unusedVariables false
set_option linter.unusedSimpArgs false
mutual
def nat_Num.j0 : Nat → List Int → Bool → Option (Int × Bool)
 | 0, _, _ => none
 | k + 1, x0, x14 => if x14 = true then (some (0, false)) else (nat_Num.l0 k 0 x0 (x0.length : Int) 0)
def nat_Num.l0 : Nat → Int → List Int → Int → Int → Option (Int × Bool)
 | 0, _, _, _, _ => none
 | k + 1, x4, x15, x16, x17 => if x17 < x16 then (if 0 ≤ x17 then (if x17 < (x15.length : Int) then (if 0 ≤ (wrap64 (32 * x17)) then (nat_Num.l0 k (Go.bits .or .u64 x4 (shl .u64 (IntKind.u64.wrap (rd x15 x17)) (wrap64 (32 * x17)))) x15 x16 (wrap64 (x17 + 1))) else (none)) else (none)) else (none)) else (some (x4, true))
end
def nat_Num.f (k : Nat) (l0 : List Int) : Option (Int × Bool) := (nat_May.f l0).bind fun t699 => (if t699 = true then (nat_Num.j0 k l0 (decide ((l0.length : Int) > 2))) else (nat_Num.j0 k l0 true))
theorem nat_Num.mono_l : ∀ k, (∀ y0 y1, LeO (nat_Num.j0 k y0 y1) (nat_Num.j0 (k + 1) y0 y1)) ∧ (∀ y0 y1 y2 y3, LeO (nat_Num.l0 k y0 y1 y2 y3) (nat_Num.l0 (k + 1) y0 y1 y2 y3))
 | 0 => ⟨fun _ _ r h => by simp [nat_Num.j0] at h, fun _ _ _ _ r h => by simp [nat_Num.l0] at h⟩
 | k + 1 => by
  obtain ⟨ih0, ih1⟩ := nat_Num.mono_l k
  refine ⟨?_, ?_⟩
  ·intro y0 y1
   unfold nat_Num.j0
   repeat' first
   | (with_reducible exact ih0 _ _)
   | (with_reducible exact ih1 _ _ _ _)
   | (with_reducible exact LeO.refl _)
   | (with_reducible exact LeO.none _)
   | (with_reducible refine LeO.ite ?_ ?_)
   | (with_reducible refine LeO.bind ?_ (fun _ => ?_))
   | exact ih0 _ _
   | exact ih1 _ _ _ _
   | exact LeO.none _
   | refine LeO.ite ?_ ?_
   | refine LeO.bind ?_ (fun _ => ?_)
  ·intro y0 y1 y2 y3
   unfold nat_Num.l0
   repeat' first
   | (with_reducible exact ih0 _ _)
   | (with_reducible exact ih1 _ _ _ _)
   | (with_reducible exact LeO.refl _)
   | (with_reducible exact LeO.none _)
   | (with_reducible refine LeO.ite ?_ ?_)
   | (with_reducible refine LeO.bind ?_ (fun _ => ?_))
   | exact ih0 _ _
   | exact ih1 _ _ _ _
   | exact LeO.none _
   | refine LeO.ite ?_ ?_
   | refine LeO.bind ?_ (fun _ => ?_)
theorem nat_Num.mono : ∀ a0 k, LeO (nat_Num.f k a0) (nat_Num.f (k + 1) a0) := by
 intro a0 k
 obtain ⟨ih0, ih1⟩ := nat_Num.mono_l k
 unfold nat_Num.f
 repeat' first
   | (with_reducible exact ih0 _ _)
   | (with_reducible exact ih1 _ _ _ _)
   | (with_reducible exact LeO.refl _)
   | (with_reducible exact LeO.none _)
   | (with_reducible refine LeO.ite ?_ ?_)
   | (with_reducible refine LeO.bind ?_ (fun _ => ?_))
   | exact ih0 _ _
   | exact ih1 _ _ _ _
   | exact LeO.none _
   | refine LeO.ite ?_ ?_
   | refine LeO.bind ?_ (fun _ => ?_)
set_option maxHeartbeats 2000000 in
set_option maxRecDepth 100000 in
theorem nat_Num.calls (k : Nat) (A0 : Option Addr) (c0 : Nat) (l0 : List Int) (r1 : Int) (r2 : Bool) (w : World) (hr0 : Kd.C (Kd.int .u32) w A0 l0.length l0) (hc0 : l0.length ≤ c0) (h : nat_Num.f k l0 = some (r1, r2)) :
  Calls Try.prog 118 #[.slice A0 l0.length c0] w fun e w' => e = .returned (.tuple #[.int .u64 r1, .bool r2]) ∧ Drawn0 w w' := by
 have HR0 := A0_ hr0
 have HC0 := A0_ hc0
 clear hr0 hc0
 have H : ((nat_May.f l0).bind fun t699 => (if t699 = true then (nat_Num.j0 k l0 (decide ((l0.length : Int) > 2))) else (nat_Num.j0 k l0 true))) = some (r1, r2) := h
 clear h
 have HC2 := A0_ H
 clear H
 go_enter Try.func118, Try.ntmps118
 go_upto_region 1 with (fail)
 go_cut [14] (fun v14 wc => ∃ (kq : Nat) (x14_1 : Bool), v14 = .bool x14_1 ∧ Aside0 (nat_Num.j0 kq l0 x14_1 = some (r1, r2)) ∧ Aside0 (kq ≤ k) ∧ Drawn0 w wc)
 case first =>
  have H := HC2.out
  clear HC2
  replace H := Option.bind_eq_some_iff.mp H
  obtain ⟨t699, A30, H⟩ := H
  replace H : (if t699 = true then (nat_Num.j0 k l0 (decide ((l0.length : Int) > 2))) else (nat_Num.j0 k l0 true)) = some (r1, r2) := H
  have A3 := A0_ A30
  clear A30
  by_cases c4 : t699 = true
  ·subst c4
   have H1 : (nat_Num.j0 k l0 (decide ((l0.length : Int) > 2))) = some (r1, r2) := by rw [if_pos rfl] at H; exact H
   clear H
   have H := H1
   clear H1
   have H' := A0_ H
   clear H
   go_wp2_with (first | ((with_reducible refine gate_callee (f := 127) rfl ?_); refine goesL_ (some 8) rfl rfl Try.func127 (by kernel_rfl) rfl #[.slice A0 l0.length c0] rfl (by (try simp only [List.map_toArray, List.map_cons, List.map_nil]); first | done | rfl | (simp only [List.length_drop, List.length_take]; rfl)) ?_; (with_reducible refine (nat_May.calls _ _ l0 true _ ?side1 ?side2 A3.out).mono ?_); (case side1 => repeat (first | exact HR0.out | (with_reducible refine Kd.C_alloc ?_ _) | (with_reducible refine Kd.C_drewN ?_ _) | (with_reducible refine Kd.C_drew ?_))); (case side2 => exact HC0.out); rintro e w' ⟨rfl, ⟨nd, rfl⟩⟩; refine ⟨_, rfl, ?_⟩))
   go_meet
   case rel => exact ⟨_, (decide ((l0.length : Int) > 2)), (by first | rfl | (simp; done) | (simp [*]; done)), H', ⟨by first | omega | exact Nat.le_refl _⟩, by repeat (first | exact Drawn0.refl _ | apply Drawn0.step)⟩
  ·replace c4 := Bool.eq_false_iff.mpr c4
   subst c4
   have H1 : (nat_Num.j0 k l0 true) = some (r1, r2) := by rw [if_neg (show ¬ (false = true) by decide)] at H; exact H
   clear H
   have H := H1
   clear H1
   have H' := A0_ H
   clear H
   go_wp2_with (first | ((with_reducible refine gate_callee (f := 127) rfl ?_); refine goesL_ (some 8) rfl rfl Try.func127 (by kernel_rfl) rfl #[.slice A0 l0.length c0] rfl (by (try simp only [List.map_toArray, List.map_cons, List.map_nil]); first | done | rfl | (simp only [List.length_drop, List.length_take]; rfl)) ?_; (with_reducible refine (nat_May.calls _ _ l0 false _ ?side1 ?side2 A3.out).mono ?_); (case side1 => repeat (first | exact HR0.out | (with_reducible refine Kd.C_alloc ?_ _) | (with_reducible refine Kd.C_drewN ?_ _) | (with_reducible refine Kd.C_drew ?_))); (case side2 => exact HC0.out); rintro e w' ⟨rfl, ⟨nd, rfl⟩⟩; refine ⟨_, rfl, ?_⟩))
   go_meet
   case rel => exact ⟨_, (true), (by first | rfl | (simp; done) | (simp [*]; done)), H', ⟨by first | omega | exact Nat.le_refl _⟩, by repeat (first | exact Drawn0.refl _ | apply Drawn0.step)⟩
 case rest =>
  clear HC2
  try clear c1
  try clear p2
  try clear c4
  obtain ⟨kq, x14_1, rfl, HA, HJ1, ⟨mc1, rfl⟩⟩ := hcut
  cases kq with
  | zero => exact absurd HA.out (by simp [nat_Num.j0])
  | succ kj1 =>
   have H := HA.out
   clear HA
   simp only [nat_Num.j0] at H
   by_cases c5 : x14_1 = true
   ·subst c5
    have H1 : (some (0, false)) = some (r1, r2) := by rw [if_pos rfl] at H; exact H
    clear H
    have H := H1
    clear H1
    simp only [Option.some.injEq, Prod.mk.injEq] at H
    obtain ⟨rfl, rfl⟩ := H
    go_wp2
    go_ret2
    exact ⟨by first | rfl | (simp; done) | (simp [*]; done), by repeat (first | exact Drawn0.refl _ | apply Drawn0.step)⟩
   ·replace c5 := Bool.eq_false_iff.mpr c5
    subst c5
    have H1 : (nat_Num.l0 kj1 0 l0 (l0.length : Int) 0) = some (r1, r2) := by rw [if_neg (show ¬ (false = true) by decide)] at H; exact H
    clear H
    have H := H1
    clear H1
    have H' := A0_ H
    clear H
    go_wp2
    go_loopg [4, 17] kj1 (fun kq v4 v17 w' => ∃ (x4_2 : Int) (x17_2 : Int), v4 = .int .u64 x4_2 ∧ v17 = .int .i64 x17_2 ∧ Aside0 (nat_Num.l0 kq x4_2 l0 (l0.length : Int) x17_2 = some (r1, r2)) ∧ Aside0 (kq ≤ kj1) ∧ Drawn0 w w')
    case atStart => exact ⟨(0), (0), (by first | rfl | (simp; done) | (simp [*]; done)), (by first | rfl | (simp; done) | (simp [*]; done)), H', ⟨Nat.le_refl _⟩, by repeat (first | exact Drawn0.refl _ | apply Drawn0.step)⟩
    case round =>
     clear H'
     try clear c1
     try clear p2
     try clear c4
     try clear c5
     try clear p2
     obtain ⟨x4_2, x17_2, rfl, rfl, HA, HK2, ⟨m2, rfl⟩⟩ := hrel
     cases gk with
     | zero => exact absurd HA.out (by simp [nat_Num.l0])
     | succ k2 =>
      have H := HA.out
      clear HA
      simp only [nat_Num.l0] at H
      by_cases c6 : x17_2 < (l0.length : Int)
      ·rw [if_pos c6] at H
       have c6b0 : decide (x17_2 < (l0.length : Int)) = true := decide_eq_true c6
       clear c6
       by_cases c7 : 0 ≤ x17_2
       ·rw [if_pos c7] at H
        have c7b0 : decide (0 ≤ x17_2) = true := decide_eq_true c7
        clear c7
        by_cases c8 : x17_2 < (l0.length : Int)
        ·rw [if_pos c8] at H
         have c8b0 : decide (x17_2 < (l0.length : Int)) = true := decide_eq_true c8
         clear c8
         obtain ⟨ji9, hji9⟩ : ∃ j_ : Int, (wrap64 (32 * x17_2)) = j_ := ⟨_, rfl⟩
         replace H : (if 0 ≤ (ji9) then (nat_Num.l0 k2 (Go.bits .or .u64 x4_2 (shl .u64 (IntKind.u64.wrap (rd l0 x17_2)) (ji9))) l0 (l0.length : Int) (wrap64 (x17_2 + 1))) else (none)) = some (r1, r2) := by first | (rw [hji9] at H; exact H) | (simp only [hji9] at H ⊢; exact H)
         have hji9w : (IntKind.i64.wrap (32 * x17_2)) = ji9 := (i64_w _).trans hji9
         by_cases c10 : 0 ≤ (ji9)
         ·rw [if_pos c10] at H
          have c10b0 := eq_true c10
          have c10b1 : decide (0 ≤ (ji9)) = true := decide_eq_true c10
          clear c10
          obtain ⟨ji11, hji11⟩ : ∃ j_ : Int, (shl .u64 (IntKind.u64.wrap (rd l0 x17_2)) (ji9)) = j_ := ⟨_, rfl⟩
          replace H : (nat_Num.l0 k2 (Go.bits .or .u64 x4_2 (ji11)) l0 (l0.length : Int) (wrap64 (x17_2 + 1))) = some (r1, r2) := by first | (rw [hji11] at H; exact H) | (simp only [hji11] at H ⊢; exact H)
          have hji11_ : (IntKind.u64.wrap ((IntKind.u64.wrap (rd l0 x17_2)) * 2 ^ min (ji9).toNat 64)) = ji11 := hji11
          have hji11z : (ji9) ≤ 64 → (IntKind.u64.wrap ((IntKind.u64.wrap (rd l0 x17_2)) * 2 ^ (ji9).toNat)) = ji11 := shl_small hji11
          have H' := A0_ H
          clear H
          have p700 : 0 ≤ (x17_2 : Int) := of_decide_eq_true (by first | (with_reducible assumption) | assumption)
          have q700 : x17_2 < (l0.length : Int) := of_decide_eq_true (by first | (with_reducible assumption) | assumption)
          obtain ⟨ad700, e700, hx700_0⟩ := Kd.at_int HR0.out x17_2 p700 q700
          cases e700
          replace p700 := eq_true p700
          replace q700 := eq_true q700
          go_wp2
          first | go_roundg k2 | ((try subst hji11); (try subst hji9); go_roundg k2)
          case measure => have := HJ1.out; have := HK2.out; omega
          case rel => exact ⟨(Go.bits .or .u64 x4_2 (ji11)), (wrap64 (x17_2 + 1)), (by first | rfl | (simp; done) | (simp only [← hji11] <;> (first | rfl | simp)) | (simp [*]; done)), (by first | rfl | (simp; done) | (simp [*]; done)), H', ⟨by have := HJ1.out; have := HK2.out; omega⟩, by repeat (first | exact Drawn0.refl _ | apply Drawn0.step)⟩
         ·rw [if_neg c10] at H
          exact absurd H (by simp)
        ·rw [if_neg c8] at H
         exact absurd H (by simp)
       ·rw [if_neg c7] at H
        exact absurd H (by simp)
      ·rw [if_neg c6] at H
       have c6b0 : decide (x17_2 < (l0.length : Int)) = false := decide_eq_false c6
       clear c6
       simp only [Option.some.injEq, Prod.mk.injEq] at H
       obtain ⟨rfl, rfl⟩ := H
       go_wp2
       go_ret2
       exact ⟨by first | rfl | (simp; done) | (simp [*]; done), by repeat (first | exact Drawn0.refl _ | apply Drawn0.step)⟩
end Go.Proofs.Ytgaabjjenlbmhaa.PA
end

section
namespace Go.Proofs.Ytgaabjjenlbmhaa.PA
open Go.RowKit Go.Proofs.YtgaabjjenlbmhaaW.PrintWords Go.Proofs.YtgaabjjenlbmhaaW.PrintLast Go.Proofs.YtgaabjjenlbmhaaW.PrintMore
attribute [local go_sem] max2_int min2_int max_two min_two max_three min_three max_four min_four   -- for this text's walks alone
set_option linter.unusedVariables false
set_option linter.unusedSimpArgs false
def bits_Len64.j0 : Nat → Int → Int → Option (Int)
 | 0, _, _ => none
 | k + 1, x0, x2 => if x0 ≥ 65536 then (if (x0 / 65536) ≥ 256 then (if 0 ≤ (((x0 / 65536) / 256) % 256) then (if (((x0 / 65536) / 256) % 256) < 256 then (some (wrap64 ((wrap64 ((wrap64 (x2 + 16)) + 8)) + (wrap64 (bt (⟨#[0, 1, 2, 2, 3, 3, 3, 3, 4, 4, 4, 4, 4, 4, 4, 4, 5, 5, 5, 5, 5, 5, 5, 5, 5, 5, 5, 5, 5, 5, 5, 5, 6, 6, 6, 6, 6, 6, 6, 6, 6, 6, 6, 6, 6, 6, 6, 6, 6, 6, 6, 6, 6, 6, 6, 6, 6, 6, 6, 6, 6, 6, 6, 6, 7, 7, 7, 7, 7, 7, 7, 7, 7, 7, 7, 7, 7, 7, 7, 7, 7, 7, 7, 7, 7, 7, 7, 7, 7, 7, 7, 7, 7, 7, 7, 7, 7, 7, 7, 7, 7, 7, 7, 7, 7, 7, 7, 7, 7, 7, 7, 7, 7, 7, 7, 7, 7, 7, 7, 7, 7, 7, 7, 7, 7, 7, 7, 7, 8, 8, 8, 8, 8, 8, 8, 8, 8, 8, 8, 8, 8, 8, 8, 8, 8, 8, 8, 8, 8, 8, 8, 8, 8, 8, 8, 8, 8, 8, 8, 8, 8, 8, 8, 8, 8, 8, 8, 8, 8, 8, 8, 8, 8, 8, 8, 8, 8, 8, 8, 8, 8, 8, 8, 8, 8, 8, 8, 8, 8, 8, 8, 8, 8, 8, 8, 8, 8, 8, 8, 8, 8, 8, 8, 8, 8, 8, 8, 8, 8, 8, 8, 8, 8, 8, 8, 8, 8, 8, 8, 8, 8, 8, 8, 8, 8, 8, 8, 8, 8, 8, 8, 8, 8, 8, 8, 8, 8, 8, 8, 8, 8, 8, 8, 8, 8, 8, 8, 8, 8, 8, 8, 8, 8, 8, 8, 8]⟩ : ByteArray) (((x0 / 65536) / 256) % 256)))))) else (none)) else (none)) else (if 0 ≤ ((x0 / 65536) % 256) then (if ((x0 / 65536) % 256) < 256 then (some (wrap64 ((wrap64 (x2 + 16)) + (wrap64 (bt (⟨#[0, 1, 2, 2, 3, 3, 3, 3, 4, 4, 4, 4, 4, 4, 4, 4, 5, 5, 5, 5, 5, 5, 5, 5, 5, 5, 5, 5, 5, 5, 5, 5, 6, 6, 6, 6, 6, 6, 6, 6, 6, 6, 6, 6, 6, 6, 6, 6, 6, 6, 6, 6, 6, 6, 6, 6, 6, 6, 6, 6, 6, 6, 6, 6, 7, 7, 7, 7, 7, 7, 7, 7, 7, 7, 7, 7, 7, 7, 7, 7, 7, 7, 7, 7, 7, 7, 7, 7, 7, 7, 7, 7, 7, 7, 7, 7, 7, 7, 7, 7, 7, 7, 7, 7, 7, 7, 7, 7, 7, 7, 7, 7, 7, 7, 7, 7, 7, 7, 7, 7, 7, 7, 7, 7, 7, 7, 7, 7, 8, 8, 8, 8, 8, 8, 8, 8, 8, 8, 8, 8, 8, 8, 8, 8, 8, 8, 8, 8, 8, 8, 8, 8, 8, 8, 8, 8, 8, 8, 8, 8, 8, 8, 8, 8, 8, 8, 8, 8, 8, 8, 8, 8, 8, 8, 8, 8, 8, 8, 8, 8, 8, 8, 8, 8, 8, 8, 8, 8, 8, 8, 8, 8, 8, 8, 8, 8, 8, 8, 8, 8, 8, 8, 8, 8, 8, 8, 8, 8, 8, 8, 8, 8, 8, 8, 8, 8, 8, 8, 8, 8, 8, 8, 8, 8, 8, 8, 8, 8, 8, 8, 8, 8, 8, 8, 8, 8, 8, 8, 8, 8, 8, 8, 8, 8, 8, 8, 8, 8, 8, 8, 8, 8, 8, 8, 8, 8]⟩ : ByteArray) ((x0 / 65536) % 256)))))) else (none)) else (none))) else (if x0 ≥ 256 then (if 0 ≤ ((x0 / 256) % 256) then (if ((x0 / 256) % 256) < 256 then (some (wrap64 ((wrap64 (x2 + 8)) + (wrap64 (bt (⟨#[0, 1, 2, 2, 3, 3, 3, 3, 4, 4, 4, 4, 4, 4, 4, 4, 5, 5, 5, 5, 5, 5, 5, 5, 5, 5, 5, 5, 5, 5, 5, 5, 6, 6, 6, 6, 6, 6, 6, 6, 6, 6, 6, 6, 6, 6, 6, 6, 6, 6, 6, 6, 6, 6, 6, 6, 6, 6, 6, 6, 6, 6, 6, 6, 7, 7, 7, 7, 7, 7, 7, 7, 7, 7, 7, 7, 7, 7, 7, 7, 7, 7, 7, 7, 7, 7, 7, 7, 7, 7, 7, 7, 7, 7, 7, 7, 7, 7, 7, 7, 7, 7, 7, 7, 7, 7, 7, 7, 7, 7, 7, 7, 7, 7, 7, 7, 7, 7, 7, 7, 7, 7, 7, 7, 7, 7, 7, 7, 8, 8, 8, 8, 8, 8, 8, 8, 8, 8, 8, 8, 8, 8, 8, 8, 8, 8, 8, 8, 8, 8, 8, 8, 8, 8, 8, 8, 8, 8, 8, 8, 8, 8, 8, 8, 8, 8, 8, 8, 8, 8, 8, 8, 8, 8, 8, 8, 8, 8, 8, 8, 8, 8, 8, 8, 8, 8, 8, 8, 8, 8, 8, 8, 8, 8, 8, 8, 8, 8, 8, 8, 8, 8, 8, 8, 8, 8, 8, 8, 8, 8, 8, 8, 8, 8, 8, 8, 8, 8, 8, 8, 8, 8, 8, 8, 8, 8, 8, 8, 8, 8, 8, 8, 8, 8, 8, 8, 8, 8, 8, 8, 8, 8, 8, 8, 8, 8, 8, 8, 8, 8, 8, 8, 8, 8, 8, 8]⟩ : ByteArray) ((x0 / 256) % 256)))))) else (none)) else (none)) else (if 0 ≤ ((x0) % 256) then (if ((x0) % 256) < 256 then (some (wrap64 (x2 + (wrap64 (bt (⟨#[0, 1, 2, 2, 3, 3, 3, 3, 4, 4, 4, 4, 4, 4, 4, 4, 5, 5, 5, 5, 5, 5, 5, 5, 5, 5, 5, 5, 5, 5, 5, 5, 6, 6, 6, 6, 6, 6, 6, 6, 6, 6, 6, 6, 6, 6, 6, 6, 6, 6, 6, 6, 6, 6, 6, 6, 6, 6, 6, 6, 6, 6, 6, 6, 7, 7, 7, 7, 7, 7, 7, 7, 7, 7, 7, 7, 7, 7, 7, 7, 7, 7, 7, 7, 7, 7, 7, 7, 7, 7, 7, 7, 7, 7, 7, 7, 7, 7, 7, 7, 7, 7, 7, 7, 7, 7, 7, 7, 7, 7, 7, 7, 7, 7, 7, 7, 7, 7, 7, 7, 7, 7, 7, 7, 7, 7, 7, 7, 8, 8, 8, 8, 8, 8, 8, 8, 8, 8, 8, 8, 8, 8, 8, 8, 8, 8, 8, 8, 8, 8, 8, 8, 8, 8, 8, 8, 8, 8, 8, 8, 8, 8, 8, 8, 8, 8, 8, 8, 8, 8, 8, 8, 8, 8, 8, 8, 8, 8, 8, 8, 8, 8, 8, 8, 8, 8, 8, 8, 8, 8, 8, 8, 8, 8, 8, 8, 8, 8, 8, 8, 8, 8, 8, 8, 8, 8, 8, 8, 8, 8, 8, 8, 8, 8, 8, 8, 8, 8, 8, 8, 8, 8, 8, 8, 8, 8, 8, 8, 8, 8, 8, 8, 8, 8, 8, 8, 8, 8, 8, 8, 8, 8, 8, 8, 8, 8, 8, 8, 8, 8, 8, 8, 8, 8, 8, 8]⟩ : ByteArray) ((x0) % 256)))))) else (none)) else (none)))
def bits_Len64.f (k : Nat) (a0 : Int) : Option (Int) := if a0 ≥ 4294967296 then (bits_Len64.j0 k (a0 / 4294967296) 32) else (bits_Len64.j0 k a0 0)
theorem bits_Len64.mono_l : ∀ k, (∀ y0 y1, LeO (bits_Len64.j0 k y0 y1) (bits_Len64.j0 (k + 1) y0 y1))
 | 0 => fun _ _ r h => by simp [bits_Len64.j0] at h
 | k + 1 => by
  have ih0 := bits_Len64.mono_l k
  ·intro y0 y1
   unfold bits_Len64.j0
   repeat' first
   | (with_reducible exact ih0 _ _)
   | (with_reducible exact LeO.refl _)
   | (with_reducible exact LeO.none _)
   | (with_reducible refine LeO.ite ?_ ?_)
   | (with_reducible refine LeO.bind ?_ (fun _ => ?_))
   | exact ih0 _ _
   | exact LeO.none _
   | refine LeO.ite ?_ ?_
   | refine LeO.bind ?_ (fun _ => ?_)
theorem bits_Len64.mono : ∀ a0 k, LeO (bits_Len64.f k a0) (bits_Len64.f (k + 1) a0) := by
 intro a0 k
 have ih0 := bits_Len64.mono_l k
 unfold bits_Len64.f
 repeat' first
   | (with_reducible exact ih0 _ _)
   | (with_reducible exact LeO.refl _)
   | (with_reducible exact LeO.none _)
   | (with_reducible refine LeO.ite ?_ ?_)
   | (with_reducible refine LeO.bind ?_ (fun _ => ?_))
   | exact ih0 _ _
   | exact LeO.none _
   | refine LeO.ite ?_ ?_
   | refine LeO.bind ?_ (fun _ => ?_)
set_option maxHeartbeats 2000000 in
set_option maxRecDepth 100000 in
theorem bits_Len64.calls (k : Nat) (a0 : Int) (r : Int) (w : World) (h : bits_Len64.f k a0 = some r) :
  Calls Try.prog 119 #[.int .u64 a0] w fun e w' => e = .returned (.int .i64 r) ∧ Drawn0 w w' := by
 have H : (if a0 ≥ 4294967296 then (bits_Len64.j0 k (a0 / 4294967296) 32) else (bits_Len64.j0 k a0 0)) = some r := h
 clear h
 have HC2 := A0_ H
 clear H
 go_enter Try.func119, Try.ntmps119
 go_upto_if 4 with (fail)
 go_cut [0, 2] (fun v0 v2 wc => ∃ (kq : Nat) (x0_1 : Int) (x2_1 : Int), v0 = .int .u64 x0_1 ∧ v2 = .int .i64 x2_1 ∧ Aside0 (bits_Len64.j0 kq x0_1 x2_1 = some r) ∧ Aside0 (kq ≤ k) ∧ Drawn0 w wc)
 case first =>
  have H := HC2.out
  clear HC2
  by_cases c3 : a0 ≥ 4294967296
  ·rw [if_pos c3] at H
   have c3b0 : decide (4294967296 ≤ a0) = true := decide_eq_true c3
   clear c3
   (first | rw [c3b0] | (simp only [i64_w, i32_w]; rw [c3b0]) | skip)
   have H' := A0_ H
   clear H
   go_wp2
   go_meet
   case rel => exact ⟨_, (a0 / 4294967296), (32), (by first | rfl | (simp; done) | (simp [*]; done)), (by first | rfl | (simp; done) | (simp [*]; done)), H', ⟨by first | omega | exact Nat.le_refl _⟩, by repeat (first | exact Drawn0.refl _ | apply Drawn0.step)⟩
  ·rw [if_neg c3] at H
   have c3b0 : decide (4294967296 ≤ a0) = false := decide_eq_false c3
   clear c3
   (first | rw [c3b0] | (simp only [i64_w, i32_w]; rw [c3b0]) | skip)
   have H' := A0_ H
   clear H
   go_wp2
   go_meet
   case rel => exact ⟨_, (a0), (0), (by first | rfl | (simp; done) | (simp [*]; done)), (by first | rfl | (simp; done) | (simp [*]; done)), H', ⟨by first | omega | exact Nat.le_refl _⟩, by repeat (first | exact Drawn0.refl _ | apply Drawn0.step)⟩
 case rest =>
  clear HC2
  try clear c1
  try clear p2
  try clear c3
  try clear c3b0
  obtain ⟨kq, x0_1, x2_1, rfl, rfl, HA, HJ1, ⟨mc1, rfl⟩⟩ := hcut
  cases kq with
  | zero => exact absurd HA.out (by simp [bits_Len64.j0])
  | succ kj1 =>
   have H := HA.out
   clear HA
   simp only [bits_Len64.j0] at H
   by_cases c4 : x0_1 ≥ 65536
   ·rw [if_pos c4] at H
    have c4b0 : decide (65536 ≤ x0_1) = true := decide_eq_true c4
    clear c4
    by_cases c5 : (x0_1 / 65536) ≥ 256
    ·rw [if_pos c5] at H
     have c5b0 : decide (256 ≤ (x0_1 / 65536)) = true := decide_eq_true c5
     clear c5
     obtain ⟨ji6, hji6⟩ : ∃ j_ : Int, (((x0_1 / 65536) / 256) % 256) = j_ := ⟨_, rfl⟩
     replace H : (if 0 ≤ (ji6) then (if (ji6) < 256 then (some (wrap64 ((wrap64 ((wrap64 (x2_1 + 16)) + 8)) + (wrap64 (bt (⟨#[0, 1, 2, 2, 3, 3, 3, 3, 4, 4, 4, 4, 4, 4, 4, 4, 5, 5, 5, 5, 5, 5, 5, 5, 5, 5, 5, 5, 5, 5, 5, 5, 6, 6, 6, 6, 6, 6, 6, 6, 6, 6, 6, 6, 6, 6, 6, 6, 6, 6, 6, 6, 6, 6, 6, 6, 6, 6, 6, 6, 6, 6, 6, 6, 7, 7, 7, 7, 7, 7, 7, 7, 7, 7, 7, 7, 7, 7, 7, 7, 7, 7, 7, 7, 7, 7, 7, 7, 7, 7, 7, 7, 7, 7, 7, 7, 7, 7, 7, 7, 7, 7, 7, 7, 7, 7, 7, 7, 7, 7, 7, 7, 7, 7, 7, 7, 7, 7, 7, 7, 7, 7, 7, 7, 7, 7, 7, 7, 8, 8, 8, 8, 8, 8, 8, 8, 8, 8, 8, 8, 8, 8, 8, 8, 8, 8, 8, 8, 8, 8, 8, 8, 8, 8, 8, 8, 8, 8, 8, 8, 8, 8, 8, 8, 8, 8, 8, 8, 8, 8, 8, 8, 8, 8, 8, 8, 8, 8, 8, 8, 8, 8, 8, 8, 8, 8, 8, 8, 8, 8, 8, 8, 8, 8, 8, 8, 8, 8, 8, 8, 8, 8, 8, 8, 8, 8, 8, 8, 8, 8, 8, 8, 8, 8, 8, 8, 8, 8, 8, 8, 8, 8, 8, 8, 8, 8, 8, 8, 8, 8, 8, 8, 8, 8, 8, 8, 8, 8, 8, 8, 8, 8, 8, 8, 8, 8, 8, 8, 8, 8, 8, 8, 8, 8, 8, 8]⟩ : ByteArray) (ji6)))))) else (none)) else (none)) = some r := by first | (rw [hji6] at H; exact H) | (simp only [hji6] at H ⊢; exact H)
     by_cases c7 : 0 ≤ (ji6)
     ·rw [if_pos c7] at H
      have c7b0 : decide (0 ≤ (ji6)) = true := decide_eq_true c7
      clear c7
      by_cases c8 : (ji6) < 256
      ·rw [if_pos c8] at H
       have c8b0 : decide ((ji6) < 256) = true := decide_eq_true c8
       clear c8
       obtain rfl := Option.some.inj H
       have p9 : 0 ≤ ((ji6) : Int) := of_decide_eq_true (by first | (with_reducible assumption) | assumption)
       have q9 : (ji6) < (256 : Int) := of_decide_eq_true (by first | (with_reducible assumption) | assumption)
       have hx9 := bt_at (⟨#[0, 1, 2, 2, 3, 3, 3, 3, 4, 4, 4, 4, 4, 4, 4, 4, 5, 5, 5, 5, 5, 5, 5, 5, 5, 5, 5, 5, 5, 5, 5, 5, 6, 6, 6, 6, 6, 6, 6, 6, 6, 6, 6, 6, 6, 6, 6, 6, 6, 6, 6, 6, 6, 6, 6, 6, 6, 6, 6, 6, 6, 6, 6, 6, 7, 7, 7, 7, 7, 7, 7, 7, 7, 7, 7, 7, 7, 7, 7, 7, 7, 7, 7, 7, 7, 7, 7, 7, 7, 7, 7, 7, 7, 7, 7, 7, 7, 7, 7, 7, 7, 7, 7, 7, 7, 7, 7, 7, 7, 7, 7, 7, 7, 7, 7, 7, 7, 7, 7, 7, 7, 7, 7, 7, 7, 7, 7, 7, 8, 8, 8, 8, 8, 8, 8, 8, 8, 8, 8, 8, 8, 8, 8, 8, 8, 8, 8, 8, 8, 8, 8, 8, 8, 8, 8, 8, 8, 8, 8, 8, 8, 8, 8, 8, 8, 8, 8, 8, 8, 8, 8, 8, 8, 8, 8, 8, 8, 8, 8, 8, 8, 8, 8, 8, 8, 8, 8, 8, 8, 8, 8, 8, 8, 8, 8, 8, 8, 8, 8, 8, 8, 8, 8, 8, 8, 8, 8, 8, 8, 8, 8, 8, 8, 8, 8, 8, 8, 8, 8, 8, 8, 8, 8, 8, 8, 8, 8, 8, 8, 8, 8, 8, 8, 8, 8, 8, 8, 8, 8, 8, 8, 8, 8, 8, 8, 8, 8, 8, 8, 8, 8, 8, 8, 8, 8, 8]⟩ : ByteArray) (ji6)
       replace p9 := eq_true p9
       replace q9 := eq_true q9
       go_wp2
       go_ret
       exact ⟨by first | rfl | (simp; done) | (simp only [← hji6] <;> (first | rfl | simp)) | (simp [*]; done), by repeat (first | exact Drawn0.refl _ | apply Drawn0.step)⟩
      ·rw [if_neg c8] at H
       exact absurd H (by simp)
     ·rw [if_neg c7] at H
      exact absurd H (by simp)
    ·rw [if_neg c5] at H
     have c5b0 : decide (256 ≤ (x0_1 / 65536)) = false := decide_eq_false c5
     clear c5
     obtain ⟨ji10, hji10⟩ : ∃ j_ : Int, ((x0_1 / 65536) % 256) = j_ := ⟨_, rfl⟩
     replace H : (if 0 ≤ (ji10) then (if (ji10) < 256 then (some (wrap64 ((wrap64 (x2_1 + 16)) + (wrap64 (bt (⟨#[0, 1, 2, 2, 3, 3, 3, 3, 4, 4, 4, 4, 4, 4, 4, 4, 5, 5, 5, 5, 5, 5, 5, 5, 5, 5, 5, 5, 5, 5, 5, 5, 6, 6, 6, 6, 6, 6, 6, 6, 6, 6, 6, 6, 6, 6, 6, 6, 6, 6, 6, 6, 6, 6, 6, 6, 6, 6, 6, 6, 6, 6, 6, 6, 7, 7, 7, 7, 7, 7, 7, 7, 7, 7, 7, 7, 7, 7, 7, 7, 7, 7, 7, 7, 7, 7, 7, 7, 7, 7, 7, 7, 7, 7, 7, 7, 7, 7, 7, 7, 7, 7, 7, 7, 7, 7, 7, 7, 7, 7, 7, 7, 7, 7, 7, 7, 7, 7, 7, 7, 7, 7, 7, 7, 7, 7, 7, 7, 8, 8, 8, 8, 8, 8, 8, 8, 8, 8, 8, 8, 8, 8, 8, 8, 8, 8, 8, 8, 8, 8, 8, 8, 8, 8, 8, 8, 8, 8, 8, 8, 8, 8, 8, 8, 8, 8, 8, 8, 8, 8, 8, 8, 8, 8, 8, 8, 8, 8, 8, 8, 8, 8, 8, 8, 8, 8, 8, 8, 8, 8, 8, 8, 8, 8, 8, 8, 8, 8, 8, 8, 8, 8, 8, 8, 8, 8, 8, 8, 8, 8, 8, 8, 8, 8, 8, 8, 8, 8, 8, 8, 8, 8, 8, 8, 8, 8, 8, 8, 8, 8, 8, 8, 8, 8, 8, 8, 8, 8, 8, 8, 8, 8, 8, 8, 8, 8, 8, 8, 8, 8, 8, 8, 8, 8, 8, 8]⟩ : ByteArray) (ji10)))))) else (none)) else (none)) = some r := by first | (rw [hji10] at H; exact H) | (simp only [hji10] at H ⊢; exact H)
     by_cases c11 : 0 ≤ (ji10)
     ·rw [if_pos c11] at H
      have c11b0 : decide (0 ≤ (ji10)) = true := decide_eq_true c11
      clear c11
      by_cases c12 : (ji10) < 256
      ·rw [if_pos c12] at H
       have c12b0 : decide ((ji10) < 256) = true := decide_eq_true c12
       clear c12
       obtain rfl := Option.some.inj H
       have p13 : 0 ≤ ((ji10) : Int) := of_decide_eq_true (by first | (with_reducible assumption) | assumption)
       have q13 : (ji10) < (256 : Int) := of_decide_eq_true (by first | (with_reducible assumption) | assumption)
       have hx13 := bt_at (⟨#[0, 1, 2, 2, 3, 3, 3, 3, 4, 4, 4, 4, 4, 4, 4, 4, 5, 5, 5, 5, 5, 5, 5, 5, 5, 5, 5, 5, 5, 5, 5, 5, 6, 6, 6, 6, 6, 6, 6, 6, 6, 6, 6, 6, 6, 6, 6, 6, 6, 6, 6, 6, 6, 6, 6, 6, 6, 6, 6, 6, 6, 6, 6, 6, 7, 7, 7, 7, 7, 7, 7, 7, 7, 7, 7, 7, 7, 7, 7, 7, 7, 7, 7, 7, 7, 7, 7, 7, 7, 7, 7, 7, 7, 7, 7, 7, 7, 7, 7, 7, 7, 7, 7, 7, 7, 7, 7, 7, 7, 7, 7, 7, 7, 7, 7, 7, 7, 7, 7, 7, 7, 7, 7, 7, 7, 7, 7, 7, 8, 8, 8, 8, 8, 8, 8, 8, 8, 8, 8, 8, 8, 8, 8, 8, 8, 8, 8, 8, 8, 8, 8, 8, 8, 8, 8, 8, 8, 8, 8, 8, 8, 8, 8, 8, 8, 8, 8, 8, 8, 8, 8, 8, 8, 8, 8, 8, 8, 8, 8, 8, 8, 8, 8, 8, 8, 8, 8, 8, 8, 8, 8, 8, 8, 8, 8, 8, 8, 8, 8, 8, 8, 8, 8, 8, 8, 8, 8, 8, 8, 8, 8, 8, 8, 8, 8, 8, 8, 8, 8, 8, 8, 8, 8, 8, 8, 8, 8, 8, 8, 8, 8, 8, 8, 8, 8, 8, 8, 8, 8, 8, 8, 8, 8, 8, 8, 8, 8, 8, 8, 8, 8, 8, 8, 8, 8, 8]⟩ : ByteArray) (ji10)
       replace p13 := eq_true p13
       replace q13 := eq_true q13
       go_wp2
       go_ret
       exact ⟨by first | rfl | (simp; done) | (simp only [← hji10] <;> (first | rfl | simp)) | (simp [*]; done), by repeat (first | exact Drawn0.refl _ | apply Drawn0.step)⟩
      ·rw [if_neg c12] at H
       exact absurd H (by simp)
     ·rw [if_neg c11] at H
      exact absurd H (by simp)
   ·rw [if_neg c4] at H
    have c4b0 : decide (65536 ≤ x0_1) = false := decide_eq_false c4
    clear c4
    by_cases c14 : x0_1 ≥ 256
    ·rw [if_pos c14] at H
     have c14b0 : decide (256 ≤ x0_1) = true := decide_eq_true c14
     clear c14
     obtain ⟨ji15, hji15⟩ : ∃ j_ : Int, ((x0_1 / 256) % 256) = j_ := ⟨_, rfl⟩
     replace H : (if 0 ≤ (ji15) then (if (ji15) < 256 then (some (wrap64 ((wrap64 (x2_1 + 8)) + (wrap64 (bt (⟨#[0, 1, 2, 2, 3, 3, 3, 3, 4, 4, 4, 4, 4, 4, 4, 4, 5, 5, 5, 5, 5, 5, 5, 5, 5, 5, 5, 5, 5, 5, 5, 5, 6, 6, 6, 6, 6, 6, 6, 6, 6, 6, 6, 6, 6, 6, 6, 6, 6, 6, 6, 6, 6, 6, 6, 6, 6, 6, 6, 6, 6, 6, 6, 6, 7, 7, 7, 7, 7, 7, 7, 7, 7, 7, 7, 7, 7, 7, 7, 7, 7, 7, 7, 7, 7, 7, 7, 7, 7, 7, 7, 7, 7, 7, 7, 7, 7, 7, 7, 7, 7, 7, 7, 7, 7, 7, 7, 7, 7, 7, 7, 7, 7, 7, 7, 7, 7, 7, 7, 7, 7, 7, 7, 7, 7, 7, 7, 7, 8, 8, 8, 8, 8, 8, 8, 8, 8, 8, 8, 8, 8, 8, 8, 8, 8, 8, 8, 8, 8, 8, 8, 8, 8, 8, 8, 8, 8, 8, 8, 8, 8, 8, 8, 8, 8, 8, 8, 8, 8, 8, 8, 8, 8, 8, 8, 8, 8, 8, 8, 8, 8, 8, 8, 8, 8, 8, 8, 8, 8, 8, 8, 8, 8, 8, 8, 8, 8, 8, 8, 8, 8, 8, 8, 8, 8, 8, 8, 8, 8, 8, 8, 8, 8, 8, 8, 8, 8, 8, 8, 8, 8, 8, 8, 8, 8, 8, 8, 8, 8, 8, 8, 8, 8, 8, 8, 8, 8, 8, 8, 8, 8, 8, 8, 8, 8, 8, 8, 8, 8, 8, 8, 8, 8, 8, 8, 8]⟩ : ByteArray) (ji15)))))) else (none)) else (none)) = some r := by first | (rw [hji15] at H; exact H) | (simp only [hji15] at H ⊢; exact H)
     by_cases c16 : 0 ≤ (ji15)
     ·rw [if_pos c16] at H
      have c16b0 : decide (0 ≤ (ji15)) = true := decide_eq_true c16
      clear c16
      by_cases c17 : (ji15) < 256
      ·rw [if_pos c17] at H
       have c17b0 : decide ((ji15) < 256) = true := decide_eq_true c17
       clear c17
       obtain rfl := Option.some.inj H
       have p18 : 0 ≤ ((ji15) : Int) := of_decide_eq_true (by first | (with_reducible assumption) | assumption)
       have q18 : (ji15) < (256 : Int) := of_decide_eq_true (by first | (with_reducible assumption) | assumption)
       have hx18 := bt_at (⟨#[0, 1, 2, 2, 3, 3, 3, 3, 4, 4, 4, 4, 4, 4, 4, 4, 5, 5, 5, 5, 5, 5, 5, 5, 5, 5, 5, 5, 5, 5, 5, 5, 6, 6, 6, 6, 6, 6, 6, 6, 6, 6, 6, 6, 6, 6, 6, 6, 6, 6, 6, 6, 6, 6, 6, 6, 6, 6, 6, 6, 6, 6, 6, 6, 7, 7, 7, 7, 7, 7, 7, 7, 7, 7, 7, 7, 7, 7, 7, 7, 7, 7, 7, 7, 7, 7, 7, 7, 7, 7, 7, 7, 7, 7, 7, 7, 7, 7, 7, 7, 7, 7, 7, 7, 7, 7, 7, 7, 7, 7, 7, 7, 7, 7, 7, 7, 7, 7, 7, 7, 7, 7, 7, 7, 7, 7, 7, 7, 8, 8, 8, 8, 8, 8, 8, 8, 8, 8, 8, 8, 8, 8, 8, 8, 8, 8, 8, 8, 8, 8, 8, 8, 8, 8, 8, 8, 8, 8, 8, 8, 8, 8, 8, 8, 8, 8, 8, 8, 8, 8, 8, 8, 8, 8, 8, 8, 8, 8, 8, 8, 8, 8, 8, 8, 8, 8, 8, 8, 8, 8, 8, 8, 8, 8, 8, 8, 8, 8, 8, 8, 8, 8, 8, 8, 8, 8, 8, 8, 8, 8, 8, 8, 8, 8, 8, 8, 8, 8, 8, 8, 8, 8, 8, 8, 8, 8, 8, 8, 8, 8, 8, 8, 8, 8, 8, 8, 8, 8, 8, 8, 8, 8, 8, 8, 8, 8, 8, 8, 8, 8, 8, 8, 8, 8, 8, 8]⟩ : ByteArray) (ji15)
       replace p18 := eq_true p18
       replace q18 := eq_true q18
       go_wp2
       go_ret
       exact ⟨by first | rfl | (simp; done) | (simp only [← hji15] <;> (first | rfl | simp)) | (simp [*]; done), by repeat (first | exact Drawn0.refl _ | apply Drawn0.step)⟩
      ·rw [if_neg c17] at H
       exact absurd H (by simp)
     ·rw [if_neg c16] at H
      exact absurd H (by simp)
    ·rw [if_neg c14] at H
     have c14b0 : decide (256 ≤ x0_1) = false := decide_eq_false c14
     clear c14
     obtain ⟨ji19, hji19⟩ : ∃ j_ : Int, ((x0_1) % 256) = j_ := ⟨_, rfl⟩
     replace H : (if 0 ≤ (ji19) then (if (ji19) < 256 then (some (wrap64 (x2_1 + (wrap64 (bt (⟨#[0, 1, 2, 2, 3, 3, 3, 3, 4, 4, 4, 4, 4, 4, 4, 4, 5, 5, 5, 5, 5, 5, 5, 5, 5, 5, 5, 5, 5, 5, 5, 5, 6, 6, 6, 6, 6, 6, 6, 6, 6, 6, 6, 6, 6, 6, 6, 6, 6, 6, 6, 6, 6, 6, 6, 6, 6, 6, 6, 6, 6, 6, 6, 6, 7, 7, 7, 7, 7, 7, 7, 7, 7, 7, 7, 7, 7, 7, 7, 7, 7, 7, 7, 7, 7, 7, 7, 7, 7, 7, 7, 7, 7, 7, 7, 7, 7, 7, 7, 7, 7, 7, 7, 7, 7, 7, 7, 7, 7, 7, 7, 7, 7, 7, 7, 7, 7, 7, 7, 7, 7, 7, 7, 7, 7, 7, 7, 7, 8, 8, 8, 8, 8, 8, 8, 8, 8, 8, 8, 8, 8, 8, 8, 8, 8, 8, 8, 8, 8, 8, 8, 8, 8, 8, 8, 8, 8, 8, 8, 8, 8, 8, 8, 8, 8, 8, 8, 8, 8, 8, 8, 8, 8, 8, 8, 8, 8, 8, 8, 8, 8, 8, 8, 8, 8, 8, 8, 8, 8, 8, 8, 8, 8, 8, 8, 8, 8, 8, 8, 8, 8, 8, 8, 8, 8, 8, 8, 8, 8, 8, 8, 8, 8, 8, 8, 8, 8, 8, 8, 8, 8, 8, 8, 8, 8, 8, 8, 8, 8, 8, 8, 8, 8, 8, 8, 8, 8, 8, 8, 8, 8, 8, 8, 8, 8, 8, 8, 8, 8, 8, 8, 8, 8, 8, 8, 8]⟩ : ByteArray) (ji19)))))) else (none)) else (none)) = some r := by first | (rw [hji19] at H; exact H) | (simp only [hji19] at H ⊢; exact H)
     by_cases c20 : 0 ≤ (ji19)
     ·rw [if_pos c20] at H
      have c20b0 : decide (0 ≤ (ji19)) = true := decide_eq_true c20
      clear c20
      by_cases c21 : (ji19) < 256
      ·rw [if_pos c21] at H
       have c21b0 : decide ((ji19) < 256) = true := decide_eq_true c21
       clear c21
       obtain rfl := Option.some.inj H
       have p22 : 0 ≤ ((ji19) : Int) := of_decide_eq_true (by first | (with_reducible assumption) | assumption)
       have q22 : (ji19) < (256 : Int) := of_decide_eq_true (by first | (with_reducible assumption) | assumption)
       have hx22 := bt_at (⟨#[0, 1, 2, 2, 3, 3, 3, 3, 4, 4, 4, 4, 4, 4, 4, 4, 5, 5, 5, 5, 5, 5, 5, 5, 5, 5, 5, 5, 5, 5, 5, 5, 6, 6, 6, 6, 6, 6, 6, 6, 6, 6, 6, 6, 6, 6, 6, 6, 6, 6, 6, 6, 6, 6, 6, 6, 6, 6, 6, 6, 6, 6, 6, 6, 7, 7, 7, 7, 7, 7, 7, 7, 7, 7, 7, 7, 7, 7, 7, 7, 7, 7, 7, 7, 7, 7, 7, 7, 7, 7, 7, 7, 7, 7, 7, 7, 7, 7, 7, 7, 7, 7, 7, 7, 7, 7, 7, 7, 7, 7, 7, 7, 7, 7, 7, 7, 7, 7, 7, 7, 7, 7, 7, 7, 7, 7, 7, 7, 8, 8, 8, 8, 8, 8, 8, 8, 8, 8, 8, 8, 8, 8, 8, 8, 8, 8, 8, 8, 8, 8, 8, 8, 8, 8, 8, 8, 8, 8, 8, 8, 8, 8, 8, 8, 8, 8, 8, 8, 8, 8, 8, 8, 8, 8, 8, 8, 8, 8, 8, 8, 8, 8, 8, 8, 8, 8, 8, 8, 8, 8, 8, 8, 8, 8, 8, 8, 8, 8, 8, 8, 8, 8, 8, 8, 8, 8, 8, 8, 8, 8, 8, 8, 8, 8, 8, 8, 8, 8, 8, 8, 8, 8, 8, 8, 8, 8, 8, 8, 8, 8, 8, 8, 8, 8, 8, 8, 8, 8, 8, 8, 8, 8, 8, 8, 8, 8, 8, 8, 8, 8, 8, 8, 8, 8, 8, 8]⟩ : ByteArray) (ji19)
       replace p22 := eq_true p22
       replace q22 := eq_true q22
       go_wp2
       go_ret
       exact ⟨by first | rfl | (simp; done) | (simp only [← hji19] <;> (first | rfl | simp)) | (simp [*]; done), by repeat (first | exact Drawn0.refl _ | apply Drawn0.step)⟩
      ·rw [if_neg c21] at H
       exact absurd H (by simp)
     ·rw [if_neg c20] at H
      exact absurd H (by simp)
def word_shape_low.f (a0_0 : Int) (a0_1 : Int) (a0_2 : Int) : Option (Int) := some (wrap64 ((wrap64 (1 - (wrap64 (Int.tdiv a0_1 2)))) - a0_0))
set_option maxHeartbeats 2000000 in
set_option maxRecDepth 100000 in
theorem word_shape_low.calls (a0_0 : Int) (a0_1 : Int) (a0_2 : Int) (r : Int) (w : World) (h : word_shape_low.f a0_0 a0_1 a0_2 = some r) :
  Calls Try.prog 120 #[.agg #[.int .i64 a0_0, .int .i64 a0_1, .int .u64 a0_2]] w fun e w' => e = .returned (.int .i64 r) ∧ Below w.heap.size w w' := by
 have hu108 := Try.underlying108
 have HB := A0_ (Below.refl w.heap.size w)
 have H : (some (wrap64 ((wrap64 (1 - (wrap64 (Int.tdiv a0_1 2)))) - a0_0))) = some r := h
 clear h
 obtain rfl := Option.some.inj H
 go_enter Try.func120, Try.ntmps120
 go_wp2_with (first | ((with_reducible refine gate_dst (N := 1) rfl ?_); refine box_event ?hg (N := 1) ?hd (cs := #[.int .i64 a0_0, .int .i64 a0_1, .int .u64 a0_2]) (t := 108) ?hr ?_; (case hd => rfl); (case hg => rfl); (case hr => first | (go_simp; done) | (go_simp; rfl)); intro gb701 hg w2 hbox hb; have n0_ := A0_ (below_step (qm_ HB.out) hb); have n1_ := A0_ (hbox); have n2_ := A0_ ((by rw [hg]; exact (below_size (qm_ HB.out)) : w.heap.size ≤ gb701)); have n3_ := A0_ ((by rw [hg]; exact (below_size (qm_ HB.out)) : w.heap.size ≤ gb701)); clear HB; have HB := n0_; have BK701 := n1_; have GW701 := n2_; have GE701 := n3_; clear n0_ n1_ n2_ n3_ hb hbox hg; have hcz3 := bc3_ BK701.out; have hfz3 := bf3_ BK701.out))
 go_ret
 exact ⟨by first | rfl | (simp [errW_none, errW_some] <;> rfl) | (simp [*, errW_none, errW_some] <;> rfl), by repeat (first | (with_reducible first | exact qm_ HB.out | apply qA_ | apply qN_ | apply qD_ | refine below_set ?_ GE701.out) | exact HB.out)⟩
def word_shape_join.f (a0_0 : Int) (a0_1 : Int) (a0_2 : Int) (a1_0 : Bool) (a1_1 : Int) (a1_2 : Int) : Option (Int) := if 0 ≤ a0_0 then (if a1_0 = true then (some (Go.bits .or .u64 (Go.bits .or .u64 (shl .u64 (IntKind.u64.wrap (a1_1)) a0_0) a1_2) a0_2)) else (some (Go.bits .or .u64 (shl .u64 (IntKind.u64.wrap (a1_1)) a0_0) a1_2))) else (none)
set_option maxHeartbeats 2000000 in
set_option maxRecDepth 100000 in
theorem word_shape_join.calls (a0_0 : Int) (a0_1 : Int) (a0_2 : Int) (a1_0 : Bool) (a1_1 : Int) (a1_2 : Int) (r : Int) (w : World) (h : word_shape_join.f a0_0 a0_1 a0_2 a1_0 a1_1 a1_2 = some r) :
  Calls Try.prog 121 #[.agg #[.int .i64 a0_0, .int .i64 a0_1, .int .u64 a0_2], .agg #[.bool a1_0, .int .i64 a1_1, .int .u64 a1_2]] w fun e w' => e = .returned (.int .u64 r) ∧ Below w.heap.size w w' := by
 have hu108 := Try.underlying108
 have hu84 := Try.underlying84
 have HB := A0_ (Below.refl w.heap.size w)
 have H : (if 0 ≤ a0_0 then (if a1_0 = true then (some (Go.bits .or .u64 (Go.bits .or .u64 (shl .u64 (IntKind.u64.wrap (a1_1)) a0_0) a1_2) a0_2)) else (some (Go.bits .or .u64 (shl .u64 (IntKind.u64.wrap (a1_1)) a0_0) a1_2))) else (none)) = some r := h
 clear h
 by_cases c3 : 0 ≤ a0_0
 ·rw [if_pos c3] at H
  have c3b0 := eq_true c3
  have c3b1 : decide (0 ≤ a0_0) = true := decide_eq_true c3
  clear c3
  obtain ⟨ji4, hji4⟩ : ∃ j_ : Int, (shl .u64 (IntKind.u64.wrap (a1_1)) a0_0) = j_ := ⟨_, rfl⟩
  replace H : (if a1_0 = true then (some (Go.bits .or .u64 (Go.bits .or .u64 (ji4) a1_2) a0_2)) else (some (Go.bits .or .u64 (ji4) a1_2))) = some r := by first | (rw [hji4] at H; exact H) | (simp only [hji4] at H ⊢; exact H)
  have hji4_ : (IntKind.u64.wrap ((IntKind.u64.wrap (a1_1)) * 2 ^ min a0_0.toNat 64)) = ji4 := hji4
  have hji4z : a0_0 ≤ 64 → (IntKind.u64.wrap ((IntKind.u64.wrap (a1_1)) * 2 ^ a0_0.toNat)) = ji4 := shl_small hji4
  by_cases c5 : a1_0 = true
  ·subst c5
   have H1 : (some (Go.bits .or .u64 (Go.bits .or .u64 (ji4) a1_2) a0_2)) = some r := by rw [if_pos rfl] at H; exact H
   clear H
   have H := H1
   clear H1
   obtain rfl := Option.some.inj H
   go_enter Try.func121, Try.ntmps121
   go_wp2_with (first | ((with_reducible refine gate_dst (N := 2) rfl ?_); refine box_event ?hg (N := 2) ?hd (cs := #[.int .i64 a0_0, .int .i64 a0_1, .int .u64 a0_2]) (t := 108) ?hr ?_; (case hd => rfl); (case hg => rfl); (case hr => first | (go_simp; done) | (go_simp; rfl)); intro gb702 hg w6 hbox hb; have n0_ := A0_ (below_step (qm_ HB.out) hb); have n1_ := A0_ (hbox); have n2_ := A0_ ((by rw [hg]; exact (below_size (qm_ HB.out)) : w.heap.size ≤ gb702)); have n3_ := A0_ ((by rw [hg]; exact (below_size (qm_ HB.out)) : w.heap.size ≤ gb702)); clear HB; have HB := n0_; have BK702 := n1_; have GW702 := n2_; have GE702 := n3_; clear n0_ n1_ n2_ n3_ hb hbox hg) | ((with_reducible refine gate_dst (N := 3) rfl ?_); refine box_event ?hg (N := 3) ?hd (cs := #[.bool true, .int .i64 a1_1, .int .u64 a1_2]) (t := 84) ?hr ?_; (case hd => rfl); (case hg => rfl); (case hr => first | (go_simp; done) | (go_simp; rfl)); intro gb703 hg w7 hbox hb; have n0_ := A0_ (blk_below (bm_ BK702.out) hb); have n1_ := A0_ (below_step (by repeat (first | (with_reducible first | exact qm_ HB.out | apply qA_ | apply qN_ | apply qD_ | refine below_set ?_ GE702.out) | exact HB.out)) hb); have n2_ := A0_ (hbox); have n3_ := A0_ ((by rw [hg]; exact (below_size (by repeat (first | (with_reducible first | exact qm_ HB.out | apply qA_ | apply qN_ | apply qD_ | refine below_set ?_ GE702.out) | exact HB.out))) : w.heap.size ≤ gb703)); have n4_ := A0_ ((by rw [hg]; exact (below_size (by repeat (first | (with_reducible first | exact qm_ HB.out | apply qA_ | apply qN_ | apply qD_ | refine below_set ?_ GE702.out) | exact HB.out))) : w.heap.size ≤ gb703)); have n5_ := A0_ ((by rw [hg]; exact Nat.ne_of_lt (blk_lt (bm_ BK702.out)) : gb702 ≠ gb703)); have n6_ := A0_ ((by rw [hg]; exact Nat.ne_of_gt (blk_lt (bm_ BK702.out)) : gb703 ≠ gb702)); clear BK702 HB; have BK702 := n0_; have HB := n1_; have BK703 := n2_; have GW703 := n3_; have GE703 := n4_; have NB702_703 := n5_; have NB703_702 := n6_; clear n0_ n1_ n2_ n3_ n4_ n5_ n6_ hb hbox hg; have hnb8 := NB703_702.out; have hnc8 := NB702_703.out; have hcz9 := bc3_ BK703.out; have hfz9 := bf3_ BK703.out; have hcz10 := bc3_ BK702.out; have hfz10 := bf3_ BK702.out))
   repeat (go_quiet (first | ((with_reducible refine gate_dst (N := 2) rfl ?_); refine box_event ?hg (N := 2) ?hd (cs := #[.int .i64 a0_0, .int .i64 a0_1, .int .u64 a0_2]) (t := 108) ?hr ?_; (case hd => rfl); (case hg => rfl); (case hr => first | (go_simp; done) | (go_simp; rfl)); intro gb702 hg w6 hbox hb; have n0_ := A0_ (below_step (qm_ HB.out) hb); have n1_ := A0_ (hbox); have n2_ := A0_ ((by rw [hg]; exact (below_size (qm_ HB.out)) : w.heap.size ≤ gb702)); have n3_ := A0_ ((by rw [hg]; exact (below_size (qm_ HB.out)) : w.heap.size ≤ gb702)); clear HB; have HB := n0_; have BK702 := n1_; have GW702 := n2_; have GE702 := n3_; clear n0_ n1_ n2_ n3_ hb hbox hg) | ((with_reducible refine gate_dst (N := 3) rfl ?_); refine box_event ?hg (N := 3) ?hd (cs := #[.bool true, .int .i64 a1_1, .int .u64 a1_2]) (t := 84) ?hr ?_; (case hd => rfl); (case hg => rfl); (case hr => first | (go_simp; done) | (go_simp; rfl)); intro gb703 hg w7 hbox hb; have n0_ := A0_ (blk_below (bm_ BK702.out) hb); have n1_ := A0_ (below_step (by repeat (first | (with_reducible first | exact qm_ HB.out | apply qA_ | apply qN_ | apply qD_ | refine below_set ?_ GE702.out) | exact HB.out)) hb); have n2_ := A0_ (hbox); have n3_ := A0_ ((by rw [hg]; exact (below_size (by repeat (first | (with_reducible first | exact qm_ HB.out | apply qA_ | apply qN_ | apply qD_ | refine below_set ?_ GE702.out) | exact HB.out))) : w.heap.size ≤ gb703)); have n4_ := A0_ ((by rw [hg]; exact (below_size (by repeat (first | (with_reducible first | exact qm_ HB.out | apply qA_ | apply qN_ | apply qD_ | refine below_set ?_ GE702.out) | exact HB.out))) : w.heap.size ≤ gb703)); have n5_ := A0_ ((by rw [hg]; exact Nat.ne_of_lt (blk_lt (bm_ BK702.out)) : gb702 ≠ gb703)); have n6_ := A0_ ((by rw [hg]; exact Nat.ne_of_gt (blk_lt (bm_ BK702.out)) : gb703 ≠ gb702)); clear BK702 HB; have BK702 := n0_; have HB := n1_; have BK703 := n2_; have GW703 := n3_; have GE703 := n4_; have NB702_703 := n5_; have NB703_702 := n6_; clear n0_ n1_ n2_ n3_ n4_ n5_ n6_ hb hbox hg; have hnb8 := NB703_702.out; have hnc8 := NB702_703.out; have hcz9 := bc3_ BK703.out; have hfz9 := bf3_ BK703.out; have hcz10 := bc3_ BK702.out; have hfz10 := bf3_ BK702.out)); try go_wp2_with (first | ((with_reducible refine gate_dst (N := 2) rfl ?_); refine box_event ?hg (N := 2) ?hd (cs := #[.int .i64 a0_0, .int .i64 a0_1, .int .u64 a0_2]) (t := 108) ?hr ?_; (case hd => rfl); (case hg => rfl); (case hr => first | (go_simp; done) | (go_simp; rfl)); intro gb702 hg w6 hbox hb; have n0_ := A0_ (below_step (qm_ HB.out) hb); have n1_ := A0_ (hbox); have n2_ := A0_ ((by rw [hg]; exact (below_size (qm_ HB.out)) : w.heap.size ≤ gb702)); have n3_ := A0_ ((by rw [hg]; exact (below_size (qm_ HB.out)) : w.heap.size ≤ gb702)); clear HB; have HB := n0_; have BK702 := n1_; have GW702 := n2_; have GE702 := n3_; clear n0_ n1_ n2_ n3_ hb hbox hg) | ((with_reducible refine gate_dst (N := 3) rfl ?_); refine box_event ?hg (N := 3) ?hd (cs := #[.bool true, .int .i64 a1_1, .int .u64 a1_2]) (t := 84) ?hr ?_; (case hd => rfl); (case hg => rfl); (case hr => first | (go_simp; done) | (go_simp; rfl)); intro gb703 hg w7 hbox hb; have n0_ := A0_ (blk_below (bm_ BK702.out) hb); have n1_ := A0_ (below_step (by repeat (first | (with_reducible first | exact qm_ HB.out | apply qA_ | apply qN_ | apply qD_ | refine below_set ?_ GE702.out) | exact HB.out)) hb); have n2_ := A0_ (hbox); have n3_ := A0_ ((by rw [hg]; exact (below_size (by repeat (first | (with_reducible first | exact qm_ HB.out | apply qA_ | apply qN_ | apply qD_ | refine below_set ?_ GE702.out) | exact HB.out))) : w.heap.size ≤ gb703)); have n4_ := A0_ ((by rw [hg]; exact (below_size (by repeat (first | (with_reducible first | exact qm_ HB.out | apply qA_ | apply qN_ | apply qD_ | refine below_set ?_ GE702.out) | exact HB.out))) : w.heap.size ≤ gb703)); have n5_ := A0_ ((by rw [hg]; exact Nat.ne_of_lt (blk_lt (bm_ BK702.out)) : gb702 ≠ gb703)); have n6_ := A0_ ((by rw [hg]; exact Nat.ne_of_gt (blk_lt (bm_ BK702.out)) : gb703 ≠ gb702)); clear BK702 HB; have BK702 := n0_; have HB := n1_; have BK703 := n2_; have GW703 := n3_; have GE703 := n4_; have NB702_703 := n5_; have NB703_702 := n6_; clear n0_ n1_ n2_ n3_ n4_ n5_ n6_ hb hbox hg; have hnb8 := NB703_702.out; have hnc8 := NB702_703.out; have hcz9 := bc3_ BK703.out; have hfz9 := bf3_ BK703.out; have hcz10 := bc3_ BK702.out; have hfz10 := bf3_ BK702.out)))
   go_ret
   exact ⟨by first | rfl | (simp [errW_none, errW_some] <;> rfl) | (simp only [← hji4]; first | rfl | (simp [errW_none, errW_some] <;> rfl)) | (simp [*, errW_none, errW_some] <;> rfl), by repeat (first | (with_reducible first | exact qm_ HB.out | apply qA_ | apply qN_ | apply qD_ | refine below_set ?_ GE702.out | refine below_set ?_ GE703.out) | exact HB.out)⟩
  ·replace c5 := Bool.eq_false_iff.mpr c5
   subst c5
   have H1 : (some (Go.bits .or .u64 (ji4) a1_2)) = some r := by rw [if_neg (show ¬ (false = true) by decide)] at H; exact H
   clear H
   have H := H1
   clear H1
   obtain rfl := Option.some.inj H
   go_enter Try.func121, Try.ntmps121
   go_wp2_with (first | ((with_reducible refine gate_dst (N := 2) rfl ?_); refine box_event ?hg (N := 2) ?hd (cs := #[.int .i64 a0_0, .int .i64 a0_1, .int .u64 a0_2]) (t := 108) ?hr ?_; (case hd => rfl); (case hg => rfl); (case hr => first | (go_simp; done) | (go_simp; rfl)); intro gb702 hg w11 hbox hb; have n0_ := A0_ (below_step (qm_ HB.out) hb); have n1_ := A0_ (hbox); have n2_ := A0_ ((by rw [hg]; exact (below_size (qm_ HB.out)) : w.heap.size ≤ gb702)); have n3_ := A0_ ((by rw [hg]; exact (below_size (qm_ HB.out)) : w.heap.size ≤ gb702)); clear HB; have HB := n0_; have BK702 := n1_; have GW702 := n2_; have GE702 := n3_; clear n0_ n1_ n2_ n3_ hb hbox hg) | ((with_reducible refine gate_dst (N := 3) rfl ?_); refine box_event ?hg (N := 3) ?hd (cs := #[.bool false, .int .i64 a1_1, .int .u64 a1_2]) (t := 84) ?hr ?_; (case hd => rfl); (case hg => rfl); (case hr => first | (go_simp; done) | (go_simp; rfl)); intro gb703 hg w12 hbox hb; have n0_ := A0_ (blk_below (bm_ BK702.out) hb); have n1_ := A0_ (below_step (by repeat (first | (with_reducible first | exact qm_ HB.out | apply qA_ | apply qN_ | apply qD_ | refine below_set ?_ GE702.out) | exact HB.out)) hb); have n2_ := A0_ (hbox); have n3_ := A0_ ((by rw [hg]; exact (below_size (by repeat (first | (with_reducible first | exact qm_ HB.out | apply qA_ | apply qN_ | apply qD_ | refine below_set ?_ GE702.out) | exact HB.out))) : w.heap.size ≤ gb703)); have n4_ := A0_ ((by rw [hg]; exact (below_size (by repeat (first | (with_reducible first | exact qm_ HB.out | apply qA_ | apply qN_ | apply qD_ | refine below_set ?_ GE702.out) | exact HB.out))) : w.heap.size ≤ gb703)); have n5_ := A0_ ((by rw [hg]; exact Nat.ne_of_lt (blk_lt (bm_ BK702.out)) : gb702 ≠ gb703)); have n6_ := A0_ ((by rw [hg]; exact Nat.ne_of_gt (blk_lt (bm_ BK702.out)) : gb703 ≠ gb702)); clear BK702 HB; have BK702 := n0_; have HB := n1_; have BK703 := n2_; have GW703 := n3_; have GE703 := n4_; have NB702_703 := n5_; have NB703_702 := n6_; clear n0_ n1_ n2_ n3_ n4_ n5_ n6_ hb hbox hg; have hnb13 := NB703_702.out; have hnc13 := NB702_703.out; have hcz14 := bc3_ BK703.out; have hfz14 := bf3_ BK703.out; have hcz15 := bc3_ BK702.out; have hfz15 := bf3_ BK702.out))
   repeat (go_quiet (first | ((with_reducible refine gate_dst (N := 2) rfl ?_); refine box_event ?hg (N := 2) ?hd (cs := #[.int .i64 a0_0, .int .i64 a0_1, .int .u64 a0_2]) (t := 108) ?hr ?_; (case hd => rfl); (case hg => rfl); (case hr => first | (go_simp; done) | (go_simp; rfl)); intro gb702 hg w11 hbox hb; have n0_ := A0_ (below_step (qm_ HB.out) hb); have n1_ := A0_ (hbox); have n2_ := A0_ ((by rw [hg]; exact (below_size (qm_ HB.out)) : w.heap.size ≤ gb702)); have n3_ := A0_ ((by rw [hg]; exact (below_size (qm_ HB.out)) : w.heap.size ≤ gb702)); clear HB; have HB := n0_; have BK702 := n1_; have GW702 := n2_; have GE702 := n3_; clear n0_ n1_ n2_ n3_ hb hbox hg) | ((with_reducible refine gate_dst (N := 3) rfl ?_); refine box_event ?hg (N := 3) ?hd (cs := #[.bool false, .int .i64 a1_1, .int .u64 a1_2]) (t := 84) ?hr ?_; (case hd => rfl); (case hg => rfl); (case hr => first | (go_simp; done) | (go_simp; rfl)); intro gb703 hg w12 hbox hb; have n0_ := A0_ (blk_below (bm_ BK702.out) hb); have n1_ := A0_ (below_step (by repeat (first | (with_reducible first | exact qm_ HB.out | apply qA_ | apply qN_ | apply qD_ | refine below_set ?_ GE702.out) | exact HB.out)) hb); have n2_ := A0_ (hbox); have n3_ := A0_ ((by rw [hg]; exact (below_size (by repeat (first | (with_reducible first | exact qm_ HB.out | apply qA_ | apply qN_ | apply qD_ | refine below_set ?_ GE702.out) | exact HB.out))) : w.heap.size ≤ gb703)); have n4_ := A0_ ((by rw [hg]; exact (below_size (by repeat (first | (with_reducible first | exact qm_ HB.out | apply qA_ | apply qN_ | apply qD_ | refine below_set ?_ GE702.out) | exact HB.out))) : w.heap.size ≤ gb703)); have n5_ := A0_ ((by rw [hg]; exact Nat.ne_of_lt (blk_lt (bm_ BK702.out)) : gb702 ≠ gb703)); have n6_ := A0_ ((by rw [hg]; exact Nat.ne_of_gt (blk_lt (bm_ BK702.out)) : gb703 ≠ gb702)); clear BK702 HB; have BK702 := n0_; have HB := n1_; have BK703 := n2_; have GW703 := n3_; have GE703 := n4_; have NB702_703 := n5_; have NB703_702 := n6_; clear n0_ n1_ n2_ n3_ n4_ n5_ n6_ hb hbox hg; have hnb13 := NB703_702.out; have hnc13 := NB702_703.out; have hcz14 := bc3_ BK703.out; have hfz14 := bf3_ BK703.out; have hcz15 := bc3_ BK702.out; have hfz15 := bf3_ BK702.out)); try go_wp2_with (first | ((with_reducible refine gate_dst (N := 2) rfl ?_); refine box_event ?hg (N := 2) ?hd (cs := #[.int .i64 a0_0, .int .i64 a0_1, .int .u64 a0_2]) (t := 108) ?hr ?_; (case hd => rfl); (case hg => rfl); (case hr => first | (go_simp; done) | (go_simp; rfl)); intro gb702 hg w11 hbox hb; have n0_ := A0_ (below_step (qm_ HB.out) hb); have n1_ := A0_ (hbox); have n2_ := A0_ ((by rw [hg]; exact (below_size (qm_ HB.out)) : w.heap.size ≤ gb702)); have n3_ := A0_ ((by rw [hg]; exact (below_size (qm_ HB.out)) : w.heap.size ≤ gb702)); clear HB; have HB := n0_; have BK702 := n1_; have GW702 := n2_; have GE702 := n3_; clear n0_ n1_ n2_ n3_ hb hbox hg) | ((with_reducible refine gate_dst (N := 3) rfl ?_); refine box_event ?hg (N := 3) ?hd (cs := #[.bool false, .int .i64 a1_1, .int .u64 a1_2]) (t := 84) ?hr ?_; (case hd => rfl); (case hg => rfl); (case hr => first | (go_simp; done) | (go_simp; rfl)); intro gb703 hg w12 hbox hb; have n0_ := A0_ (blk_below (bm_ BK702.out) hb); have n1_ := A0_ (below_step (by repeat (first | (with_reducible first | exact qm_ HB.out | apply qA_ | apply qN_ | apply qD_ | refine below_set ?_ GE702.out) | exact HB.out)) hb); have n2_ := A0_ (hbox); have n3_ := A0_ ((by rw [hg]; exact (below_size (by repeat (first | (with_reducible first | exact qm_ HB.out | apply qA_ | apply qN_ | apply qD_ | refine below_set ?_ GE702.out) | exact HB.out))) : w.heap.size ≤ gb703)); have n4_ := A0_ ((by rw [hg]; exact (below_size (by repeat (first | (with_reducible first | exact qm_ HB.out | apply qA_ | apply qN_ | apply qD_ | refine below_set ?_ GE702.out) | exact HB.out))) : w.heap.size ≤ gb703)); have n5_ := A0_ ((by rw [hg]; exact Nat.ne_of_lt (blk_lt (bm_ BK702.out)) : gb702 ≠ gb703)); have n6_ := A0_ ((by rw [hg]; exact Nat.ne_of_gt (blk_lt (bm_ BK702.out)) : gb703 ≠ gb702)); clear BK702 HB; have BK702 := n0_; have HB := n1_; have BK703 := n2_; have GW703 := n3_; have GE703 := n4_; have NB702_703 := n5_; have NB703_702 := n6_; clear n0_ n1_ n2_ n3_ n4_ n5_ n6_ hb hbox hg; have hnb13 := NB703_702.out; have hnc13 := NB702_703.out; have hcz14 := bc3_ BK703.out; have hfz14 := bf3_ BK703.out; have hcz15 := bc3_ BK702.out; have hfz15 := bf3_ BK702.out)))
   go_ret
   exact ⟨by first | rfl | (simp [errW_none, errW_some] <;> rfl) | (simp only [← hji4]; first | rfl | (simp [errW_none, errW_some] <;> rfl)) | (simp [*, errW_none, errW_some] <;> rfl), by repeat (first | (with_reducible first | exact qm_ HB.out | apply qA_ | apply qN_ | apply qD_ | refine below_set ?_ GE702.out | refine below_set ?_ GE703.out) | exact HB.out)⟩
 ·rw [if_neg c3] at H
  exact absurd H (by simp)
end Go.Proofs.Ytgaabjjenlbmhaa.PA
end
