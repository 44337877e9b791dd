/- Steps of Go functions that the law WordValues uses, told as plain Lean functions, each with the proof that its call comes to what it tells; words on memory; plain facts. No condition beyond those that each text names. -/
import Derived.Test.YthiklmgdmaemgaaDoorProg
import Derived.WalkMore
import Derived.Shelf.Spec.TrailingZeros
import Derived.Below
import Derived.Deep.Draws
import Derived.Deep.AppendLies
import Derived.Maps.AppendAt
import Derived.OwnWalk
import Derived.Laws.BytesArg
import Derived.Laws.MakeOwn
import Derived.Laws.OwnMore
import Derived.Deep.OwnRows
import Derived.Tactics
import Derived.Lib.ConvBytes
import Derived.Laws.Slices
import Derived.WalkKit
import Derived.KernelRfl
import Derived.RowKit3
import Derived.Deep.LoopGhost
import Derived.Deep.QuietTactic
import Derived.BigQuiet
import Derived.WideLaws
import Derived.Deep.DeepCutAuto
import Derived.Deep.CutBlock
import Derived.Deep.RegionHeld3
import Derived.Laws.Rows
import Derived.Lib.AppendStr
import Derived.ArgAppend
import Derived.Laws.IdiomCopy
import Derived.OrdersHeld
import Derived.Laws.BitsLemmas
import Derived.RowKit
import Derived.Laws.StructEq
import Derived.Test.YthiklmgdmaemgaaDoorSWordValues0
import Derived.Test.YthiklmgdmaemgaaDoorSWordValues1
import Derived.Test.YthiklmgdmaemgaaDoorSWordValues4
section
namespace Go.Proofs.YthiklmgdmaemgaaDoor.PA
open Go.RowKit Go.Proofs.YthiklmgdmaemgaaDoorW.PrintWords Go.Proofs.YthiklmgdmaemgaaDoorW.PrintLast Go.Proofs.YthiklmgdmaemgaaDoorW.PrintMore
attribute [local go_sem] max2_int min2_int max_two min_two max_three min_three max_four min_four   -- for this text's walks alone
set_option linter.unusedVariables false
set_option linter.unusedSimpArgs false
def cutplaneref03_Value.f (k : Nat) (a0 : Int) (a1 : Int) : Option (Bool × List Int × Int) := (cutplaneref03_Split.f a0 a1).bind fun bt534 => (if bt534.2.1 = 0 then ((cutplaneref01_Of.f k bt534.2.2).bind fun t538 => ((cutplaneref03_Low.f a0).bind fun t541 => ((cutplaneref02_Form.f k bt534.1 t538 t541).bind fun bt542 => (some (bt542.1, bt542.2.1, bt542.2.2))))) else ((cutplaneref03_Frac.f a0).bind fun t547 => (if 0 ≤ t547 then ((cutplaneref01_Of.f k (IntKind.u64.wrap ((shl .u64 1 t547) + bt534.2.2))).bind fun t548 => ((cutplaneref03_Low.f a0).bind fun t551 => ((cutplaneref02_Form.f k bt534.1 t548 (wrap64 ((wrap64 (bt534.2.1 - 1)) + t551))).bind fun bt552 => (some (bt552.1, bt552.2.1, bt552.2.2))))) else (none))))
def cutplaneref03_Value.T3 : Bool × List (List Nat × List Nat) := (true, [([], []), ([0], [0]), ([], []), ([2], [2]), ([3], [3]), ([], []), ([5, 4], [5]), ([1, 4, 6, 6], [1, 4, 6]), ([7, 7, 0, 1, 2, 3, 4, 5, 6, 7], [7])])
def cutplaneref03_Value.B3 : List Nat := [0, 1, 0, 4, 12, 0, 60, 127, 255]
theorem cutplaneref03_Value.tab3 : rtab .any (opsOf Tryd.f16 3) = cutplaneref03_Value.T3 := by kernel_rfl
theorem cutplaneref03_Value.bits3 : waitsOk cutplaneref03_Value.T3.2 cutplaneref03_Value.B3 = true := by kernel_rfl
def cutplaneref03_Value.T4 : Bool × List (List Nat × List Nat) := (true, [([], []), ([0], [0]), ([], []), ([2], [2]), ([3], [3]), ([], []), ([5], [5]), ([4, 6], [4, 6]), ([7, 3], [7]), ([], []), ([9], [9]), ([10], [10]), ([], []), ([12, 8], [12]), ([11, 13], [11, 13]), ([1, 8, 14, 13], [1, 8, 14]), ([15, 15, 0, 1, 2, 3, 4, 5, 6, 7, 8, 9, 10, 11, 12, 13, 14, 15], [15])])
def cutplaneref03_Value.B4 : List Nat := [0, 1, 0, 4, 12, 0, 32, 124, 252, 0, 512, 1536, 0, 4604, 16380, 32767, 65535]
theorem cutplaneref03_Value.tab4 : rtab .any (opsOf Tryd.f16 4) = cutplaneref03_Value.T4 := by kernel_rfl
theorem cutplaneref03_Value.bits4 : waitsOk cutplaneref03_Value.T4.2 cutplaneref03_Value.B4 = true := by kernel_rfl
set_option maxHeartbeats 2000000 in
set_option maxRecDepth 100000 in
theorem cutplaneref03_Value.calls (k : Nat) (a0 : Int) (a1 : Int) (r1 : Bool) (r2 : List Int) (r3 : Int) (w : World) (h : cutplaneref03_Value.f k a0 a1 = some (r1, r2, r3)) :
  Calls Tryd.prog 16 #[.int .u8 a0, .int .u64 a1] w fun e w' => ∃ v1_ : Value, e = .returned (.agg #[.bool r1, v1_, .int .i64 r3]) ∧ Kd.V (Kd.int .u32) 78 w' w.heap.size (fun k_ => (w.heap.size ≤ k_)) v1_ r2 ∧ Below w.heap.size w w' := by
 have hu26 := Tryd.underlying26
 have hu48 := Tryd.underlying48
 have HB := A0_ (Below.refl w.heap.size w)
 have H : ((cutplaneref03_Split.f a0 a1).bind fun bt534 => (if bt534.2.1 = 0 then ((cutplaneref01_Of.f k bt534.2.2).bind fun t538 => ((cutplaneref03_Low.f a0).bind fun t541 => ((cutplaneref02_Form.f k bt534.1 t538 t541).bind fun bt542 => (some (bt542.1, bt542.2.1, bt542.2.2))))) else ((cutplaneref03_Frac.f a0).bind fun t547 => (if 0 ≤ t547 then ((cutplaneref01_Of.f k (IntKind.u64.wrap ((shl .u64 1 t547) + bt534.2.2))).bind fun t548 => ((cutplaneref03_Low.f a0).bind fun t551 => ((cutplaneref02_Form.f k bt534.1 t548 (wrap64 ((wrap64 (bt534.2.1 - 1)) + t551))).bind fun bt552 => (some (bt552.1, bt552.2.1, bt552.2.2))))) else (none))))) = some (r1, r2, r3) := h
 clear h
 replace H := Option.bind_eq_some_iff.mp H
 obtain ⟨⟨t534, t535, t536⟩, A30, H⟩ := H
 replace H : (if t535 = 0 then ((cutplaneref01_Of.f k t536).bind fun t538 => ((cutplaneref03_Low.f a0).bind fun t541 => ((cutplaneref02_Form.f k t534 t538 t541).bind fun bt542 => (some (bt542.1, bt542.2.1, bt542.2.2))))) else ((cutplaneref03_Frac.f a0).bind fun t547 => (if 0 ≤ t547 then ((cutplaneref01_Of.f k (IntKind.u64.wrap ((shl .u64 1 t547) + t536))).bind fun t548 => ((cutplaneref03_Low.f a0).bind fun t551 => ((cutplaneref02_Form.f k t534 t548 (wrap64 ((wrap64 (t535 - 1)) + t551))).bind fun bt552 => (some (bt552.1, bt552.2.1, bt552.2.2))))) else (none)))) = some (r1, r2, r3) := H
 have A3 := A0_ A30
 clear A30
 by_cases c4 : t535 = 0
 ·rw [if_pos c4] at H
  have c4b0 : (t535 == 0) = true := beq_iff_eq.mpr c4
  have c4b1 : (t535 != 0) = false := bne_eq_false_iff_eq.mpr c4
  clear c4
  replace H := Option.bind_eq_some_iff.mp H
  obtain ⟨t538, A50, H⟩ := H
  replace H : ((cutplaneref03_Low.f a0).bind fun t541 => ((cutplaneref02_Form.f k t534 t538 t541).bind fun bt542 => (some (bt542.1, bt542.2.1, bt542.2.2)))) = some (r1, r2, r3) := H
  have A5 := A0_ A50
  clear A50
  replace H := Option.bind_eq_some_iff.mp H
  obtain ⟨t541, A60, H⟩ := H
  replace H : ((cutplaneref02_Form.f k t534 t538 t541).bind fun bt542 => (some (bt542.1, bt542.2.1, bt542.2.2))) = some (r1, r2, r3) := H
  have A6 := A0_ A60
  clear A60
  replace H := Option.bind_eq_some_iff.mp H
  obtain ⟨⟨t542, t543, t546⟩, A70, H⟩ := H
  replace H : (some (t542, t543, t546)) = some (r1, r2, r3) := H
  have A7 := A0_ A70
  clear A70
  simp only [Option.some.injEq, Prod.mk.injEq] at H
  obtain ⟨rfl, rfl, rfl⟩ := H
  go_enter Tryd.func16, Tryd.ntmps16
  try go_wp2_with (first | ((with_reducible refine gate_dst (N := 4) rfl ?_); refine box_event ?hg (N := 4) ?hd (cs := #[.bool false, .slice none 0 0, .int .i64 0]) (t := 26) ?hr ?_; (case hd => rfl); (case hg => rfl); (case hr => first | (go_simp; done) | (go_simp; rfl)); intro gb533 hg w8 hbox hb; have n0_ := A0_ (below_step (qm_ HB.out) hb); have n1_ := A0_ (hbox); have n2_ := A0_ ((by rw [hg]; exact (below_size (qm_ HB.out)) : w.heap.size ≤ gb533)); have n3_ := A0_ ((by rw [hg]; exact (below_size (qm_ HB.out)) : w.heap.size ≤ gb533)); clear HB; have HB := n0_; have BK533 := n1_; have GW533 := n2_; have GE533 := n3_; clear n0_ n1_ n2_ n3_ hb hbox hg) | ((with_reducible refine gate_callee (f := 43) rfl ?_); refine goesL_ (some 8) rfl rfl Tryd.func43 (by kernel_rfl) rfl #[.int .u8 a0, .int .u64 a1] rfl (by (try simp only [List.map_toArray, List.map_cons, List.map_nil]); first | done | rfl | (simp only [List.length_drop, List.length_take]; rfl)) ?_; (with_reducible refine (cutplaneref03_Split.calls a0 a1 t534 t535 t536 _ A3.out).mono ?_); rintro e w9 ⟨rfl, hb⟩; refine ⟨_, rfl, ?_⟩; have n0_ := A0_ (blk_below (bm_ BK533.out) hb); have n1_ := A0_ (below_step (by repeat (first | (with_reducible first | exact qm_ HB.out | apply qA_ | apply qN_ | apply qD_ | refine below_set ?_ GE533.out) | exact HB.out)) hb); clear BK533 HB; have BK533 := n0_; have HB := n1_; clear n0_ n1_; (try clear hb)) | ((with_reducible refine gate_dst (N := 5) rfl ?_); refine box_event ?hg (N := 5) ?hd (cs := #[.bool false, .int .i64 0, .int .u64 0]) (t := 48) ?hr ?_; (case hd => rfl); (case hg => rfl); (case hr => first | (go_simp; done) | (go_simp; rfl)); intro gb537 hg w10 hbox hb; have n0_ := A0_ (blk_below (bm_ BK533.out) hb); have n1_ := A0_ (below_step (by repeat (first | (with_reducible first | exact qm_ HB.out | apply qA_ | apply qN_ | apply qD_ | refine below_set ?_ GE533.out) | exact HB.out)) hb); have n2_ := A0_ (hbox); have n3_ := A0_ ((by rw [hg]; exact (below_size (by repeat (first | (with_reducible first | exact qm_ HB.out | apply qA_ | apply qN_ | apply qD_ | refine below_set ?_ GE533.out) | exact HB.out))) : w.heap.size ≤ gb537)); have n4_ := A0_ ((by rw [hg]; exact (below_size (by repeat (first | (with_reducible first | exact qm_ HB.out | apply qA_ | apply qN_ | apply qD_ | refine below_set ?_ GE533.out) | exact HB.out))) : w.heap.size ≤ gb537)); have n5_ := A0_ ((by rw [hg]; exact Nat.ne_of_lt (blk_lt (bm_ BK533.out)) : gb533 ≠ gb537)); have n6_ := A0_ ((by rw [hg]; exact Nat.ne_of_gt (blk_lt (bm_ BK533.out)) : gb537 ≠ gb533)); clear BK533 HB; have BK533 := n0_; have HB := n1_; have BK537 := n2_; have GW537 := n3_; have GE537 := n4_; have NB533_537 := n5_; have NB537_533 := n6_; clear n0_ n1_ n2_ n3_ n4_ n5_ n6_ hb hbox hg; have hnb11 := NB537_533.out; have hnc11 := NB533_537.out; have hcz12 := bc3_ BK537.out; have hfz12 := bf3_ BK537.out))
  have n0_ : Aside0 ((((w10.setCell ⟨gb537, 0, none⟩ (.bool t534)).setCell ⟨gb537, 1, none⟩ (.int .i64 t535)).setCell ⟨gb537, 2, none⟩ (.int .u64 t536)).heap[gb533]? = some (.cells #[.bool false, .slice none 0 0, .int .i64 0] 26 (0, 0))) := ⟨by (with_reducible repeat first | apply bN_ | apply bD_ | apply bA_); refine blk_far ?_ NB533_537.out _; (with_reducible repeat first | apply bN_ | apply bD_ | apply bA_); refine blk_far ?_ NB533_537.out _; (with_reducible repeat first | apply bN_ | apply bD_ | apply bA_); refine blk_far ?_ NB533_537.out _; (with_reducible repeat first | apply bN_ | apply bD_ | apply bA_); exact BK533.out⟩
  have n1_ : Aside0 ((((w10.setCell ⟨gb537, 0, none⟩ (.bool t534)).setCell ⟨gb537, 1, none⟩ (.int .i64 t535)).setCell ⟨gb537, 2, none⟩ (.int .u64 t536)).heap[gb537]? = some (.cells #[.bool t534, .int .i64 t535, .int .u64 t536] 48 (0, 0))) := ⟨by (with_reducible repeat first | apply bN_ | apply bD_ | apply bA_); refine blk_put (cs := #[.bool t534, .int .i64 t535, .int .u64 0]) ?_ 2 _ rfl; (with_reducible repeat first | apply bN_ | apply bD_ | apply bA_); refine blk_put (cs := #[.bool t534, .int .i64 0, .int .u64 0]) ?_ 1 _ rfl; (with_reducible repeat first | apply bN_ | apply bD_ | apply bA_); refine blk_put (cs := #[.bool false, .int .i64 0, .int .u64 0]) ?_ 0 _ rfl; (with_reducible repeat first | apply bN_ | apply bD_ | apply bA_); exact BK537.out⟩
  have n2_ : Aside0 (Below w.heap.size w (((w10.setCell ⟨gb537, 0, none⟩ (.bool t534)).setCell ⟨gb537, 1, none⟩ (.int .i64 t535)).setCell ⟨gb537, 2, none⟩ (.int .u64 t536))) := ⟨by repeat (first | (with_reducible first | exact qm_ HB.out | apply qA_ | apply qN_ | apply qD_ | refine below_set ?_ GE533.out | refine below_set ?_ GE537.out) | exact HB.out)⟩
  (try clear BK533)
  (try clear BK537)
  (try clear HB)
  generalize (((w10.setCell ⟨gb537, 0, none⟩ (.bool t534)).setCell ⟨gb537, 1, none⟩ (.int .i64 t535)).setCell ⟨gb537, 2, none⟩ (.int .u64 t536)) = w13 at n0_ n1_ n2_ ⊢
  have BK533 := n0_
  have BK537 := n1_
  have HB := n2_
  clear n0_ n1_ n2_
  have n0_ := A0_ (blk_drew BK533.out)
  have n1_ := A0_ (blk_drew BK537.out)
  have n2_ := A0_ (below_drew1 HB.out)
  clear BK533 BK537 HB
  have BK533 := n0_
  have BK537 := n1_
  have HB := n2_
  clear n0_ n1_ n2_
  refine start_ (n := 9) (S := fun w' => w'.cell? ⟨gb537, 0, none⟩ = some (.bool t534) ∧ w'.cell? ⟨gb537, 1, none⟩ = some (.int .i64 t535) ∧ w'.cell? ⟨gb537, 2, none⟩ = some (.int .u64 t536)) (ds := []) #[false, false, false, false, false, false, false, false, false] (by kernel_rfl) rfl rfl ⟨bC_ BK537.out 0, bC_ BK537.out 1, bC_ BK537.out 2⟩ (fun hHeld => ?_); refine with_tabW cutplaneref03_Value.tab3 cutplaneref03_Value.bits3 (fun HT_ HW_ => ?_)
  generalize w13.drew = w14 at BK533 BK537 HB hHeld ⊢
  refine pure_ (i := 0) (N := some 12) (v := ?_) (a' := ?_) #[true, false, false, false, false, false, false, false, false] rfl rfl (any_of HT_.out (by kernel_rfl)) (fun _ _ _ h => h) (Or.inl ⟨by rfl, ?_⟩) ?_ ?_
  rotate_left
  ·intro w'
   go_simp
   with_reducible rfl
  rotate_left
  ·simp only [Act.put, sp_, i64_w, i32_w]
   rfl
  refine pure_ (i := 2) (N := some 14) (v := ?_) (a' := ?_) #[true, false, true, false, false, false, false, false, false] rfl rfl (any_of HT_.out (by kernel_rfl)) (fun _ _ _ h => h) (Or.inl ⟨by rfl, ?_⟩) ?_ ?_
  rotate_left
  ·intro w'
   go_simp
   with_reducible rfl
  rotate_left
  ·simp only [Act.put, sp_, i64_w, i32_w]
   rfl
  refine pure_ (i := 5) (N := some 17) (v := ?_) (a' := ?_) #[true, false, true, false, false, true, false, false, false] rfl rfl (any_of HT_.out (by kernel_rfl)) (fun _ _ _ h => h) (Or.inl ⟨by rfl, ?_⟩) ?_ ?_
  rotate_left
  ·intro w'
   go_simp
   with_reducible rfl
  rotate_left
  ·simp only [Act.put, sp_, i64_w, i32_w]
   rfl
  refine take_ (i := 1) (N := some 13) (v := ?_) (a' := ?_) #[true, true, true, false, false, true, false, false, false] rfl rfl (take_ofW HT_.out HW_.out (by kernel_rfl)) (fun _ _ _ h => h) (Or.inl ⟨by rfl, ?_⟩) hHeld ?_ ?_
  rotate_left
  ·rintro w' ⟨s0, s1, s2⟩
   go_simp
   with_reducible rfl
  rotate_left
  ·simp only [Act.put, sp_, i64_w, i32_w]
   rfl
  refine take_ (i := 3) (N := some 15) (v := ?_) (a' := ?_) #[true, true, true, true, false, true, false, false, false] rfl rfl (take_ofW HT_.out HW_.out (by kernel_rfl)) (fun _ _ _ h => h) (Or.inl ⟨by rfl, ?_⟩) hHeld ?_ ?_
  rotate_left
  ·rintro w' ⟨s0, s1, s2⟩
   go_simp
   with_reducible rfl
  rotate_left
  ·simp only [Act.put, sp_, i64_w, i32_w]
   rfl
  refine one_ (i := 4) (N := some 16) #[true, true, true, true, true, true, false, false, false] rfl rfl (one_of HT_.out (by kernel_rfl)) (by decide) (fun K hK => ?_)
  refine goes_ Tryd.func45 (by kernel_rfl) rfl #[.int .u64 t536] (by rfl) rfl rfl (by (try simp only [List.map_toArray, List.map_cons, List.map_nil]); first | done | rfl | (simp only [List.length_drop, List.length_take]; rfl)) ?_
  with_reducible refine (cutplaneref01_Of.calls k t536 t538 _ A5.out).mono ?_
  rintro e w15 ⟨v539, rfl, ho0, hb⟩
  refine ⟨_, rfl, ?_⟩
  have n0_ := A0_ (Kd.V_lower (Kd.V_mono (ok' := fun k_ => (w.heap.size ≤ k_) ∧ k_ ≠ gb533 ∧ k_ ≠ gb537) ho0 (fun k_ hk_ => ⟨(Nat.le_trans (below_size (by repeat (first | (with_reducible first | exact qm_ HB.out | apply qA_ | apply qN_ | apply qD_ | refine below_set ?_ GE533.out | refine below_set ?_ GE537.out) | exact HB.out))) hk_), (Kd.freshB (bm_ BK533.out) k_ hk_), (Kd.freshB (bm_ BK537.out) k_ hk_)⟩)) (below_size (by repeat (first | (with_reducible first | exact qm_ HB.out | apply qA_ | apply qN_ | apply qD_ | refine below_set ?_ GE533.out | refine below_set ?_ GE537.out) | exact HB.out))))
  have n1_ := A0_ (blk_below (bm_ BK533.out) hb)
  have n2_ := A0_ (blk_below (bm_ BK537.out) hb)
  have n3_ := A0_ (below_step (by repeat (first | (with_reducible first | exact qm_ HB.out | apply qA_ | apply qN_ | apply qD_ | refine below_set ?_ GE533.out | refine below_set ?_ GE537.out) | exact HB.out)) hb)
  clear BK533 BK537 HB
  have HO540 := n0_
  have BK533 := n1_
  have BK537 := n2_
  have HB := n3_
  clear n0_ n1_ n2_ n3_
  (try clear hb)
  (try clear ho0)
  refine hK.out _ _ ⟨bC_ BK537.out 0, bC_ BK537.out 1, bC_ BK537.out 2⟩ (fun hHeld => ?_)
  clear hK K
  refine norm_ (a' := ?_) ?_ ?_
  rotate_left
  ·show Act.put _ (some 16) _ = _
   simp only [Act.put, sp_, i64_w, i32_w]
   rfl
  refine one_ (i := 6) (N := some 18) #[true, true, true, true, true, true, true, false, false] rfl rfl (one_of HT_.out (by kernel_rfl)) (by decide) (fun K hK => ?_)
  refine goes_ Tryd.func46 (by kernel_rfl) rfl #[.int .u8 a0] (by rfl) rfl rfl (by (try simp only [List.map_toArray, List.map_cons, List.map_nil]); first | done | rfl | (simp only [List.length_drop, List.length_take]; rfl)) ?_
  with_reducible refine (cutplaneref03_Low.calls a0 t541 _ A6.out).mono ?_
  rintro e w' ⟨rfl, ⟨nd, rfl⟩⟩
  refine ⟨_, rfl, ?_⟩
  obtain ⟨Ao16, co16, eo16⟩ := Kd.V_slice HO540.out
  (first | subst eo16 | (injection eo16 with f1_ f2_ f3_; have f4_ := f1_.symm; have f5_ := f3_.symm; clear f1_ f2_ f3_; subst f4_; subst f5_))
  refine hK.out _ _ ⟨bC_ BK537.out 0, bC_ BK537.out 1, bC_ BK537.out 2⟩ (fun hHeld => ?_)
  clear hK K
  refine norm_ (a' := ?_) ?_ ?_
  rotate_left
  ·show Act.put _ (some 18) _ = _
   simp only [Act.put, sp_, i64_w, i32_w]
   rfl
  refine one_ (i := 7) (N := some 19) #[true, true, true, true, true, true, true, true, false] rfl rfl (one_of HT_.out (by kernel_rfl)) (by decide) (fun K hK => ?_)
  refine goes_ Tryd.func44 (by kernel_rfl) rfl #[.bool t534, .slice Ao16 t538.length co16, .int .i64 t541] (by rfl) rfl rfl (by (try simp only [List.map_toArray, List.map_cons, List.map_nil]); first | done | rfl | (simp only [List.length_drop, List.length_take]; rfl)) ?_
  with_reducible refine (cutplaneref02_Form.calls k t534 _ _ t538 t541 t542 t543 t546 _ ?side1 ?side2 A7.out).mono ?_
  (case side1 => repeat (first | exact (Kd.V_reads' HO540.out).2.2 | (with_reducible refine Kd.C_alloc ?_ _) | (with_reducible refine Kd.C_drewN ?_ _) | (with_reducible refine Kd.C_drew ?_)))
  (case side2 => exact (Kd.V_reads' HO540.out).2.1)
  rintro e w17 ⟨v544, rfl, ho0, hb⟩
  refine ⟨_, rfl, ?_⟩
  have n0_ := A0_ (Kd.V_below (by exact vm_ HO540.out) hb)
  have n1_ := A0_ (Kd.V_lower (Kd.V_mono (ok' := fun k_ => (w.heap.size ≤ k_) ∧ k_ ≠ gb533 ∧ k_ ≠ gb537) ho0 (fun k_ hk_ => ⟨(Nat.le_trans (below_size (by repeat (first | (with_reducible first | exact qm_ HB.out | apply qA_ | apply qN_ | apply qD_ | refine below_set ?_ GE533.out | refine below_set ?_ GE537.out) | exact HB.out))) hk_), (Kd.freshB (bm_ BK533.out) k_ hk_), (Kd.freshB (bm_ BK537.out) k_ hk_)⟩)) (below_size (by repeat (first | (with_reducible first | exact qm_ HB.out | apply qA_ | apply qN_ | apply qD_ | refine below_set ?_ GE533.out | refine below_set ?_ GE537.out) | exact HB.out))))
  have n2_ := A0_ (blk_below (bm_ BK533.out) hb)
  have n3_ := A0_ (blk_below (bm_ BK537.out) hb)
  have n4_ := A0_ (below_step (by repeat (first | (with_reducible first | exact qm_ HB.out | apply qA_ | apply qN_ | apply qD_ | refine below_set ?_ GE533.out | refine below_set ?_ GE537.out) | exact HB.out)) hb)
  clear HO540 BK533 BK537 HB
  have HO540 := n0_
  have HO545 := n1_
  have BK533 := n2_
  have BK537 := n3_
  have HB := n4_
  clear n0_ n1_ n2_ n3_ n4_
  (try clear hb)
  (try clear ho0)
  obtain ⟨Ao19, co19, eo19⟩ := Kd.V_slice HO545.out
  (first | subst eo19 | (injection eo19 with f1_ f2_ f3_; have f4_ := f1_.symm; have f5_ := f3_.symm; clear f1_ f2_ f3_; subst f4_; subst f5_))
  refine hK.out _ _ ⟨bC_ BK537.out 0, bC_ BK537.out 1, bC_ BK537.out 2⟩ (fun hHeld => ?_)
  clear hK K
  refine norm_ (a' := ?_) ?_ ?_
  rotate_left
  ·show Act.put _ (some 19) _ = _
   simp only [Act.put, sp_, i64_w, i32_w]
   rfl
  refine one_ (i := 8) (N := none) #[true, true, true, true, true, true, true, true, true] rfl rfl (one_of HT_.out (by kernel_rfl)) (by decide) (fun K hK => ?_)
  have hs18 : w17.cell? ⟨gb533, 0, none⟩ = some (.bool false) := (blk_cell BK533.out 0).trans rfl
  have hfs18 := blk_frozen BK533.out 0
  have hns18_1 := NB537_533.out
  have hms18_1 := NB533_537.out
  have hs20 : w17.cell? ⟨gb533, 1, none⟩ = some (.slice none 0 0) := (blk_cell BK533.out 1).trans rfl
  have hfs20 := blk_frozen BK533.out 1
  have hns20_1 := NB537_533.out
  have hms20_1 := NB533_537.out
  have hs21 : w17.cell? ⟨gb533, 2, none⟩ = some (.int .i64 0) := (blk_cell BK533.out 2).trans rfl
  have hfs21 := blk_frozen BK533.out 2
  have hns21_1 := NB537_533.out
  have hms21_1 := NB533_537.out
  refine skip_ (w1 := ?_) (by rfl) rfl ?_ ?_
  rotate_left
  ·go_simp
   rfl
  refine hK.out _ _ ⟨((cell_far (p := ⟨gb533, _, none⟩) NB537_533.out _).trans (((cell_far (p := ⟨gb533, _, none⟩) NB537_533.out _).trans (((cell_far (p := ⟨gb533, _, none⟩) NB537_533.out _).trans (hHeld.1)))))), ((cell_far (p := ⟨gb533, _, none⟩) NB537_533.out _).trans (((cell_far (p := ⟨gb533, _, none⟩) NB537_533.out _).trans (((cell_far (p := ⟨gb533, _, none⟩) NB537_533.out _).trans (hHeld.2.1)))))), ((cell_far (p := ⟨gb533, _, none⟩) NB537_533.out _).trans (((cell_far (p := ⟨gb533, _, none⟩) NB537_533.out _).trans (((cell_far (p := ⟨gb533, _, none⟩) NB537_533.out _).trans (hHeld.2.2))))))⟩ (fun hHeld => ?_)
  clear hK K
  refine done_ (done_of HT_.out (by kernel_rfl)) ?_
  try go_wp2
  refine bodyPost_ret (results_cell_row rfl _ _ gb533 26 #[.bool t542, .slice Ao19 t543.length co19, .int .i64 t546] (0, 0) _ rfl (by (with_reducible repeat first | apply bN_ | apply bD_ | apply bA_); refine blk_put (cs := #[.bool t542, .slice Ao19 t543.length co19, .int .i64 0]) ?_ 2 _ rfl; (with_reducible repeat first | apply bN_ | apply bD_ | apply bA_); refine blk_put (cs := #[.bool t542, .slice none 0 0, .int .i64 0]) ?_ 1 _ rfl; (with_reducible repeat first | apply bN_ | apply bD_ | apply bA_); refine blk_put (cs := #[.bool false, .slice none 0 0, .int .i64 0]) ?_ 0 _ rfl; (with_reducible repeat first | apply bN_ | apply bD_ | apply bA_); exact BK533.out) Tryd.underlying26 rfl (by kernel_rfl)) rfl ?_
  exact ⟨_, by first | rfl | (simp [errW_none, errW_some] <;> rfl) | (simp [*, errW_none, errW_some] <;> rfl), by (with_reducible repeat (first | apply Kd.V_alloc | apply Kd.V_drewN | apply Kd.V_drew)); exact Kd.V_mono (Kd.V_far (p := ⟨gb533, 2, none⟩) (Kd.V_far (p := ⟨gb533, 1, none⟩) (Kd.V_far (p := ⟨gb533, 0, none⟩) (Kd.V_mono HO545.out (fun k_ hk => (⟨hk, hk.2.1⟩ : _ ∧ k_ ≠ gb533))) (fun _ hk => hk.2) (.bool t542)) (fun _ hk => hk.2) (.slice Ao19 t543.length co19)) (fun _ hk => hk.2) (.int .i64 t546)) (fun _ hk => hk.1.1), by repeat (first | (with_reducible first | exact qm_ HB.out | apply qA_ | apply qN_ | apply qD_ | refine below_set ?_ GE533.out | refine below_set ?_ GE537.out) | exact HB.out)⟩
 ·rw [if_neg c4] at H
  have c4b0 : (t535 == 0) = false := beq_eq_false_iff_ne.mpr c4
  have c4b1 : (t535 != 0) = true := bne_iff_ne.mpr c4
  replace H := Option.bind_eq_some_iff.mp H
  obtain ⟨t547, A220, H⟩ := H
  replace H : (if 0 ≤ t547 then ((cutplaneref01_Of.f k (IntKind.u64.wrap ((shl .u64 1 t547) + t536))).bind fun t548 => ((cutplaneref03_Low.f a0).bind fun t551 => ((cutplaneref02_Form.f k t534 t548 (wrap64 ((wrap64 (t535 - 1)) + t551))).bind fun bt552 => (some (bt552.1, bt552.2.1, bt552.2.2))))) else (none)) = some (r1, r2, r3) := H
  have A22 := A0_ A220
  clear A220
  by_cases c23 : 0 ≤ t547
  ·rw [if_pos c23] at H
   have c23b0 := eq_true c23
   have c23b1 : decide (0 ≤ t547) = true := decide_eq_true c23
   clear c23
   obtain ⟨ji24, hji24⟩ : ∃ j_ : Int, (shl .u64 1 t547) = j_ := ⟨_, rfl⟩
   replace H : ((cutplaneref01_Of.f k (IntKind.u64.wrap ((ji24) + t536))).bind fun t548 => ((cutplaneref03_Low.f a0).bind fun t551 => ((cutplaneref02_Form.f k t534 t548 (wrap64 ((wrap64 (t535 - 1)) + t551))).bind fun bt552 => (some (bt552.1, bt552.2.1, bt552.2.2))))) = some (r1, r2, r3) := by first | (rw [hji24] at H; exact H) | (simp only [hji24] at H ⊢; exact H)
   (try rw [hji24] at A3)
   (try rw [hji24] at A22)
   have hji24_ : (IntKind.u64.wrap (1 * 2 ^ min t547.toNat 64)) = ji24 := hji24
   have hji24z : t547 ≤ 64 → (IntKind.u64.wrap (1 * 2 ^ t547.toNat)) = ji24 := shl_small hji24
   have hji24u : (IntKind.u64.wrap (2 ^ min t547.toNat 64)) = ji24 := by have h_ := hji24_; rw [Int.one_mul] at h_; exact h_
   have hji24v : t547 ≤ 64 → (IntKind.u64.wrap (2 ^ t547.toNat)) = ji24 := fun hle_ => by have h_ := hji24z hle_; rw [Int.one_mul] at h_; exact h_
   replace H := Option.bind_eq_some_iff.mp H
   obtain ⟨t548, A250, H⟩ := H
   replace H : ((cutplaneref03_Low.f a0).bind fun t551 => ((cutplaneref02_Form.f k t534 t548 (wrap64 ((wrap64 (t535 - 1)) + t551))).bind fun bt552 => (some (bt552.1, bt552.2.1, bt552.2.2)))) = some (r1, r2, r3) := H
   have A25 := A0_ A250
   clear A250
   replace H := Option.bind_eq_some_iff.mp H
   obtain ⟨t551, A260, H⟩ := H
   replace H : ((cutplaneref02_Form.f k t534 t548 (wrap64 ((wrap64 (t535 - 1)) + t551))).bind fun bt552 => (some (bt552.1, bt552.2.1, bt552.2.2))) = some (r1, r2, r3) := H
   have A26 := A0_ A260
   clear A260
   replace H := Option.bind_eq_some_iff.mp H
   obtain ⟨⟨t552, t553, t556⟩, A270, H⟩ := H
   replace H : (some (t552, t553, t556)) = some (r1, r2, r3) := H
   have A27 := A0_ A270
   clear A270
   simp only [Option.some.injEq, Prod.mk.injEq] at H
   obtain ⟨rfl, rfl, rfl⟩ := H
   go_enter Tryd.func16, Tryd.ntmps16
   try go_wp2_with (first | ((with_reducible refine gate_dst (N := 4) rfl ?_); refine box_event ?hg (N := 4) ?hd (cs := #[.bool false, .slice none 0 0, .int .i64 0]) (t := 26) ?hr ?_; (case hd => rfl); (case hg => rfl); (case hr => first | (go_simp; done) | (go_simp; rfl)); intro gb533 hg w28 hbox hb; have n0_ := A0_ (below_step (qm_ HB.out) hb); have n1_ := A0_ (hbox); have n2_ := A0_ ((by rw [hg]; exact (below_size (qm_ HB.out)) : w.heap.size ≤ gb533)); have n3_ := A0_ ((by rw [hg]; exact (below_size (qm_ HB.out)) : w.heap.size ≤ gb533)); clear HB; have HB := n0_; have BK533 := n1_; have GW533 := n2_; have GE533 := n3_; clear n0_ n1_ n2_ n3_ hb hbox hg) | ((with_reducible refine gate_callee (f := 43) rfl ?_); refine goesL_ (some 8) rfl rfl Tryd.func43 (by kernel_rfl) rfl #[.int .u8 a0, .int .u64 a1] rfl (by (try simp only [List.map_toArray, List.map_cons, List.map_nil]); first | done | rfl | (simp only [List.length_drop, List.length_take]; rfl)) ?_; (with_reducible refine (cutplaneref03_Split.calls a0 a1 t534 t535 t536 _ A3.out).mono ?_); rintro e w29 ⟨rfl, hb⟩; refine ⟨_, rfl, ?_⟩; have n0_ := A0_ (blk_below (bm_ BK533.out) hb); have n1_ := A0_ (below_step (by repeat (first | (with_reducible first | exact qm_ HB.out | apply qA_ | apply qN_ | apply qD_ | refine below_set ?_ GE533.out) | exact HB.out)) hb); clear BK533 HB; have BK533 := n0_; have HB := n1_; clear n0_ n1_; (try clear hb)) | ((with_reducible refine gate_dst (N := 5) rfl ?_); refine box_event ?hg (N := 5) ?hd (cs := #[.bool false, .int .i64 0, .int .u64 0]) (t := 48) ?hr ?_; (case hd => rfl); (case hg => rfl); (case hr => first | (go_simp; done) | (go_simp; rfl)); intro gb537 hg w30 hbox hb; have n0_ := A0_ (blk_below (bm_ BK533.out) hb); have n1_ := A0_ (below_step (by repeat (first | (with_reducible first | exact qm_ HB.out | apply qA_ | apply qN_ | apply qD_ | refine below_set ?_ GE533.out) | exact HB.out)) hb); have n2_ := A0_ (hbox); have n3_ := A0_ ((by rw [hg]; exact (below_size (by repeat (first | (with_reducible first | exact qm_ HB.out | apply qA_ | apply qN_ | apply qD_ | refine below_set ?_ GE533.out) | exact HB.out))) : w.heap.size ≤ gb537)); have n4_ := A0_ ((by rw [hg]; exact (below_size (by repeat (first | (with_reducible first | exact qm_ HB.out | apply qA_ | apply qN_ | apply qD_ | refine below_set ?_ GE533.out) | exact HB.out))) : w.heap.size ≤ gb537)); have n5_ := A0_ ((by rw [hg]; exact Nat.ne_of_lt (blk_lt (bm_ BK533.out)) : gb533 ≠ gb537)); have n6_ := A0_ ((by rw [hg]; exact Nat.ne_of_gt (blk_lt (bm_ BK533.out)) : gb537 ≠ gb533)); clear BK533 HB; have BK533 := n0_; have HB := n1_; have BK537 := n2_; have GW537 := n3_; have GE537 := n4_; have NB533_537 := n5_; have NB537_533 := n6_; clear n0_ n1_ n2_ n3_ n4_ n5_ n6_ hb hbox hg; have hnb31 := NB537_533.out; have hnc31 := NB533_537.out; have hcz32 := bc3_ BK537.out; have hfz32 := bf3_ BK537.out))
   have n0_ : Aside0 ((((w30.setCell ⟨gb537, 0, none⟩ (.bool t534)).setCell ⟨gb537, 1, none⟩ (.int .i64 t535)).setCell ⟨gb537, 2, none⟩ (.int .u64 t536)).heap[gb533]? = some (.cells #[.bool false, .slice none 0 0, .int .i64 0] 26 (0, 0))) := ⟨by (with_reducible repeat first | apply bN_ | apply bD_ | apply bA_); refine blk_far ?_ NB533_537.out _; (with_reducible repeat first | apply bN_ | apply bD_ | apply bA_); refine blk_far ?_ NB533_537.out _; (with_reducible repeat first | apply bN_ | apply bD_ | apply bA_); refine blk_far ?_ NB533_537.out _; (with_reducible repeat first | apply bN_ | apply bD_ | apply bA_); exact BK533.out⟩
   have n1_ : Aside0 ((((w30.setCell ⟨gb537, 0, none⟩ (.bool t534)).setCell ⟨gb537, 1, none⟩ (.int .i64 t535)).setCell ⟨gb537, 2, none⟩ (.int .u64 t536)).heap[gb537]? = some (.cells #[.bool t534, .int .i64 t535, .int .u64 t536] 48 (0, 0))) := ⟨by (with_reducible repeat first | apply bN_ | apply bD_ | apply bA_); refine blk_put (cs := #[.bool t534, .int .i64 t535, .int .u64 0]) ?_ 2 _ rfl; (with_reducible repeat first | apply bN_ | apply bD_ | apply bA_); refine blk_put (cs := #[.bool t534, .int .i64 0, .int .u64 0]) ?_ 1 _ rfl; (with_reducible repeat first | apply bN_ | apply bD_ | apply bA_); refine blk_put (cs := #[.bool false, .int .i64 0, .int .u64 0]) ?_ 0 _ rfl; (with_reducible repeat first | apply bN_ | apply bD_ | apply bA_); exact BK537.out⟩
   have n2_ : Aside0 (Below w.heap.size w (((w30.setCell ⟨gb537, 0, none⟩ (.bool t534)).setCell ⟨gb537, 1, none⟩ (.int .i64 t535)).setCell ⟨gb537, 2, none⟩ (.int .u64 t536))) := ⟨by repeat (first | (with_reducible first | exact qm_ HB.out | apply qA_ | apply qN_ | apply qD_ | refine below_set ?_ GE533.out | refine below_set ?_ GE537.out) | exact HB.out)⟩
   (try clear BK533)
   (try clear BK537)
   (try clear HB)
   generalize (((w30.setCell ⟨gb537, 0, none⟩ (.bool t534)).setCell ⟨gb537, 1, none⟩ (.int .i64 t535)).setCell ⟨gb537, 2, none⟩ (.int .u64 t536)) = w33 at n0_ n1_ n2_ ⊢
   have BK533 := n0_
   have BK537 := n1_
   have HB := n2_
   clear n0_ n1_ n2_
   have n0_ := A0_ (blk_drew BK533.out)
   have n1_ := A0_ (blk_drew BK537.out)
   have n2_ := A0_ (below_drew1 HB.out)
   clear BK533 BK537 HB
   have BK533 := n0_
   have BK537 := n1_
   have HB := n2_
   clear n0_ n1_ n2_
   refine start_ (n := 17) (S := fun w' => w'.cell? ⟨gb537, 0, none⟩ = some (.bool t534) ∧ w'.cell? ⟨gb537, 1, none⟩ = some (.int .i64 t535) ∧ w'.cell? ⟨gb537, 2, none⟩ = some (.int .u64 t536)) (ds := []) #[false, false, false, false, false, false, false, false, false, false, false, false, false, false, false, false, false] (by kernel_rfl) rfl rfl ⟨bC_ BK537.out 0, bC_ BK537.out 1, bC_ BK537.out 2⟩ (fun hHeld => ?_); refine with_tabW cutplaneref03_Value.tab4 cutplaneref03_Value.bits4 (fun HT_ HW_ => ?_)
   generalize w33.drew = w34 at BK533 BK537 HB hHeld ⊢
   refine pure_ (i := 0) (N := some 20) (v := ?_) (a' := ?_) #[true, false, false, false, false, false, false, false, false, false, false, false, false, false, false, false, false] rfl rfl (any_of HT_.out (by kernel_rfl)) (fun _ _ _ h => h) (Or.inl ⟨by rfl, ?_⟩) ?_ ?_
   rotate_left
   ·intro w'
    go_simp
    with_reducible rfl
   rotate_left
   ·simp only [Act.put, sp_, i64_w, i32_w]
    rfl
   refine pure_ (i := 2) (N := some 22) (v := ?_) (a' := ?_) #[true, false, true, false, false, false, false, false, false, false, false, false, false, false, false, false, false] rfl rfl (any_of HT_.out (by kernel_rfl)) (fun _ _ _ h => h) (Or.inl ⟨by rfl, ?_⟩) ?_ ?_
   rotate_left
   ·intro w'
    go_simp
    with_reducible rfl
   rotate_left
   ·simp only [Act.put, sp_, i64_w, i32_w]
    rfl
   refine pure_ (i := 5) (N := some 25) (v := ?_) (a' := ?_) #[true, false, true, false, false, true, false, false, false, false, false, false, false, false, false, false, false] rfl rfl (any_of HT_.out (by kernel_rfl)) (fun _ _ _ h => h) (Or.inl ⟨by rfl, ?_⟩) ?_ ?_
   rotate_left
   ·intro w'
    go_simp
    with_reducible rfl
   rotate_left
   ·simp only [Act.put, sp_, i64_w, i32_w]
    rfl
   refine pure_ (i := 9) (N := some 29) (v := ?_) (a' := ?_) #[true, false, true, false, false, true, false, false, false, true, false, false, false, false, false, false, false] rfl rfl (any_of HT_.out (by kernel_rfl)) (fun _ _ _ h => h) (Or.inl ⟨by rfl, ?_⟩) ?_ ?_
   rotate_left
   ·intro w'
    go_simp
    with_reducible rfl
   rotate_left
   ·simp only [Act.put, sp_, i64_w, i32_w]
    rfl
   refine pure_ (i := 12) (N := some 32) (v := ?_) (a' := ?_) #[true, false, true, false, false, true, false, false, false, true, false, false, true, false, false, false, false] rfl rfl (any_of HT_.out (by kernel_rfl)) (fun _ _ _ h => h) (Or.inl ⟨by rfl, ?_⟩) ?_ ?_
   rotate_left
   ·intro w'
    go_simp
    with_reducible rfl
   rotate_left
   ·simp only [Act.put, sp_, i64_w, i32_w]
    rfl
   refine take_ (i := 1) (N := some 21) (v := ?_) (a' := ?_) #[true, true, true, false, false, true, false, false, false, true, false, false, true, false, false, false, false] rfl rfl (take_ofW HT_.out HW_.out (by kernel_rfl)) (fun _ _ _ h => h) (Or.inl ⟨by rfl, ?_⟩) hHeld ?_ ?_
   rotate_left
   ·rintro w' ⟨s0, s1, s2⟩
    go_simp
    with_reducible rfl
   rotate_left
   ·simp only [Act.put, sp_, i64_w, i32_w]
    rfl
   refine take_ (i := 6) (N := some 26) (v := ?_) (a' := ?_) #[true, true, true, false, false, true, true, false, false, true, false, false, true, false, false, false, false] rfl rfl (take_ofW HT_.out HW_.out (by kernel_rfl)) (fun _ _ _ h => h) (Or.inl ⟨by rfl, ?_⟩) hHeld ?_ ?_
   rotate_left
   ·rintro w' ⟨s0, s1, s2⟩
    go_simp
    with_reducible rfl
   rotate_left
   ·simp only [Act.put, sp_, i64_w, i32_w]
    rfl
   refine take_ (i := 10) (N := some 30) (v := ?_) (a' := ?_) #[true, true, true, false, false, true, true, false, false, true, true, false, true, false, false, false, false] rfl rfl (take_ofW HT_.out HW_.out (by kernel_rfl)) (fun _ _ _ h => h) (Or.inl ⟨by rfl, ?_⟩) hHeld ?_ ?_
   rotate_left
   ·rintro w' ⟨s0, s1, s2⟩
    go_simp
    with_reducible rfl
   rotate_left
   ·simp only [Act.put, sp_, i64_w, i32_w]
    rfl
   refine pure_ (i := 11) (N := some 31) (v := ?_) (a' := ?_) #[true, true, true, false, false, true, true, false, false, true, true, true, true, false, false, false, false] rfl rfl (any_of HT_.out (by kernel_rfl)) (fun _ _ _ h => h) (Or.inl ⟨by rfl, ?_⟩) ?_ ?_
   rotate_left
   ·intro w'
    go_simp
    with_reducible rfl
   rotate_left
   ·simp only [Act.put, sp_, i64_w, i32_w]
    rfl
   refine one_ (i := 3) (N := some 23) #[true, true, true, true, false, true, true, false, false, true, true, true, true, false, false, false, false] rfl rfl (one_of HT_.out (by kernel_rfl)) (by decide) (fun K hK => ?_)
   refine goes_ Tryd.func47 (by kernel_rfl) rfl #[.int .u8 a0] (by rfl) rfl rfl (by (try simp only [List.map_toArray, List.map_cons, List.map_nil]); first | done | rfl | (simp only [List.length_drop, List.length_take]; rfl)) ?_
   with_reducible refine (cutplaneref03_Frac.calls a0 t547 _ A22.out).mono ?_
   rintro e w' ⟨rfl, ⟨nd, rfl⟩⟩
   refine ⟨_, rfl, ?_⟩
   refine hK.out _ _ ⟨bC_ BK537.out 0, bC_ BK537.out 1, bC_ BK537.out 2⟩ (fun hHeld => ?_)
   clear hK K
   refine norm_ (a' := ?_) ?_ ?_
   rotate_left
   ·show Act.put _ (some 23) _ = _
    simp only [Act.put, sp_, i64_w, i32_w]
    rfl
   refine pure_ (i := 4) (N := some 24) (v := ?_) (a' := ?_) #[true, true, true, true, true, true, true, false, false, true, true, true, true, false, false, false, false] rfl rfl (any_of HT_.out (by kernel_rfl)) (fun _ _ _ h => h) (Or.inl ⟨by rfl, ?_⟩) ?_ ?_
   rotate_left
   ·intro w'
    go_simp
    with_reducible rfl
   rotate_left
   ·simp only [Act.put, sp_, i64_w, i32_w]
    rfl
   refine pure_ (i := 7) (N := some 27) (v := ?_) (a' := ?_) #[true, true, true, true, true, true, true, true, false, true, true, true, true, false, false, false, false] rfl rfl (any_of HT_.out (by kernel_rfl)) (fun _ _ _ h => h) (Or.inl ⟨by rfl, ?_⟩) ?_ ?_
   rotate_left
   ·intro w'
    go_simp
    with_reducible rfl
   rotate_left
   ·simp only [Act.put, sp_, i64_w, i32_w]
    rfl
   refine one_ (i := 8) (N := some 28) #[true, true, true, true, true, true, true, true, true, true, true, true, true, false, false, false, false] rfl rfl (one_of HT_.out (by kernel_rfl)) (by decide) (fun K hK => ?_)
   refine goes_ Tryd.func45 (by kernel_rfl) rfl #[.int .u64 (IntKind.u64.wrap ((ji24) + t536))] (by rfl) rfl rfl (by (try simp only [List.map_toArray, List.map_cons, List.map_nil]); first | done | (simp only [hji24]; rfl) | rfl | (simp only [List.length_drop, List.length_take]; rfl)) ?_
   with_reducible refine (cutplaneref01_Of.calls k (IntKind.u64.wrap ((ji24) + t536)) t548 _ A25.out).mono ?_
   rintro e w35 ⟨v549, rfl, ho0, hb⟩
   refine ⟨_, rfl, ?_⟩
   have n0_ := A0_ (Kd.V_lower (Kd.V_mono (ok' := fun k_ => (w.heap.size ≤ k_) ∧ k_ ≠ gb533 ∧ k_ ≠ gb537) ho0 (fun k_ hk_ => ⟨(Nat.le_trans (below_size (by repeat (first | (with_reducible first | exact qm_ HB.out | apply qA_ | apply qN_ | apply qD_ | refine below_set ?_ GE533.out | refine below_set ?_ GE537.out) | exact HB.out))) hk_), (Kd.freshB (bm_ BK533.out) k_ hk_), (Kd.freshB (bm_ BK537.out) k_ hk_)⟩)) (below_size (by repeat (first | (with_reducible first | exact qm_ HB.out | apply qA_ | apply qN_ | apply qD_ | refine below_set ?_ GE533.out | refine below_set ?_ GE537.out) | exact HB.out))))
   have n1_ := A0_ (blk_below (bm_ BK533.out) hb)
   have n2_ := A0_ (blk_below (bm_ BK537.out) hb)
   have n3_ := A0_ (below_step (by repeat (first | (with_reducible first | exact qm_ HB.out | apply qA_ | apply qN_ | apply qD_ | refine below_set ?_ GE533.out | refine below_set ?_ GE537.out) | exact HB.out)) hb)
   clear BK533 BK537 HB
   have HO550 := n0_
   have BK533 := n1_
   have BK537 := n2_
   have HB := n3_
   clear n0_ n1_ n2_ n3_
   (try clear hb)
   (try clear ho0)
   refine hK.out _ _ ⟨bC_ BK537.out 0, bC_ BK537.out 1, bC_ BK537.out 2⟩ (fun hHeld => ?_)
   clear hK K
   refine norm_ (a' := ?_) ?_ ?_
   rotate_left
   ·show Act.put _ (some 28) _ = _
    simp only [Act.put, sp_, i64_w, i32_w]
    rfl
   refine one_ (i := 13) (N := some 33) #[true, true, true, true, true, true, true, true, true, true, true, true, true, true, false, false, false] rfl rfl (one_of HT_.out (by kernel_rfl)) (by decide) (fun K hK => ?_)
   refine goes_ Tryd.func46 (by kernel_rfl) rfl #[.int .u8 a0] (by rfl) rfl rfl (by (try simp only [List.map_toArray, List.map_cons, List.map_nil]); first | done | rfl | (simp only [List.length_drop, List.length_take]; rfl)) ?_
   with_reducible refine (cutplaneref03_Low.calls a0 t551 _ A26.out).mono ?_
   rintro e w' ⟨rfl, ⟨nd, rfl⟩⟩
   refine ⟨_, rfl, ?_⟩
   obtain ⟨Ao36, co36, eo36⟩ := Kd.V_slice HO550.out
   (first | subst eo36 | (injection eo36 with f1_ f2_ f3_; have f4_ := f1_.symm; have f5_ := f3_.symm; clear f1_ f2_ f3_; subst f4_; subst f5_))
   refine hK.out _ _ ⟨bC_ BK537.out 0, bC_ BK537.out 1, bC_ BK537.out 2⟩ (fun hHeld => ?_)
   clear hK K
   refine norm_ (a' := ?_) ?_ ?_
   rotate_left
   ·show Act.put _ (some 33) _ = _
    simp only [Act.put, sp_, i64_w, i32_w]
    rfl
   refine pure_ (i := 14) (N := some 34) (v := ?_) (a' := ?_) #[true, true, true, true, true, true, true, true, true, true, true, true, true, true, true, false, false] rfl rfl (any_of HT_.out (by kernel_rfl)) (fun _ _ _ h => h) (Or.inl ⟨by rfl, ?_⟩) ?_ ?_
   rotate_left
   ·intro w'
    go_simp
    with_reducible rfl
   rotate_left
   ·simp only [Act.put, sp_, i64_w, i32_w]
    rfl
   refine one_ (i := 15) (N := some 35) #[true, true, true, true, true, true, true, true, true, true, true, true, true, true, true, true, false] rfl rfl (one_of HT_.out (by kernel_rfl)) (by decide) (fun K hK => ?_)
   refine goes_ Tryd.func44 (by kernel_rfl) rfl #[.bool t534, .slice Ao36 t548.length co36, .int .i64 (wrap64 ((wrap64 (t535 - 1)) + t551))] (by rfl) rfl rfl (by (try simp only [List.map_toArray, List.map_cons, List.map_nil]); first | done | rfl | (simp only [List.length_drop, List.length_take]; rfl)) ?_
   with_reducible refine (cutplaneref02_Form.calls k t534 _ _ t548 (wrap64 ((wrap64 (t535 - 1)) + t551)) t552 t553 t556 _ ?side1 ?side2 A27.out).mono ?_
   (case side1 => repeat (first | exact (Kd.V_reads' HO550.out).2.2 | (with_reducible refine Kd.C_alloc ?_ _) | (with_reducible refine Kd.C_drewN ?_ _) | (with_reducible refine Kd.C_drew ?_)))
   (case side2 => exact (Kd.V_reads' HO550.out).2.1)
   rintro e w37 ⟨v554, rfl, ho0, hb⟩
   refine ⟨_, rfl, ?_⟩
   have n0_ := A0_ (Kd.V_below (by exact vm_ HO550.out) hb)
   have n1_ := A0_ (Kd.V_lower (Kd.V_mono (ok' := fun k_ => (w.heap.size ≤ k_) ∧ k_ ≠ gb533 ∧ k_ ≠ gb537) ho0 (fun k_ hk_ => ⟨(Nat.le_trans (below_size (by repeat (first | (with_reducible first | exact qm_ HB.out | apply qA_ | apply qN_ | apply qD_ | refine below_set ?_ GE533.out | refine below_set ?_ GE537.out) | exact HB.out))) hk_), (Kd.freshB (bm_ BK533.out) k_ hk_), (Kd.freshB (bm_ BK537.out) k_ hk_)⟩)) (below_size (by repeat (first | (with_reducible first | exact qm_ HB.out | apply qA_ | apply qN_ | apply qD_ | refine below_set ?_ GE533.out | refine below_set ?_ GE537.out) | exact HB.out))))
   have n2_ := A0_ (blk_below (bm_ BK533.out) hb)
   have n3_ := A0_ (blk_below (bm_ BK537.out) hb)
   have n4_ := A0_ (below_step (by repeat (first | (with_reducible first | exact qm_ HB.out | apply qA_ | apply qN_ | apply qD_ | refine below_set ?_ GE533.out | refine below_set ?_ GE537.out) | exact HB.out)) hb)
   clear HO550 BK533 BK537 HB
   have HO550 := n0_
   have HO555 := n1_
   have BK533 := n2_
   have BK537 := n3_
   have HB := n4_
   clear n0_ n1_ n2_ n3_ n4_
   (try clear hb)
   (try clear ho0)
   obtain ⟨Ao39, co39, eo39⟩ := Kd.V_slice HO555.out
   (first | subst eo39 | (injection eo39 with f1_ f2_ f3_; have f4_ := f1_.symm; have f5_ := f3_.symm; clear f1_ f2_ f3_; subst f4_; subst f5_))
   refine hK.out _ _ ⟨bC_ BK537.out 0, bC_ BK537.out 1, bC_ BK537.out 2⟩ (fun hHeld => ?_)
   clear hK K
   refine norm_ (a' := ?_) ?_ ?_
   rotate_left
   ·show Act.put _ (some 35) _ = _
    simp only [Act.put, sp_, i64_w, i32_w]
    rfl
   refine one_ (i := 16) (N := none) #[true, true, true, true, true, true, true, true, true, true, true, true, true, true, true, true, true] rfl rfl (one_of HT_.out (by kernel_rfl)) (by decide) (fun K hK => ?_)
   have hs38 : w37.cell? ⟨gb533, 0, none⟩ = some (.bool false) := (blk_cell BK533.out 0).trans rfl
   have hfs38 := blk_frozen BK533.out 0
   have hns38_1 := NB537_533.out
   have hms38_1 := NB533_537.out
   have hs40 : w37.cell? ⟨gb533, 1, none⟩ = some (.slice none 0 0) := (blk_cell BK533.out 1).trans rfl
   have hfs40 := blk_frozen BK533.out 1
   have hns40_1 := NB537_533.out
   have hms40_1 := NB533_537.out
   have hs41 : w37.cell? ⟨gb533, 2, none⟩ = some (.int .i64 0) := (blk_cell BK533.out 2).trans rfl
   have hfs41 := blk_frozen BK533.out 2
   have hns41_1 := NB537_533.out
   have hms41_1 := NB533_537.out
   refine skip_ (w1 := ?_) (by rfl) rfl ?_ ?_
   rotate_left
   ·go_simp
    rfl
   refine hK.out _ _ ⟨((cell_far (p := ⟨gb533, _, none⟩) NB537_533.out _).trans (((cell_far (p := ⟨gb533, _, none⟩) NB537_533.out _).trans (((cell_far (p := ⟨gb533, _, none⟩) NB537_533.out _).trans (hHeld.1)))))), ((cell_far (p := ⟨gb533, _, none⟩) NB537_533.out _).trans (((cell_far (p := ⟨gb533, _, none⟩) NB537_533.out _).trans (((cell_far (p := ⟨gb533, _, none⟩) NB537_533.out _).trans (hHeld.2.1)))))), ((cell_far (p := ⟨gb533, _, none⟩) NB537_533.out _).trans (((cell_far (p := ⟨gb533, _, none⟩) NB537_533.out _).trans (((cell_far (p := ⟨gb533, _, none⟩) NB537_533.out _).trans (hHeld.2.2))))))⟩ (fun hHeld => ?_)
   clear hK K
   refine done_ (done_of HT_.out (by kernel_rfl)) ?_
   try go_wp2
   refine bodyPost_ret (results_cell_row rfl _ _ gb533 26 #[.bool t552, .slice Ao39 t553.length co39, .int .i64 t556] (0, 0) _ rfl (by (with_reducible repeat first | apply bN_ | apply bD_ | apply bA_); refine blk_put (cs := #[.bool t552, .slice Ao39 t553.length co39, .int .i64 0]) ?_ 2 _ rfl; (with_reducible repeat first | apply bN_ | apply bD_ | apply bA_); refine blk_put (cs := #[.bool t552, .slice none 0 0, .int .i64 0]) ?_ 1 _ rfl; (with_reducible repeat first | apply bN_ | apply bD_ | apply bA_); refine blk_put (cs := #[.bool false, .slice none 0 0, .int .i64 0]) ?_ 0 _ rfl; (with_reducible repeat first | apply bN_ | apply bD_ | apply bA_); exact BK533.out) Tryd.underlying26 rfl (by kernel_rfl)) rfl ?_
   exact ⟨_, by first | rfl | (simp [errW_none, errW_some] <;> rfl) | (simp only [← hji24]; first | rfl | (simp [errW_none, errW_some] <;> rfl)) | (simp [*, errW_none, errW_some] <;> rfl), by (with_reducible repeat (first | apply Kd.V_alloc | apply Kd.V_drewN | apply Kd.V_drew)); exact Kd.V_mono (Kd.V_far (p := ⟨gb533, 2, none⟩) (Kd.V_far (p := ⟨gb533, 1, none⟩) (Kd.V_far (p := ⟨gb533, 0, none⟩) (Kd.V_mono HO555.out (fun k_ hk => (⟨hk, hk.2.1⟩ : _ ∧ k_ ≠ gb533))) (fun _ hk => hk.2) (.bool t552)) (fun _ hk => hk.2) (.slice Ao39 t553.length co39)) (fun _ hk => hk.2) (.int .i64 t556)) (fun _ hk => hk.1.1), by repeat (first | (with_reducible first | exact qm_ HB.out | apply qA_ | apply qN_ | apply qD_ | refine below_set ?_ GE533.out | refine below_set ?_ GE537.out) | exact HB.out)⟩
  ·rw [if_neg c23] at H
   exact absurd H (by simp)
end Go.Proofs.YthiklmgdmaemgaaDoor.PA
end

section
namespace Go.Proofs.YthiklmgdmaemgaaDoor.PA
open Go.RowKit Go.Proofs.YthiklmgdmaemgaaDoorW.PrintWords Go.Proofs.YthiklmgdmaemgaaDoorW.PrintLast Go.Proofs.YthiklmgdmaemgaaDoorW.PrintMore
attribute [local go_sem] max2_int min2_int max_two min_two max_three min_three max_four min_four   -- for this text's walks alone
set_option linter.unusedVariables false
set_option linter.unusedSimpArgs false
def cutplaneref02_Two.f (a0 : Int) : Option (Bool × List Int × Int) := some (false, (([1] : List Int)), a0)
set_option maxHeartbeats 2000000 in
set_option maxRecDepth 100000 in
theorem cutplaneref02_Two.calls (a0 : Int) (r1 : Bool) (r2 : List Int) (r3 : Int) (w : World) (h : cutplaneref02_Two.f a0 = some (r1, r2, r3)) :
  Calls Tryd.prog 48 #[.int .i64 a0] w fun e w' => ∃ v1_ : Value, e = .returned (.agg #[.bool r1, v1_, .int .i64 r3]) ∧ Kd.R (Kd.int .u32) 78 w' w.heap.size (fun _ => True) v1_ r2 ∧ Below w.heap.size w w' := by
 have hu26 := Tryd.underlying26
 have HB := A0_ (Below.refl w.heap.size w)
 have H : (some (false, (([1] : List Int)), a0)) = some (r1, r2, r3) := h
 clear h
 obtain ⟨y558, hy558⟩ : ∃ y_ : List Int, y_ = (([1] : List Int)) := ⟨_, rfl⟩
 replace H : (some (false, y558, a0)) = some (r1, r2, r3) := by first | (rw [hy558]; with_reducible exact H) | (have H2_ := (Option.bind_some _ _).symm.trans H; rw [hy558]; with_reducible exact H2_) | (have H2_ := (Option.bind_some _ _).symm.trans H; with_reducible exact H2_) | with_reducible exact H | (rw [hy558]; exact H) | exact H
 have Ny558 := A0_ hy558
 clear hy558
 simp only [Option.some.injEq, Prod.mk.injEq] at H
 obtain ⟨rfl, rfl, rfl⟩ := H
 go_enter Tryd.func48, Tryd.ntmps48
 go_wp2_with (first | ((with_reducible refine gate_dst (N := 2) rfl ?_); refine box_event ?hg (N := 2) ?hd (cs := #[.bool false, .slice none 0 0, .int .i64 0]) (t := 26) ?hr ?_; (case hd => rfl); (case hg => rfl); (case hr => first | (go_simp; done) | (go_simp; rfl)); intro gb557 hg w2 hbox hb; have n0_ := A0_ (below_step (qm_ HB.out) hb); have n1_ := A0_ (hbox); have n2_ := A0_ ((by rw [hg]; exact (below_size (qm_ HB.out)) : w.heap.size ≤ gb557)); have n3_ := A0_ ((by rw [hg]; exact (below_size (qm_ HB.out)) : w.heap.size ≤ gb557)); clear HB; have HB := n0_; have BK557 := n1_; have GW557 := n2_; have GE557 := n3_; clear n0_ n1_ n2_ n3_ hb hbox hg) | ((with_reducible refine gate_dst (N := 3) rfl ?_); refine Kd.R_lit (Kd.int .u32) _ 78 ?hg (N := 3) ?hd (xs := ([1] : List Int)) (inner := [.int .u32 1]) (ok := fun _ => True) (okp := fun _ => True) ?hr ?hp (fun _ hk => hk) trivial (Below.refl _ _) (Nat.le_refl _) (by simp) ?_; (case hd => rfl); (case hg => rfl); (case hr => first | (go_simp; done) | (go_simp; rfl)); (case hp => exact (Reps.one (show Kd.M (Kd.int .u32) _ _ _ 1 [.int .u32 1] from rfl) (Reps.none _ _))); intro v559 w3 ho4 hb hg_ hnew_; clear hg_ hnew_; (first | rw [← Ny558.out] at ho4 | (simp only [Int.reduceToNat] at ho4; rw [← Ny558.out] at ho4)); have n0_ := A0_ (Kd.R_lower ho4 (below_size (by repeat (first | (with_reducible first | exact qm_ HB.out | apply qA_ | apply qN_ | apply qD_ | refine below_set ?_ GE557.out) | exact HB.out)))); have n1_ := A0_ (blk_below (bm_ BK557.out) hb); have n2_ := A0_ (below_step (by repeat (first | (with_reducible first | exact qm_ HB.out | apply qA_ | apply qN_ | apply qD_ | refine below_set ?_ GE557.out) | exact HB.out)) hb); clear BK557 HB; have HO560 := n0_; have BK557 := n1_; have HB := n2_; clear n0_ n1_ n2_ hb ho4; obtain ⟨Ao5, co5, eo5⟩ := Kd.R_slice HO560.out; subst eo5; have hcz6 := bc3_ BK557.out; have hfz6 := bf3_ BK557.out))
 refine bodyPost_ret (results_cell_row rfl _ _ gb557 26 #[.bool false, .slice Ao5 y558.length co5, .int .i64 a0] (0, 0) _ rfl (by (with_reducible repeat first | apply bN_ | apply bD_ | apply bA_); refine blk_put (cs := #[.bool false, .slice Ao5 y558.length co5, .int .i64 0]) ?_ 2 _ rfl; (with_reducible repeat first | apply bN_ | apply bD_ | apply bA_); refine blk_put (cs := #[.bool false, .slice none 0 0, .int .i64 0]) ?_ 1 _ rfl; (with_reducible repeat first | apply bN_ | apply bD_ | apply bA_); refine blk_put (cs := #[.bool false, .slice none 0 0, .int .i64 0]) ?_ 0 _ rfl; (with_reducible repeat first | apply bN_ | apply bD_ | apply bA_); exact BK557.out) Tryd.underlying26 rfl (by kernel_rfl)) rfl ?_
 exact ⟨_, by first | rfl | (simp [errW_none, errW_some] <;> rfl) | (simp [*, errW_none, errW_some] <;> rfl), by (with_reducible repeat (first | apply Kd.R_alloc | apply Kd.R_drewN | apply Kd.R_drew)); exact Kd.R_mono (Kd.R_far (p := ⟨gb557, 2, none⟩) (Kd.R_far (p := ⟨gb557, 1, none⟩) (Kd.R_far (p := ⟨gb557, 0, none⟩) (Kd.R_types HO560.out BK557.out (by decide)) (fun _ hk => hk.2) (.bool false)) (fun _ hk => hk.2) (.slice Ao5 y558.length co5)) (fun _ hk => hk.2) (.int .i64 a0)) (fun _ hk => trivial), by repeat (first | (with_reducible first | exact qm_ HB.out | apply qA_ | apply qN_ | apply qD_ | refine below_set ?_ GE557.out) | exact HB.out)⟩
def cutplaneref03_Unit.f (a0 : Int) (a1 : Int) : Option (Bool × List Int × Int) := (cutplaneref03_Split.f a0 a1).bind fun bt562 => (if bt562.2.1 = 0 then ((cutplaneref03_Low.f a0).bind fun t566 => ((cutplaneref02_Two.f t566).bind fun bt567 => (some (bt567.1, bt567.2.1, bt567.2.2)))) else ((cutplaneref03_Low.f a0).bind fun t572 => ((cutplaneref02_Two.f (wrap64 ((wrap64 (bt562.2.1 - 1)) + t572))).bind fun bt573 => (some (bt573.1, bt573.2.1, bt573.2.2)))))
def cutplaneref03_Unit.T4 : Bool × List (List Nat × List Nat) := (true, [([], []), ([0], [0]), ([1], [1]), ([], []), ([3], [3]), ([2, 4], [2, 4]), ([5, 4], [5]), ([6, 6, 0, 1, 2, 3, 4, 5, 6], [6])])
def cutplaneref03_Unit.B4 : List Nat := [0, 1, 3, 0, 8, 31, 63, 127]
theorem cutplaneref03_Unit.tab4 : rtab .any (opsOf Tryd.f17 4) = cutplaneref03_Unit.T4 := by kernel_rfl
theorem cutplaneref03_Unit.bits4 : waitsOk cutplaneref03_Unit.T4.2 cutplaneref03_Unit.B4 = true := by kernel_rfl
set_option maxHeartbeats 2000000 in
set_option maxRecDepth 100000 in
theorem cutplaneref03_Unit.calls (a0 : Int) (a1 : Int) (r1 : Bool) (r2 : List Int) (r3 : Int) (w : World) (h : cutplaneref03_Unit.f a0 a1 = some (r1, r2, r3)) :
  Calls Tryd.prog 17 #[.int .u8 a0, .int .u64 a1] w fun e w' => ∃ v1_ : Value, e = .returned (.agg #[.bool r1, v1_, .int .i64 r3]) ∧ Kd.R (Kd.int .u32) 78 w' w.heap.size (fun _ => True) v1_ r2 ∧ Below w.heap.size w w' := by
 have hu26 := Tryd.underlying26
 have hu48 := Tryd.underlying48
 have HB := A0_ (Below.refl w.heap.size w)
 have H : ((cutplaneref03_Split.f a0 a1).bind fun bt562 => (if bt562.2.1 = 0 then ((cutplaneref03_Low.f a0).bind fun t566 => ((cutplaneref02_Two.f t566).bind fun bt567 => (some (bt567.1, bt567.2.1, bt567.2.2)))) else ((cutplaneref03_Low.f a0).bind fun t572 => ((cutplaneref02_Two.f (wrap64 ((wrap64 (bt562.2.1 - 1)) + t572))).bind fun bt573 => (some (bt573.1, bt573.2.1, bt573.2.2)))))) = some (r1, r2, r3) := h
 clear h
 replace H := Option.bind_eq_some_iff.mp H
 obtain ⟨⟨t562, t563, t564⟩, A30, H⟩ := H
 replace H : (if t563 = 0 then ((cutplaneref03_Low.f a0).bind fun t566 => ((cutplaneref02_Two.f t566).bind fun bt567 => (some (bt567.1, bt567.2.1, bt567.2.2)))) else ((cutplaneref03_Low.f a0).bind fun t572 => ((cutplaneref02_Two.f (wrap64 ((wrap64 (t563 - 1)) + t572))).bind fun bt573 => (some (bt573.1, bt573.2.1, bt573.2.2))))) = some (r1, r2, r3) := H
 have A3 := A0_ A30
 clear A30
 by_cases c4 : t563 = 0
 ·rw [if_pos c4] at H
  have c4b0 : (t563 == 0) = true := beq_iff_eq.mpr c4
  have c4b1 : (t563 != 0) = false := bne_eq_false_iff_eq.mpr c4
  clear c4
  replace H := Option.bind_eq_some_iff.mp H
  obtain ⟨t566, A50, H⟩ := H
  replace H : ((cutplaneref02_Two.f t566).bind fun bt567 => (some (bt567.1, bt567.2.1, bt567.2.2))) = some (r1, r2, r3) := H
  have A5 := A0_ A50
  clear A50
  replace H := Option.bind_eq_some_iff.mp H
  obtain ⟨⟨t567, t568, t571⟩, A60, H⟩ := H
  replace H : (some (t567, t568, t571)) = some (r1, r2, r3) := H
  have A6 := A0_ A60
  clear A60
  simp only [Option.some.injEq, Prod.mk.injEq] at H
  obtain ⟨rfl, rfl, rfl⟩ := H
  go_enter Tryd.func17, Tryd.ntmps17
  go_wp2_with (first | ((with_reducible refine gate_dst (N := 4) rfl ?_); refine box_event ?hg (N := 4) ?hd (cs := #[.bool false, .slice none 0 0, .int .i64 0]) (t := 26) ?hr ?_; (case hd => rfl); (case hg => rfl); (case hr => first | (go_simp; done) | (go_simp; rfl)); intro gb561 hg w7 hbox hb; have n0_ := A0_ (below_step (qm_ HB.out) hb); have n1_ := A0_ (hbox); have n2_ := A0_ ((by rw [hg]; exact (below_size (qm_ HB.out)) : w.heap.size ≤ gb561)); have n3_ := A0_ ((by rw [hg]; exact (below_size (qm_ HB.out)) : w.heap.size ≤ gb561)); clear HB; have HB := n0_; have BK561 := n1_; have GW561 := n2_; have GE561 := n3_; clear n0_ n1_ n2_ n3_ hb hbox hg) | ((with_reducible refine gate_callee (f := 43) rfl ?_); refine goesL_ (some 8) rfl rfl Tryd.func43 (by kernel_rfl) rfl #[.int .u8 a0, .int .u64 a1] rfl (by (try simp only [List.map_toArray, List.map_cons, List.map_nil]); first | done | rfl | (simp only [List.length_drop, List.length_take]; rfl)) ?_; (with_reducible refine (cutplaneref03_Split.calls a0 a1 t562 t563 t564 _ A3.out).mono ?_); rintro e w8 ⟨rfl, hb⟩; refine ⟨_, rfl, ?_⟩; have n0_ := A0_ (blk_below (bm_ BK561.out) hb); have n1_ := A0_ (below_step (by repeat (first | (with_reducible first | exact qm_ HB.out | apply qA_ | apply qN_ | apply qD_ | refine below_set ?_ GE561.out) | exact HB.out)) hb); clear BK561 HB; have BK561 := n0_; have HB := n1_; clear n0_ n1_; (try clear hb)) | ((with_reducible refine gate_dst (N := 5) rfl ?_); refine box_event ?hg (N := 5) ?hd (cs := #[.bool false, .int .i64 0, .int .u64 0]) (t := 48) ?hr ?_; (case hd => rfl); (case hg => rfl); (case hr => first | (go_simp; done) | (go_simp; rfl)); intro gb565 hg w9 hbox hb; have n0_ := A0_ (blk_below (bm_ BK561.out) hb); have n1_ := A0_ (below_step (by repeat (first | (with_reducible first | exact qm_ HB.out | apply qA_ | apply qN_ | apply qD_ | refine below_set ?_ GE561.out) | exact HB.out)) hb); have n2_ := A0_ (hbox); have n3_ := A0_ ((by rw [hg]; exact (below_size (by repeat (first | (with_reducible first | exact qm_ HB.out | apply qA_ | apply qN_ | apply qD_ | refine below_set ?_ GE561.out) | exact HB.out))) : w.heap.size ≤ gb565)); have n4_ := A0_ ((by rw [hg]; exact (below_size (by repeat (first | (with_reducible first | exact qm_ HB.out | apply qA_ | apply qN_ | apply qD_ | refine below_set ?_ GE561.out) | exact HB.out))) : w.heap.size ≤ gb565)); have n5_ := A0_ ((by rw [hg]; exact Nat.ne_of_lt (blk_lt (bm_ BK561.out)) : gb561 ≠ gb565)); have n6_ := A0_ ((by rw [hg]; exact Nat.ne_of_gt (blk_lt (bm_ BK561.out)) : gb565 ≠ gb561)); clear BK561 HB; have BK561 := n0_; have HB := n1_; have BK565 := n2_; have GW565 := n3_; have GE565 := n4_; have NB561_565 := n5_; have NB565_561 := n6_; clear n0_ n1_ n2_ n3_ n4_ n5_ n6_ hb hbox hg; have hnb10 := NB565_561.out; have hnc10 := NB561_565.out; have hcz11 := bc3_ BK565.out; have hfz11 := bf3_ BK565.out) | ((with_reducible refine gate_callee (f := 46) rfl ?_); refine goesL_ (some 13) rfl rfl Tryd.func46 (by kernel_rfl) rfl #[.int .u8 a0] rfl (by (try simp only [List.map_toArray, List.map_cons, List.map_nil]); first | done | rfl | (simp only [List.length_drop, List.length_take]; rfl)) ?_; (with_reducible refine (cutplaneref03_Low.calls a0 t566 _ A5.out).mono ?_); rintro e w' ⟨rfl, ⟨nd, rfl⟩⟩; refine ⟨_, rfl, ?_⟩) | ((with_reducible refine gate_callee (f := 48) rfl ?_); refine goesL_ (some 14) rfl rfl Tryd.func48 (by kernel_rfl) rfl #[.int .i64 t566] rfl (by (try simp only [List.map_toArray, List.map_cons, List.map_nil]); first | done | rfl | (simp only [List.length_drop, List.length_take]; rfl)) ?_; (with_reducible refine (cutplaneref02_Two.calls t566 t567 t568 t571 _ A6.out).mono ?_); rintro e w12 ⟨v569, rfl, ho0, hb⟩; refine ⟨_, rfl, ?_⟩; have n0_ := A0_ (Kd.R_lower ho0 (below_size (by repeat (first | (with_reducible first | exact qm_ HB.out | apply qA_ | apply qN_ | apply qD_ | refine below_set ?_ GE561.out | refine below_set ?_ GE565.out) | exact HB.out)))); have n1_ := A0_ (blk_below (g := gb561) (o := .cells #[.bool false, .slice none 0 0, .int .i64 0] 26 (0, 0)) (by (with_reducible repeat first | apply bN_ | apply bD_ | apply bA_); refine blk_far ?_ NB561_565.out _; (with_reducible repeat first | apply bN_ | apply bD_ | apply bA_); refine blk_far ?_ NB561_565.out _; (with_reducible repeat first | apply bN_ | apply bD_ | apply bA_); refine blk_far ?_ NB561_565.out _; (with_reducible repeat first | apply bN_ | apply bD_ | apply bA_); exact BK561.out) hb); have n2_ := A0_ (blk_below (g := gb565) (o := .cells #[.bool t562, .int .i64 t563, .int .u64 t564] 48 (0, 0)) (by (with_reducible repeat first | apply bN_ | apply bD_ | apply bA_); refine blk_put (cs := #[.bool t562, .int .i64 t563, .int .u64 0]) ?_ 2 _ rfl; (with_reducible repeat first | apply bN_ | apply bD_ | apply bA_); refine blk_put (cs := #[.bool t562, .int .i64 0, .int .u64 0]) ?_ 1 _ rfl; (with_reducible repeat first | apply bN_ | apply bD_ | apply bA_); refine blk_put (cs := #[.bool false, .int .i64 0, .int .u64 0]) ?_ 0 _ rfl; (with_reducible repeat first | apply bN_ | apply bD_ | apply bA_); exact BK565.out) hb); have n3_ := A0_ (below_step (by repeat (first | (with_reducible first | exact qm_ HB.out | apply qA_ | apply qN_ | apply qD_ | refine below_set ?_ GE561.out | refine below_set ?_ GE565.out) | exact HB.out)) hb); clear BK561 BK565 HB; have HO570 := n0_; have BK561 := n1_; have BK565 := n2_; have HB := n3_; clear n0_ n1_ n2_ n3_; (try clear hb); (try clear ho0); have hcz13 := bc3_ BK561.out; have hfz13 := bf3_ BK561.out; obtain ⟨Ao14, co14, eo14⟩ := Kd.R_slice HO570.out; subst eo14))
  refine bodyPost_ret (results_cell_row rfl _ _ gb561 26 #[.bool t567, .slice Ao14 t568.length co14, .int .i64 t571] (0, 0) _ rfl (by (with_reducible repeat first | apply bN_ | apply bD_ | apply bA_); refine blk_put (cs := #[.bool t567, .slice Ao14 t568.length co14, .int .i64 0]) ?_ 2 _ rfl; (with_reducible repeat first | apply bN_ | apply bD_ | apply bA_); refine blk_put (cs := #[.bool t567, .slice none 0 0, .int .i64 0]) ?_ 1 _ rfl; (with_reducible repeat first | apply bN_ | apply bD_ | apply bA_); refine blk_put (cs := #[.bool false, .slice none 0 0, .int .i64 0]) ?_ 0 _ rfl; (with_reducible repeat first | apply bN_ | apply bD_ | apply bA_); exact BK561.out) Tryd.underlying26 rfl (by kernel_rfl)) rfl ?_
  exact ⟨_, by first | rfl | (simp [errW_none, errW_some] <;> rfl) | (simp [*, errW_none, errW_some] <;> rfl), by (with_reducible repeat (first | apply Kd.R_alloc | apply Kd.R_drewN | apply Kd.R_drew)); exact Kd.R_mono (Kd.R_far (p := ⟨gb561, 2, none⟩) (Kd.R_far (p := ⟨gb561, 1, none⟩) (Kd.R_far (p := ⟨gb561, 0, none⟩) (Kd.R_types HO570.out BK561.out (by decide)) (fun _ hk => hk.2) (.bool t567)) (fun _ hk => hk.2) (.slice Ao14 t568.length co14)) (fun _ hk => hk.2) (.int .i64 t571)) (fun _ hk => trivial), by repeat (first | (with_reducible first | exact qm_ HB.out | apply qA_ | apply qN_ | apply qD_ | refine below_set ?_ GE561.out | refine below_set ?_ GE565.out) | exact HB.out)⟩
 ·rw [if_neg c4] at H
  have c4b0 : (t563 == 0) = false := beq_eq_false_iff_ne.mpr c4
  have c4b1 : (t563 != 0) = true := bne_iff_ne.mpr c4
  replace H := Option.bind_eq_some_iff.mp H
  obtain ⟨t572, A150, H⟩ := H
  replace H : ((cutplaneref02_Two.f (wrap64 ((wrap64 (t563 - 1)) + t572))).bind fun bt573 => (some (bt573.1, bt573.2.1, bt573.2.2))) = some (r1, r2, r3) := H
  have A15 := A0_ A150
  clear A150
  replace H := Option.bind_eq_some_iff.mp H
  obtain ⟨⟨t573, t574, t577⟩, A160, H⟩ := H
  replace H : (some (t573, t574, t577)) = some (r1, r2, r3) := H
  have A16 := A0_ A160
  clear A160
  simp only [Option.some.injEq, Prod.mk.injEq] at H
  obtain ⟨rfl, rfl, rfl⟩ := H
  go_enter Tryd.func17, Tryd.ntmps17
  try go_wp2_with (first | ((with_reducible refine gate_dst (N := 4) rfl ?_); refine box_event ?hg (N := 4) ?hd (cs := #[.bool false, .slice none 0 0, .int .i64 0]) (t := 26) ?hr ?_; (case hd => rfl); (case hg => rfl); (case hr => first | (go_simp; done) | (go_simp; rfl)); intro gb561 hg w17 hbox hb; have n0_ := A0_ (below_step (qm_ HB.out) hb); have n1_ := A0_ (hbox); have n2_ := A0_ ((by rw [hg]; exact (below_size (qm_ HB.out)) : w.heap.size ≤ gb561)); have n3_ := A0_ ((by rw [hg]; exact (below_size (qm_ HB.out)) : w.heap.size ≤ gb561)); clear HB; have HB := n0_; have BK561 := n1_; have GW561 := n2_; have GE561 := n3_; clear n0_ n1_ n2_ n3_ hb hbox hg) | ((with_reducible refine gate_callee (f := 43) rfl ?_); refine goesL_ (some 8) rfl rfl Tryd.func43 (by kernel_rfl) rfl #[.int .u8 a0, .int .u64 a1] rfl (by (try simp only [List.map_toArray, List.map_cons, List.map_nil]); first | done | rfl | (simp only [List.length_drop, List.length_take]; rfl)) ?_; (with_reducible refine (cutplaneref03_Split.calls a0 a1 t562 t563 t564 _ A3.out).mono ?_); rintro e w18 ⟨rfl, hb⟩; refine ⟨_, rfl, ?_⟩; have n0_ := A0_ (blk_below (bm_ BK561.out) hb); have n1_ := A0_ (below_step (by repeat (first | (with_reducible first | exact qm_ HB.out | apply qA_ | apply qN_ | apply qD_ | refine below_set ?_ GE561.out) | exact HB.out)) hb); clear BK561 HB; have BK561 := n0_; have HB := n1_; clear n0_ n1_; (try clear hb)) | ((with_reducible refine gate_dst (N := 5) rfl ?_); refine box_event ?hg (N := 5) ?hd (cs := #[.bool false, .int .i64 0, .int .u64 0]) (t := 48) ?hr ?_; (case hd => rfl); (case hg => rfl); (case hr => first | (go_simp; done) | (go_simp; rfl)); intro gb565 hg w19 hbox hb; have n0_ := A0_ (blk_below (bm_ BK561.out) hb); have n1_ := A0_ (below_step (by repeat (first | (with_reducible first | exact qm_ HB.out | apply qA_ | apply qN_ | apply qD_ | refine below_set ?_ GE561.out) | exact HB.out)) hb); have n2_ := A0_ (hbox); have n3_ := A0_ ((by rw [hg]; exact (below_size (by repeat (first | (with_reducible first | exact qm_ HB.out | apply qA_ | apply qN_ | apply qD_ | refine below_set ?_ GE561.out) | exact HB.out))) : w.heap.size ≤ gb565)); have n4_ := A0_ ((by rw [hg]; exact (below_size (by repeat (first | (with_reducible first | exact qm_ HB.out | apply qA_ | apply qN_ | apply qD_ | refine below_set ?_ GE561.out) | exact HB.out))) : w.heap.size ≤ gb565)); have n5_ := A0_ ((by rw [hg]; exact Nat.ne_of_lt (blk_lt (bm_ BK561.out)) : gb561 ≠ gb565)); have n6_ := A0_ ((by rw [hg]; exact Nat.ne_of_gt (blk_lt (bm_ BK561.out)) : gb565 ≠ gb561)); clear BK561 HB; have BK561 := n0_; have HB := n1_; have BK565 := n2_; have GW565 := n3_; have GE565 := n4_; have NB561_565 := n5_; have NB565_561 := n6_; clear n0_ n1_ n2_ n3_ n4_ n5_ n6_ hb hbox hg; have hnb20 := NB565_561.out; have hnc20 := NB561_565.out; have hcz21 := bc3_ BK565.out; have hfz21 := bf3_ BK565.out))
  have n0_ : Aside0 ((((w19.setCell ⟨gb565, 0, none⟩ (.bool t562)).setCell ⟨gb565, 1, none⟩ (.int .i64 t563)).setCell ⟨gb565, 2, none⟩ (.int .u64 t564)).heap[gb561]? = some (.cells #[.bool false, .slice none 0 0, .int .i64 0] 26 (0, 0))) := ⟨by (with_reducible repeat first | apply bN_ | apply bD_ | apply bA_); refine blk_far ?_ NB561_565.out _; (with_reducible repeat first | apply bN_ | apply bD_ | apply bA_); refine blk_far ?_ NB561_565.out _; (with_reducible repeat first | apply bN_ | apply bD_ | apply bA_); refine blk_far ?_ NB561_565.out _; (with_reducible repeat first | apply bN_ | apply bD_ | apply bA_); exact BK561.out⟩
  have n1_ : Aside0 ((((w19.setCell ⟨gb565, 0, none⟩ (.bool t562)).setCell ⟨gb565, 1, none⟩ (.int .i64 t563)).setCell ⟨gb565, 2, none⟩ (.int .u64 t564)).heap[gb565]? = some (.cells #[.bool t562, .int .i64 t563, .int .u64 t564] 48 (0, 0))) := ⟨by (with_reducible repeat first | apply bN_ | apply bD_ | apply bA_); refine blk_put (cs := #[.bool t562, .int .i64 t563, .int .u64 0]) ?_ 2 _ rfl; (with_reducible repeat first | apply bN_ | apply bD_ | apply bA_); refine blk_put (cs := #[.bool t562, .int .i64 0, .int .u64 0]) ?_ 1 _ rfl; (with_reducible repeat first | apply bN_ | apply bD_ | apply bA_); refine blk_put (cs := #[.bool false, .int .i64 0, .int .u64 0]) ?_ 0 _ rfl; (with_reducible repeat first | apply bN_ | apply bD_ | apply bA_); exact BK565.out⟩
  have n2_ : Aside0 (Below w.heap.size w (((w19.setCell ⟨gb565, 0, none⟩ (.bool t562)).setCell ⟨gb565, 1, none⟩ (.int .i64 t563)).setCell ⟨gb565, 2, none⟩ (.int .u64 t564))) := ⟨by repeat (first | (with_reducible first | exact qm_ HB.out | apply qA_ | apply qN_ | apply qD_ | refine below_set ?_ GE561.out | refine below_set ?_ GE565.out) | exact HB.out)⟩
  (try clear BK561)
  (try clear BK565)
  (try clear HB)
  generalize (((w19.setCell ⟨gb565, 0, none⟩ (.bool t562)).setCell ⟨gb565, 1, none⟩ (.int .i64 t563)).setCell ⟨gb565, 2, none⟩ (.int .u64 t564)) = w22 at n0_ n1_ n2_ ⊢
  have BK561 := n0_
  have BK565 := n1_
  have HB := n2_
  clear n0_ n1_ n2_
  have n0_ := A0_ (blk_drew BK561.out)
  have n1_ := A0_ (blk_drew BK565.out)
  have n2_ := A0_ (below_drew1 HB.out)
  clear BK561 BK565 HB
  have BK561 := n0_
  have BK565 := n1_
  have HB := n2_
  clear n0_ n1_ n2_
  refine start_ (n := 8) (S := fun w' => w'.cell? ⟨gb565, 0, none⟩ = some (.bool t562) ∧ w'.cell? ⟨gb565, 1, none⟩ = some (.int .i64 t563) ∧ w'.cell? ⟨gb565, 2, none⟩ = some (.int .u64 t564)) (ds := []) #[false, false, false, false, false, false, false, false] (by kernel_rfl) rfl rfl ⟨bC_ BK565.out 0, bC_ BK565.out 1, bC_ BK565.out 2⟩ (fun hHeld => ?_); refine with_tabW cutplaneref03_Unit.tab4 cutplaneref03_Unit.bits4 (fun HT_ HW_ => ?_)
  generalize w22.drew = w23 at BK561 BK565 HB hHeld ⊢
  refine pure_ (i := 0) (N := some 15) (v := ?_) (a' := ?_) #[true, false, false, false, false, false, false, false] rfl rfl (any_of HT_.out (by kernel_rfl)) (fun _ _ _ h => h) (Or.inl ⟨by rfl, ?_⟩) ?_ ?_
  rotate_left
  ·intro w'
   go_simp
   with_reducible rfl
  rotate_left
  ·simp only [Act.put, sp_, i64_w, i32_w]
   rfl
  refine pure_ (i := 3) (N := some 18) (v := ?_) (a' := ?_) #[true, false, false, true, false, false, false, false] rfl rfl (any_of HT_.out (by kernel_rfl)) (fun _ _ _ h => h) (Or.inl ⟨by rfl, ?_⟩) ?_ ?_
  rotate_left
  ·intro w'
   go_simp
   with_reducible rfl
  rotate_left
  ·simp only [Act.put, sp_, i64_w, i32_w]
   rfl
  refine take_ (i := 1) (N := some 16) (v := ?_) (a' := ?_) #[true, true, false, true, false, false, false, false] rfl rfl (take_ofW HT_.out HW_.out (by kernel_rfl)) (fun _ _ _ h => h) (Or.inl ⟨by rfl, ?_⟩) hHeld ?_ ?_
  rotate_left
  ·rintro w' ⟨s0, s1, s2⟩
   go_simp
   with_reducible rfl
  rotate_left
  ·simp only [Act.put, sp_, i64_w, i32_w]
   rfl
  refine pure_ (i := 2) (N := some 17) (v := ?_) (a' := ?_) #[true, true, true, true, false, false, false, false] rfl rfl (any_of HT_.out (by kernel_rfl)) (fun _ _ _ h => h) (Or.inl ⟨by rfl, ?_⟩) ?_ ?_
  rotate_left
  ·intro w'
   go_simp
   with_reducible rfl
  rotate_left
  ·simp only [Act.put, sp_, i64_w, i32_w]
   rfl
  refine one_ (i := 4) (N := some 19) #[true, true, true, true, true, false, false, false] rfl rfl (one_of HT_.out (by kernel_rfl)) (by decide) (fun K hK => ?_)
  refine goes_ Tryd.func46 (by kernel_rfl) rfl #[.int .u8 a0] (by rfl) rfl rfl (by (try simp only [List.map_toArray, List.map_cons, List.map_nil]); first | done | rfl | (simp only [List.length_drop, List.length_take]; rfl)) ?_
  with_reducible refine (cutplaneref03_Low.calls a0 t572 _ A15.out).mono ?_
  rintro e w' ⟨rfl, ⟨nd, rfl⟩⟩
  refine ⟨_, rfl, ?_⟩
  refine hK.out _ _ ⟨bC_ BK565.out 0, bC_ BK565.out 1, bC_ BK565.out 2⟩ (fun hHeld => ?_)
  clear hK K
  refine norm_ (a' := ?_) ?_ ?_
  rotate_left
  ·show Act.put _ (some 19) _ = _
   simp only [Act.put, sp_, i64_w, i32_w]
   rfl
  refine pure_ (i := 5) (N := some 20) (v := ?_) (a' := ?_) #[true, true, true, true, true, true, false, false] rfl rfl (any_of HT_.out (by kernel_rfl)) (fun _ _ _ h => h) (Or.inl ⟨by rfl, ?_⟩) ?_ ?_
  rotate_left
  ·intro w'
   go_simp
   with_reducible rfl
  rotate_left
  ·simp only [Act.put, sp_, i64_w, i32_w]
   rfl
  refine one_ (i := 6) (N := some 21) #[true, true, true, true, true, true, true, false] rfl rfl (one_of HT_.out (by kernel_rfl)) (by decide) (fun K hK => ?_)
  refine goes_ Tryd.func48 (by kernel_rfl) rfl #[.int .i64 (wrap64 ((wrap64 (t563 - 1)) + t572))] (by rfl) rfl rfl (by (try simp only [List.map_toArray, List.map_cons, List.map_nil]); first | done | rfl | (simp only [List.length_drop, List.length_take]; rfl)) ?_
  with_reducible refine (cutplaneref02_Two.calls (wrap64 ((wrap64 (t563 - 1)) + t572)) t573 t574 t577 _ A16.out).mono ?_
  rintro e w24 ⟨v575, rfl, ho0, hb⟩
  refine ⟨_, rfl, ?_⟩
  have n0_ := A0_ (Kd.R_lower ho0 (below_size (by repeat (first | (with_reducible first | exact qm_ HB.out | apply qA_ | apply qN_ | apply qD_ | refine below_set ?_ GE561.out | refine below_set ?_ GE565.out) | exact HB.out))))
  have n1_ := A0_ (blk_below (bm_ BK561.out) hb)
  have n2_ := A0_ (blk_below (bm_ BK565.out) hb)
  have n3_ := A0_ (below_step (by repeat (first | (with_reducible first | exact qm_ HB.out | apply qA_ | apply qN_ | apply qD_ | refine below_set ?_ GE561.out | refine below_set ?_ GE565.out) | exact HB.out)) hb)
  clear BK561 BK565 HB
  have HO576 := n0_
  have BK561 := n1_
  have BK565 := n2_
  have HB := n3_
  clear n0_ n1_ n2_ n3_
  (try clear hb)
  (try clear ho0)
  obtain ⟨Ao26, co26, eo26⟩ := Kd.R_slice HO576.out
  (first | subst eo26 | (injection eo26 with f1_ f2_ f3_; have f4_ := f1_.symm; have f5_ := f3_.symm; clear f1_ f2_ f3_; subst f4_; subst f5_))
  refine hK.out _ _ ⟨bC_ BK565.out 0, bC_ BK565.out 1, bC_ BK565.out 2⟩ (fun hHeld => ?_)
  clear hK K
  refine norm_ (a' := ?_) ?_ ?_
  rotate_left
  ·show Act.put _ (some 21) _ = _
   simp only [Act.put, sp_, i64_w, i32_w]
   rfl
  refine one_ (i := 7) (N := none) #[true, true, true, true, true, true, true, true] rfl rfl (one_of HT_.out (by kernel_rfl)) (by decide) (fun K hK => ?_)
  have hs25 : w24.cell? ⟨gb561, 0, none⟩ = some (.bool false) := (blk_cell BK561.out 0).trans rfl
  have hfs25 := blk_frozen BK561.out 0
  have hns25_1 := NB565_561.out
  have hms25_1 := NB561_565.out
  have hs27 : w24.cell? ⟨gb561, 1, none⟩ = some (.slice none 0 0) := (blk_cell BK561.out 1).trans rfl
  have hfs27 := blk_frozen BK561.out 1
  have hns27_1 := NB565_561.out
  have hms27_1 := NB561_565.out
  have hs28 : w24.cell? ⟨gb561, 2, none⟩ = some (.int .i64 0) := (blk_cell BK561.out 2).trans rfl
  have hfs28 := blk_frozen BK561.out 2
  have hns28_1 := NB565_561.out
  have hms28_1 := NB561_565.out
  refine skip_ (w1 := ?_) (by rfl) rfl ?_ ?_
  rotate_left
  ·go_simp
   rfl
  refine hK.out _ _ ⟨((cell_far (p := ⟨gb561, _, none⟩) NB565_561.out _).trans (((cell_far (p := ⟨gb561, _, none⟩) NB565_561.out _).trans (((cell_far (p := ⟨gb561, _, none⟩) NB565_561.out _).trans (hHeld.1)))))), ((cell_far (p := ⟨gb561, _, none⟩) NB565_561.out _).trans (((cell_far (p := ⟨gb561, _, none⟩) NB565_561.out _).trans (((cell_far (p := ⟨gb561, _, none⟩) NB565_561.out _).trans (hHeld.2.1)))))), ((cell_far (p := ⟨gb561, _, none⟩) NB565_561.out _).trans (((cell_far (p := ⟨gb561, _, none⟩) NB565_561.out _).trans (((cell_far (p := ⟨gb561, _, none⟩) NB565_561.out _).trans (hHeld.2.2))))))⟩ (fun hHeld => ?_)
  clear hK K
  refine done_ (done_of HT_.out (by kernel_rfl)) ?_
  try go_wp2
  refine bodyPost_ret (results_cell_row rfl _ _ gb561 26 #[.bool t573, .slice Ao26 t574.length co26, .int .i64 t577] (0, 0) _ rfl (by (with_reducible repeat first | apply bN_ | apply bD_ | apply bA_); refine blk_put (cs := #[.bool t573, .slice Ao26 t574.length co26, .int .i64 0]) ?_ 2 _ rfl; (with_reducible repeat first | apply bN_ | apply bD_ | apply bA_); refine blk_put (cs := #[.bool t573, .slice none 0 0, .int .i64 0]) ?_ 1 _ rfl; (with_reducible repeat first | apply bN_ | apply bD_ | apply bA_); refine blk_put (cs := #[.bool false, .slice none 0 0, .int .i64 0]) ?_ 0 _ rfl; (with_reducible repeat first | apply bN_ | apply bD_ | apply bA_); exact BK561.out) Tryd.underlying26 rfl (by kernel_rfl)) rfl ?_
  exact ⟨_, by first | rfl | (simp [errW_none, errW_some] <;> rfl) | (simp [*, errW_none, errW_some] <;> rfl), by (with_reducible repeat (first | apply Kd.R_alloc | apply Kd.R_drewN | apply Kd.R_drew)); exact Kd.R_mono (Kd.R_far (p := ⟨gb561, 2, none⟩) (Kd.R_far (p := ⟨gb561, 1, none⟩) (Kd.R_far (p := ⟨gb561, 0, none⟩) (Kd.R_types HO576.out BK561.out (by decide)) (fun _ hk => hk.2) (.bool t573)) (fun _ hk => hk.2) (.slice Ao26 t574.length co26)) (fun _ hk => hk.2) (.int .i64 t577)) (fun _ hk => trivial), by repeat (first | (with_reducible first | exact qm_ HB.out | apply qA_ | apply qN_ | apply qD_ | refine below_set ?_ GE561.out | refine below_set ?_ GE565.out) | exact HB.out)⟩
def dyad_inside.f (a0 : Int) : Option (Bool) := if (-16777216) ≤ a0 then (some (decide (a0 ≤ 16777216))) else (some false)
set_option maxHeartbeats 2000000 in
set_option maxRecDepth 100000 in
theorem dyad_inside.calls (a0 : Int) (r : Bool) (w : World) (h : dyad_inside.f a0 = some r) :
  Calls Tryd.prog 75 #[.int .i64 a0] w fun e w' => e = .returned (.bool r) ∧ Drawn0 w w' := by
 have H : (if (-16777216) ≤ a0 then (some (decide (a0 ≤ 16777216))) else (some false)) = some r := h
 clear h
 by_cases c2 : (-16777216) ≤ a0
 ·rw [if_pos c2] at H
  have c2b0 : decide ((-16777216) ≤ a0) = true := decide_eq_true c2
  clear c2
  obtain rfl := Option.some.inj H
  go_enter Tryd.func75, Tryd.ntmps75
  go_wp2
  go_ret
  exact ⟨by first | rfl | (simp; done) | (simp [*]; done), by repeat (first | exact Drawn0.refl _ | apply Drawn0.step)⟩
 ·rw [if_neg c2] at H
  have c2b0 : decide ((-16777216) ≤ a0) = false := decide_eq_false c2
  clear c2
  obtain rfl := Option.some.inj H
  go_enter Tryd.func75, Tryd.ntmps75
  go_wp2
  go_ret
  exact ⟨by first | rfl | (simp; done) | (simp [*]; done), by repeat (first | exact Drawn0.refl _ | apply Drawn0.step)⟩
end Go.Proofs.YthiklmgdmaemgaaDoor.PA
end

section
namespace Go.Proofs.YthiklmgdmaemgaaDoor.PA
open Go.RowKit Go.Proofs.YthiklmgdmaemgaaDoorW.PrintWords Go.Proofs.YthiklmgdmaemgaaDoorW.PrintLast Go.Proofs.YthiklmgdmaemgaaDoorW.PrintMore
attribute [local go_sem] max2_int min2_int max_two min_two max_three min_three max_four min_four   -- for this text's walks alone
set_option linter.unusedVariables false
set_option linter.unusedSimpArgs false
def dyad_May.f (a0_0 : Bool) (l0_1 : List Int) (a0_2 : Int) : Option (Bool) := (nat_May.f l0_1).bind fun t579 => (if t579 = true then (if (l0_1.length : Int) = 0 then (if a0_0 = true then (some false) else (some (a0_2 == 0))) else (if 0 < (l0_1.length : Int) then (if (Go.bits .and .u32 (rd l0_1 0) 1) = 1 then ((dyad_inside.f a0_2).bind fun t581 => (some t581)) else (some false)) else (none))) else (some false))
set_option maxHeartbeats 2000000 in
set_option maxRecDepth 100000 in
theorem dyad_May.calls (a0_0 : Bool) (A0_1 : Option Addr) (c0_1 : Nat) (l0_1 : List Int) (a0_2 : Int) (r : Bool) (w : World) (hr0_1 : Kd.C (Kd.int .u32) w A0_1 l0_1.length l0_1) (hc0_1 : l0_1.length ≤ c0_1) (h : dyad_May.f a0_0 l0_1 a0_2 = some r) :
  Calls Tryd.prog 49 #[.agg #[.bool a0_0, .slice A0_1 l0_1.length c0_1, .int .i64 a0_2]] w fun e w' => e = .returned (.bool r) ∧ Below w.heap.size w w' := by
 have hu26 := Tryd.underlying26
 have HR0_1 := A0_ hr0_1
 have HC0_1 := A0_ hc0_1
 clear hr0_1 hc0_1
 have HB := A0_ (Below.refl w.heap.size w)
 have H : ((nat_May.f l0_1).bind fun t579 => (if t579 = true then (if (l0_1.length : Int) = 0 then (if a0_0 = true then (some false) else (some (a0_2 == 0))) else (if 0 < (l0_1.length : Int) then (if (Go.bits .and .u32 (rd l0_1 0) 1) = 1 then ((dyad_inside.f a0_2).bind fun t581 => (some t581)) else (some false)) else (none))) else (some false))) = some r := h
 clear h
 replace H := Option.bind_eq_some_iff.mp H
 obtain ⟨t579, A20, H⟩ := H
 replace H : (if t579 = true then (if (l0_1.length : Int) = 0 then (if a0_0 = true then (some false) else (some (a0_2 == 0))) else (if 0 < (l0_1.length : Int) then (if (Go.bits .and .u32 (rd l0_1 0) 1) = 1 then ((dyad_inside.f a0_2).bind fun t581 => (some t581)) else (some false)) else (none))) else (some false)) = some r := H
 have A2 := A0_ A20
 clear A20
 by_cases c3 : t579 = true
 ·subst c3
  have H1 : (if (l0_1.length : Int) = 0 then (if a0_0 = true then (some false) else (some (a0_2 == 0))) else (if 0 < (l0_1.length : Int) then (if (Go.bits .and .u32 (rd l0_1 0) 1) = 1 then ((dyad_inside.f a0_2).bind fun t581 => (some t581)) else (some false)) else (none))) = some r := by rw [if_pos rfl] at H; exact H
  clear H
  have H := H1
  clear H1
  by_cases c4 : (l0_1.length : Int) = 0
  ·rw [if_pos c4] at H
   have c4b0 : ((l0_1.length : Int) == 0) = true := beq_iff_eq.mpr c4
   have c4b1 : ((l0_1.length : Int) != 0) = false := bne_eq_false_iff_eq.mpr c4
   clear c4
   by_cases c5 : a0_0 = true
   ·subst c5
    have H1 : (some false) = some r := by rw [if_pos rfl] at H; exact H
    clear H
    have H := H1
    clear H1
    obtain rfl := Option.some.inj H
    go_enter Tryd.func49, Tryd.ntmps49
    go_wp2_with (first | ((with_reducible refine gate_dst (N := 1) rfl ?_); refine box_event ?hg (N := 1) ?hd (cs := #[.bool true, .slice A0_1 l0_1.length c0_1, .int .i64 a0_2]) (t := 26) ?hr ?_; (case hd => rfl); (case hg => rfl); (case hr => first | (go_simp; done) | (go_simp; rfl)); intro gb578 hg w6 hbox hb; have n0_ := A0_ (below_step (qm_ HB.out) hb); have n1_ := A0_ (hbox); have n2_ := A0_ ((by rw [hg]; exact (below_size (qm_ HB.out)) : w.heap.size ≤ gb578)); have n3_ := A0_ ((by rw [hg]; exact (below_size (qm_ HB.out)) : w.heap.size ≤ gb578)); clear HB; have HB := n0_; have BK578 := n1_; have GW578 := n2_; have GE578 := n3_; clear n0_ n1_ n2_ n3_ hb hbox hg; have hcz7 := bc3_ BK578.out; have hfz7 := bf3_ BK578.out) | ((with_reducible refine gate_callee (f := 60) rfl ?_); refine goesL_ (some 5) rfl rfl Tryd.func60 (by kernel_rfl) rfl #[.slice A0_1 l0_1.length c0_1] rfl (by (try simp only [List.map_toArray, List.map_cons, List.map_nil]); first | done | rfl | (simp only [List.length_drop, List.length_take]; rfl)) ?_; (with_reducible refine (nat_May.calls _ _ l0_1 true _ ?side1 ?side2 A2.out).mono ?_); (case side1 => repeat (first | exact (Kd.C_below HR0_1.out HB.out) | (with_reducible refine Kd.C_alloc ?_ _) | (with_reducible refine Kd.C_drewN ?_ _) | (with_reducible refine Kd.C_drew ?_))); (case side2 => exact HC0_1.out); rintro e w' ⟨rfl, ⟨nd, rfl⟩⟩; refine ⟨_, rfl, ?_⟩))
    go_ret
    exact ⟨by first | rfl | (simp [errW_none, errW_some] <;> rfl) | (simp [*, errW_none, errW_some] <;> rfl), by repeat (first | (with_reducible first | exact qm_ HB.out | apply qA_ | apply qN_ | apply qD_ | refine below_set ?_ GE578.out) | exact HB.out)⟩
   ·replace c5 := Bool.eq_false_iff.mpr c5
    subst c5
    have H1 : (some (a0_2 == 0)) = some r := by rw [if_neg (show ¬ (false = true) by decide)] at H; exact H
    clear H
    have H := H1
    clear H1
    obtain rfl := Option.some.inj H
    go_enter Tryd.func49, Tryd.ntmps49
    go_wp2_with (first | ((with_reducible refine gate_dst (N := 1) rfl ?_); refine box_event ?hg (N := 1) ?hd (cs := #[.bool false, .slice A0_1 l0_1.length c0_1, .int .i64 a0_2]) (t := 26) ?hr ?_; (case hd => rfl); (case hg => rfl); (case hr => first | (go_simp; done) | (go_simp; rfl)); intro gb578 hg w8 hbox hb; have n0_ := A0_ (below_step (qm_ HB.out) hb); have n1_ := A0_ (hbox); have n2_ := A0_ ((by rw [hg]; exact (below_size (qm_ HB.out)) : w.heap.size ≤ gb578)); have n3_ := A0_ ((by rw [hg]; exact (below_size (qm_ HB.out)) : w.heap.size ≤ gb578)); clear HB; have HB := n0_; have BK578 := n1_; have GW578 := n2_; have GE578 := n3_; clear n0_ n1_ n2_ n3_ hb hbox hg; have hcz9 := bc3_ BK578.out; have hfz9 := bf3_ BK578.out) | ((with_reducible refine gate_callee (f := 60) rfl ?_); refine goesL_ (some 5) rfl rfl Tryd.func60 (by kernel_rfl) rfl #[.slice A0_1 l0_1.length c0_1] rfl (by (try simp only [List.map_toArray, List.map_cons, List.map_nil]); first | done | rfl | (simp only [List.length_drop, List.length_take]; rfl)) ?_; (with_reducible refine (nat_May.calls _ _ l0_1 true _ ?side1 ?side2 A2.out).mono ?_); (case side1 => repeat (first | exact (Kd.C_below HR0_1.out HB.out) | (with_reducible refine Kd.C_alloc ?_ _) | (with_reducible refine Kd.C_drewN ?_ _) | (with_reducible refine Kd.C_drew ?_))); (case side2 => exact HC0_1.out); rintro e w' ⟨rfl, ⟨nd, rfl⟩⟩; refine ⟨_, rfl, ?_⟩))
    go_ret
    exact ⟨by first | rfl | (simp [errW_none, errW_some] <;> rfl) | (simp [*, errW_none, errW_some] <;> rfl), by repeat (first | (with_reducible first | exact qm_ HB.out | apply qA_ | apply qN_ | apply qD_ | refine below_set ?_ GE578.out) | exact HB.out)⟩
  ·rw [if_neg c4] at H
   have c4b0 : ((l0_1.length : Int) == 0) = false := beq_eq_false_iff_ne.mpr c4
   have c4b1 : ((l0_1.length : Int) != 0) = true := bne_iff_ne.mpr c4
   have c4b2 : ¬ (l0_1 = []) := fun h_ => c4 (by rw [h_]; rfl)
   by_cases c10 : 0 < (l0_1.length : Int)
   ·rw [if_pos c10] at H
    have c10b0 : decide (0 < (l0_1.length : Int)) = true := decide_eq_true c10
    have c10b1 : decide (0 < l0_1.length) = true := decide_eq_true (by omega)
    clear c10
    by_cases c11 : (Go.bits .and .u32 (rd l0_1 0) 1) = 1
    ·rw [if_pos c11] at H
     have c11b0 : ((Go.bits .and .u32 (rd l0_1 0) 1) == 1) = true := beq_iff_eq.mpr c11
     have c11b1 : ((Go.bits .and .u32 (rd l0_1 0) 1) != 1) = false := bne_eq_false_iff_eq.mpr c11
     clear c11
     replace H := Option.bind_eq_some_iff.mp H
     obtain ⟨t581, A120, H⟩ := H
     replace H : (some t581) = some r := H
     have A12 := A0_ A120
     clear A120
     obtain rfl := Option.some.inj H
     go_enter Tryd.func49, Tryd.ntmps49
     go_wp2_with (first | ((with_reducible refine gate_dst (N := 1) rfl ?_); refine box_event ?hg (N := 1) ?hd (cs := #[.bool a0_0, .slice A0_1 l0_1.length c0_1, .int .i64 a0_2]) (t := 26) ?hr ?_; (case hd => rfl); (case hg => rfl); (case hr => first | (go_simp; done) | (go_simp; rfl)); intro gb578 hg w13 hbox hb; have n0_ := A0_ (below_step (qm_ HB.out) hb); have n1_ := A0_ (hbox); have n2_ := A0_ ((by rw [hg]; exact (below_size (qm_ HB.out)) : w.heap.size ≤ gb578)); have n3_ := A0_ ((by rw [hg]; exact (below_size (qm_ HB.out)) : w.heap.size ≤ gb578)); clear HB; have HB := n0_; have BK578 := n1_; have GW578 := n2_; have GE578 := n3_; clear n0_ n1_ n2_ n3_ hb hbox hg; have hcz14 := bc3_ BK578.out; have hfz14 := bf3_ BK578.out) | ((with_reducible refine gate_callee (f := 60) rfl ?_); refine goesL_ (some 5) rfl rfl Tryd.func60 (by kernel_rfl) rfl #[.slice A0_1 l0_1.length c0_1] rfl (by (try simp only [List.map_toArray, List.map_cons, List.map_nil]); first | done | rfl | (simp only [List.length_drop, List.length_take]; rfl)) ?_; (with_reducible refine (nat_May.calls _ _ l0_1 true _ ?side1 ?side2 A2.out).mono ?_); (case side1 => repeat (first | exact (Kd.C_below HR0_1.out HB.out) | (with_reducible refine Kd.C_alloc ?_ _) | (with_reducible refine Kd.C_drewN ?_ _) | (with_reducible refine Kd.C_drew ?_))); (case side2 => exact HC0_1.out); rintro e w' ⟨rfl, ⟨nd, rfl⟩⟩; refine ⟨_, rfl, ?_⟩; have p580 : 0 ≤ (0 : Int) := (by omega); have q580 : 0 < (l0_1.length : Int) := of_decide_eq_true (by first | (with_reducible assumption) | assumption); obtain ⟨ad580, e580, hx580_0⟩ := Kd.at_int HR0_1.out 0 p580 q580; cases e580; have qi580 : (0 < l0_1.length) = True := eq_true (by omega); (try rw [show ((0 : Int)).toNat = 0 from rfl] at hx580_0); (try rw [Addr.add_zero'] at hx580_0); replace hx580_0 := (HB.out.cell (World.block_lt_of_cell? w _ hx580_0)).trans hx580_0; replace p580 := eq_true p580; replace q580 := eq_true q580) | (go_at_call 75; (with_reducible refine (dyad_inside.calls a0_2 t581 _ A12.out).mono ?_); rintro e w' ⟨rfl, ⟨nd, rfl⟩⟩))
     go_ret
     exact ⟨by first | rfl | (simp [errW_none, errW_some] <;> rfl) | (simp [*, errW_none, errW_some] <;> rfl), by repeat (first | (with_reducible first | exact qm_ HB.out | apply qA_ | apply qN_ | apply qD_ | refine below_set ?_ GE578.out) | exact HB.out)⟩
    ·rw [if_neg c11] at H
     have c11b0 : ((Go.bits .and .u32 (rd l0_1 0) 1) == 1) = false := beq_eq_false_iff_ne.mpr c11
     have c11b1 : ((Go.bits .and .u32 (rd l0_1 0) 1) != 1) = true := bne_iff_ne.mpr c11
     obtain rfl := Option.some.inj H
     go_enter Tryd.func49, Tryd.ntmps49
     go_wp2_with (first | ((with_reducible refine gate_dst (N := 1) rfl ?_); refine box_event ?hg (N := 1) ?hd (cs := #[.bool a0_0, .slice A0_1 l0_1.length c0_1, .int .i64 a0_2]) (t := 26) ?hr ?_; (case hd => rfl); (case hg => rfl); (case hr => first | (go_simp; done) | (go_simp; rfl)); intro gb578 hg w15 hbox hb; have n0_ := A0_ (below_step (qm_ HB.out) hb); have n1_ := A0_ (hbox); have n2_ := A0_ ((by rw [hg]; exact (below_size (qm_ HB.out)) : w.heap.size ≤ gb578)); have n3_ := A0_ ((by rw [hg]; exact (below_size (qm_ HB.out)) : w.heap.size ≤ gb578)); clear HB; have HB := n0_; have BK578 := n1_; have GW578 := n2_; have GE578 := n3_; clear n0_ n1_ n2_ n3_ hb hbox hg; have hcz16 := bc3_ BK578.out; have hfz16 := bf3_ BK578.out) | ((with_reducible refine gate_callee (f := 60) rfl ?_); refine goesL_ (some 5) rfl rfl Tryd.func60 (by kernel_rfl) rfl #[.slice A0_1 l0_1.length c0_1] rfl (by (try simp only [List.map_toArray, List.map_cons, List.map_nil]); first | done | rfl | (simp only [List.length_drop, List.length_take]; rfl)) ?_; (with_reducible refine (nat_May.calls _ _ l0_1 true _ ?side1 ?side2 A2.out).mono ?_); (case side1 => repeat (first | exact (Kd.C_below HR0_1.out HB.out) | (with_reducible refine Kd.C_alloc ?_ _) | (with_reducible refine Kd.C_drewN ?_ _) | (with_reducible refine Kd.C_drew ?_))); (case side2 => exact HC0_1.out); rintro e w' ⟨rfl, ⟨nd, rfl⟩⟩; refine ⟨_, rfl, ?_⟩; have p580 : 0 ≤ (0 : Int) := (by omega); have q580 : 0 < (l0_1.length : Int) := of_decide_eq_true (by first | (with_reducible assumption) | assumption); obtain ⟨ad580, e580, hx580_0⟩ := Kd.at_int HR0_1.out 0 p580 q580; cases e580; have qi580 : (0 < l0_1.length) = True := eq_true (by omega); (try rw [show ((0 : Int)).toNat = 0 from rfl] at hx580_0); (try rw [Addr.add_zero'] at hx580_0); replace hx580_0 := (HB.out.cell (World.block_lt_of_cell? w _ hx580_0)).trans hx580_0; replace p580 := eq_true p580; replace q580 := eq_true q580))
     go_ret
     exact ⟨by first | rfl | (simp [errW_none, errW_some] <;> rfl) | (simp [*, errW_none, errW_some] <;> rfl), by repeat (first | (with_reducible first | exact qm_ HB.out | apply qA_ | apply qN_ | apply qD_ | refine below_set ?_ GE578.out) | exact HB.out)⟩
   ·rw [if_neg c10] at H
    exact absurd H (by simp)
 ·replace c3 := Bool.eq_false_iff.mpr c3
  subst c3
  have H1 : (some false) = some r := by rw [if_neg (show ¬ (false = true) by decide)] at H; exact H
  clear H
  have H := H1
  clear H1
  obtain rfl := Option.some.inj H
  go_enter Tryd.func49, Tryd.ntmps49
  go_wp2_with (first | ((with_reducible refine gate_dst (N := 1) rfl ?_); refine box_event ?hg (N := 1) ?hd (cs := #[.bool a0_0, .slice A0_1 l0_1.length c0_1, .int .i64 a0_2]) (t := 26) ?hr ?_; (case hd => rfl); (case hg => rfl); (case hr => first | (go_simp; done) | (go_simp; rfl)); intro gb578 hg w17 hbox hb; have n0_ := A0_ (below_step (qm_ HB.out) hb); have n1_ := A0_ (hbox); have n2_ := A0_ ((by rw [hg]; exact (below_size (qm_ HB.out)) : w.heap.size ≤ gb578)); have n3_ := A0_ ((by rw [hg]; exact (below_size (qm_ HB.out)) : w.heap.size ≤ gb578)); clear HB; have HB := n0_; have BK578 := n1_; have GW578 := n2_; have GE578 := n3_; clear n0_ n1_ n2_ n3_ hb hbox hg; have hcz18 := bc3_ BK578.out; have hfz18 := bf3_ BK578.out) | ((with_reducible refine gate_callee (f := 60) rfl ?_); refine goesL_ (some 5) rfl rfl Tryd.func60 (by kernel_rfl) rfl #[.slice A0_1 l0_1.length c0_1] rfl (by (try simp only [List.map_toArray, List.map_cons, List.map_nil]); first | done | rfl | (simp only [List.length_drop, List.length_take]; rfl)) ?_; (with_reducible refine (nat_May.calls _ _ l0_1 false _ ?side1 ?side2 A2.out).mono ?_); (case side1 => repeat (first | exact (Kd.C_below HR0_1.out HB.out) | (with_reducible refine Kd.C_alloc ?_ _) | (with_reducible refine Kd.C_drewN ?_ _) | (with_reducible refine Kd.C_drew ?_))); (case side2 => exact HC0_1.out); rintro e w' ⟨rfl, ⟨nd, rfl⟩⟩; refine ⟨_, rfl, ?_⟩))
  go_ret
  exact ⟨by first | rfl | (simp [errW_none, errW_some] <;> rfl) | (simp [*, errW_none, errW_some] <;> rfl), by repeat (first | (with_reducible first | exact qm_ HB.out | apply qA_ | apply qN_ | apply qD_ | refine below_set ?_ GE578.out) | exact HB.out)⟩
mutual
def nat_Num.j0 : Nat → List Int → Bool → Option (Int × Bool)
 | 0, _, _ => none
 | k + 1, x0, x14 => if x14 = true then (some (0, false)) else (nat_Num.l0 k 0 x0 (x0.length : Int) 0)
def nat_Num.l0 : Nat → Int → List Int → Int → Int → Option (Int × Bool)
 | 0, _, _, _, _ => none
 | k + 1, x4, x15, x16, x17 => if x17 < x16 then (if 0 ≤ x17 then (if x17 < (x15.length : Int) then (if 0 ≤ (wrap64 (32 * x17)) then (nat_Num.l0 k (Go.bits .or .u64 x4 (shl .u64 (IntKind.u64.wrap (rd x15 x17)) (wrap64 (32 * x17)))) x15 x16 (wrap64 (x17 + 1))) else (none)) else (none)) else (none)) else (some (x4, true))
end
def nat_Num.f (k : Nat) (l0 : List Int) : Option (Int × Bool) := (nat_May.f l0).bind fun t582 => (if t582 = true then (nat_Num.j0 k l0 (decide ((l0.length : Int) > 2))) else (nat_Num.j0 k l0 true))
set_option maxHeartbeats 2000000 in
set_option maxRecDepth 100000 in
theorem nat_Num.calls (k : Nat) (A0 : Option Addr) (c0 : Nat) (l0 : List Int) (r1 : Int) (r2 : Bool) (w : World) (hr0 : Kd.C (Kd.int .u32) w A0 l0.length l0) (hc0 : l0.length ≤ c0) (h : nat_Num.f k l0 = some (r1, r2)) :
  Calls Tryd.prog 50 #[.slice A0 l0.length c0] w fun e w' => e = .returned (.tuple #[.int .u64 r1, .bool r2]) ∧ Drawn0 w w' := by
 have HR0 := A0_ hr0
 have HC0 := A0_ hc0
 clear hr0 hc0
 have H : ((nat_May.f l0).bind fun t582 => (if t582 = true then (nat_Num.j0 k l0 (decide ((l0.length : Int) > 2))) else (nat_Num.j0 k l0 true))) = some (r1, r2) := h
 clear h
 have HC2 := A0_ H
 clear H
 go_enter Tryd.func50, Tryd.ntmps50
 go_upto_region 1 with (fail)
 go_cut [14] (fun v14 wc => ∃ (kq : Nat) (x14_1 : Bool), v14 = .bool x14_1 ∧ Aside0 (nat_Num.j0 kq l0 x14_1 = some (r1, r2)) ∧ Aside0 (kq ≤ k) ∧ Drawn0 w wc)
 case first =>
  have H := HC2.out
  clear HC2
  replace H := Option.bind_eq_some_iff.mp H
  obtain ⟨t582, A30, H⟩ := H
  replace H : (if t582 = true then (nat_Num.j0 k l0 (decide ((l0.length : Int) > 2))) else (nat_Num.j0 k l0 true)) = some (r1, r2) := H
  have A3 := A0_ A30
  clear A30
  by_cases c4 : t582 = true
  ·subst c4
   have H1 : (nat_Num.j0 k l0 (decide ((l0.length : Int) > 2))) = some (r1, r2) := by rw [if_pos rfl] at H; exact H
   clear H
   have H := H1
   clear H1
   have H' := A0_ H
   clear H
   go_wp2_with (first | ((with_reducible refine gate_callee (f := 60) rfl ?_); refine goesL_ (some 8) rfl rfl Tryd.func60 (by kernel_rfl) rfl #[.slice A0 l0.length c0] rfl (by (try simp only [List.map_toArray, List.map_cons, List.map_nil]); first | done | rfl | (simp only [List.length_drop, List.length_take]; rfl)) ?_; (with_reducible refine (nat_May.calls _ _ l0 true _ ?side1 ?side2 A3.out).mono ?_); (case side1 => repeat (first | exact HR0.out | (with_reducible refine Kd.C_alloc ?_ _) | (with_reducible refine Kd.C_drewN ?_ _) | (with_reducible refine Kd.C_drew ?_))); (case side2 => exact HC0.out); rintro e w' ⟨rfl, ⟨nd, rfl⟩⟩; refine ⟨_, rfl, ?_⟩))
   go_meet
   case rel => exact ⟨_, (decide ((l0.length : Int) > 2)), (by first | rfl | (simp; done) | (simp [*]; done)), H', ⟨by first | omega | exact Nat.le_refl _⟩, by repeat (first | exact Drawn0.refl _ | apply Drawn0.step)⟩
  ·replace c4 := Bool.eq_false_iff.mpr c4
   subst c4
   have H1 : (nat_Num.j0 k l0 true) = some (r1, r2) := by rw [if_neg (show ¬ (false = true) by decide)] at H; exact H
   clear H
   have H := H1
   clear H1
   have H' := A0_ H
   clear H
   go_wp2_with (first | ((with_reducible refine gate_callee (f := 60) rfl ?_); refine goesL_ (some 8) rfl rfl Tryd.func60 (by kernel_rfl) rfl #[.slice A0 l0.length c0] rfl (by (try simp only [List.map_toArray, List.map_cons, List.map_nil]); first | done | rfl | (simp only [List.length_drop, List.length_take]; rfl)) ?_; (with_reducible refine (nat_May.calls _ _ l0 false _ ?side1 ?side2 A3.out).mono ?_); (case side1 => repeat (first | exact HR0.out | (with_reducible refine Kd.C_alloc ?_ _) | (with_reducible refine Kd.C_drewN ?_ _) | (with_reducible refine Kd.C_drew ?_))); (case side2 => exact HC0.out); rintro e w' ⟨rfl, ⟨nd, rfl⟩⟩; refine ⟨_, rfl, ?_⟩))
   go_meet
   case rel => exact ⟨_, (true), (by first | rfl | (simp; done) | (simp [*]; done)), H', ⟨by first | omega | exact Nat.le_refl _⟩, by repeat (first | exact Drawn0.refl _ | apply Drawn0.step)⟩
 case rest =>
  clear HC2
  try clear p2
  try clear c4
  obtain ⟨kq, x14_1, rfl, HA, HJ1, ⟨mc1, rfl⟩⟩ := hcut
  cases kq with
  | zero => exact absurd HA.out (by simp [nat_Num.j0])
  | succ kj1 =>
   have H := HA.out
   clear HA
   simp only [nat_Num.j0] at H
   by_cases c5 : x14_1 = true
   ·subst c5
    have H1 : (some (0, false)) = some (r1, r2) := by rw [if_pos rfl] at H; exact H
    clear H
    have H := H1
    clear H1
    simp only [Option.some.injEq, Prod.mk.injEq] at H
    obtain ⟨rfl, rfl⟩ := H
    go_wp2
    go_ret2
    exact ⟨by first | rfl | (simp; done) | (simp [*]; done), by repeat (first | exact Drawn0.refl _ | apply Drawn0.step)⟩
   ·replace c5 := Bool.eq_false_iff.mpr c5
    subst c5
    have H1 : (nat_Num.l0 kj1 0 l0 (l0.length : Int) 0) = some (r1, r2) := by rw [if_neg (show ¬ (false = true) by decide)] at H; exact H
    clear H
    have H := H1
    clear H1
    have H' := A0_ H
    clear H
    go_wp2
    go_loopg [4, 17] kj1 (fun kq v4 v17 w' => ∃ (x4_2 : Int) (x17_2 : Int), v4 = .int .u64 x4_2 ∧ v17 = .int .i64 x17_2 ∧ Aside0 (nat_Num.l0 kq x4_2 l0 (l0.length : Int) x17_2 = some (r1, r2)) ∧ Aside0 (kq ≤ kj1) ∧ Drawn0 w w')
    case atStart => exact ⟨(0), (0), (by first | rfl | (simp; done) | (simp [*]; done)), (by first | rfl | (simp; done) | (simp [*]; done)), H', ⟨Nat.le_refl _⟩, by repeat (first | exact Drawn0.refl _ | apply Drawn0.step)⟩
    case round =>
     clear H'
     try clear c1
     try clear p2
     try clear c4
     try clear c5
     try clear p2
     obtain ⟨x4_2, x17_2, rfl, rfl, HA, HK2, ⟨m2, rfl⟩⟩ := hrel
     cases gk with
     | zero => exact absurd HA.out (by simp [nat_Num.l0])
     | succ k2 =>
      have H := HA.out
      clear HA
      simp only [nat_Num.l0] at H
      by_cases c6 : x17_2 < (l0.length : Int)
      ·rw [if_pos c6] at H
       have c6b0 : decide (x17_2 < (l0.length : Int)) = true := decide_eq_true c6
       clear c6
       by_cases c7 : 0 ≤ x17_2
       ·rw [if_pos c7] at H
        have c7b0 : decide (0 ≤ x17_2) = true := decide_eq_true c7
        clear c7
        by_cases c8 : x17_2 < (l0.length : Int)
        ·rw [if_pos c8] at H
         have c8b0 : decide (x17_2 < (l0.length : Int)) = true := decide_eq_true c8
         clear c8
         obtain ⟨ji9, hji9⟩ : ∃ j_ : Int, (wrap64 (32 * x17_2)) = j_ := ⟨_, rfl⟩
         replace H : (if 0 ≤ (ji9) then (nat_Num.l0 k2 (Go.bits .or .u64 x4_2 (shl .u64 (IntKind.u64.wrap (rd l0 x17_2)) (ji9))) l0 (l0.length : Int) (wrap64 (x17_2 + 1))) else (none)) = some (r1, r2) := by first | (rw [hji9] at H; exact H) | (simp only [hji9] at H ⊢; exact H)
         have hji9w : (IntKind.i64.wrap (32 * x17_2)) = ji9 := (i64_w _).trans hji9
         by_cases c10 : 0 ≤ (ji9)
         ·rw [if_pos c10] at H
          have c10b0 := eq_true c10
          have c10b1 : decide (0 ≤ (ji9)) = true := decide_eq_true c10
          clear c10
          obtain ⟨ji11, hji11⟩ : ∃ j_ : Int, (shl .u64 (IntKind.u64.wrap (rd l0 x17_2)) (ji9)) = j_ := ⟨_, rfl⟩
          replace H : (nat_Num.l0 k2 (Go.bits .or .u64 x4_2 (ji11)) l0 (l0.length : Int) (wrap64 (x17_2 + 1))) = some (r1, r2) := by first | (rw [hji11] at H; exact H) | (simp only [hji11] at H ⊢; exact H)
          have hji11_ : (IntKind.u64.wrap ((IntKind.u64.wrap (rd l0 x17_2)) * 2 ^ min (ji9).toNat 64)) = ji11 := hji11
          have hji11z : (ji9) ≤ 64 → (IntKind.u64.wrap ((IntKind.u64.wrap (rd l0 x17_2)) * 2 ^ (ji9).toNat)) = ji11 := shl_small hji11
          have H' := A0_ H
          clear H
          have p583 : 0 ≤ (x17_2 : Int) := of_decide_eq_true (by first | (with_reducible assumption) | assumption)
          have q583 : x17_2 < (l0.length : Int) := of_decide_eq_true (by first | (with_reducible assumption) | assumption)
          obtain ⟨ad583, e583, hx583_0⟩ := Kd.at_int HR0.out x17_2 p583 q583
          cases e583
          replace p583 := eq_true p583
          replace q583 := eq_true q583
          go_wp2
          first | go_roundg k2 | ((try subst hji11); (try subst hji9); go_roundg k2)
          case measure => have := HJ1.out; have := HK2.out; omega
          case rel => exact ⟨(Go.bits .or .u64 x4_2 (ji11)), (wrap64 (x17_2 + 1)), (by first | rfl | (simp; done) | (simp only [← hji11] <;> (first | rfl | simp)) | (simp [*]; done)), (by first | rfl | (simp; done) | (simp [*]; done)), H', ⟨by have := HJ1.out; have := HK2.out; omega⟩, by repeat (first | exact Drawn0.refl _ | apply Drawn0.step)⟩
         ·rw [if_neg c10] at H
          exact absurd H (by simp)
        ·rw [if_neg c8] at H
         exact absurd H (by simp)
       ·rw [if_neg c7] at H
        exact absurd H (by simp)
      ·rw [if_neg c6] at H
       have c6b0 : decide (x17_2 < (l0.length : Int)) = false := decide_eq_false c6
       clear c6
       simp only [Option.some.injEq, Prod.mk.injEq] at H
       obtain ⟨rfl, rfl⟩ := H
       go_wp2
       go_ret2
       exact ⟨by first | rfl | (simp; done) | (simp [*]; done), by repeat (first | exact Drawn0.refl _ | apply Drawn0.step)⟩
end Go.Proofs.YthiklmgdmaemgaaDoor.PA
end

section
namespace Go.Proofs.YthiklmgdmaemgaaDoor.PA
open Go.RowKit Go.Proofs.YthiklmgdmaemgaaDoorW.PrintWords Go.Proofs.YthiklmgdmaemgaaDoorW.PrintLast Go.Proofs.YthiklmgdmaemgaaDoorW.PrintMore
attribute [local go_sem] max2_int min2_int max_two min_two max_three min_three max_four min_four   -- for this text's walks alone
set_option linter.unusedVariables false
set_option linter.unusedSimpArgs false
def bits_Len64.j0 : Nat → Int → Int → Option (Int)
 | 0, _, _ => none
 | k + 1, x0, x2 => if x0 ≥ 65536 then (if (x0 / 65536) ≥ 256 then (if 0 ≤ (((x0 / 65536) / 256) % 256) then (if (((x0 / 65536) / 256) % 256) < 256 then (some (wrap64 ((wrap64 ((wrap64 (x2 + 16)) + 8)) + (wrap64 (bt (⟨#[0, 1, 2, 2, 3, 3, 3, 3, 4, 4, 4, 4, 4, 4, 4, 4, 5, 5, 5, 5, 5, 5, 5, 5, 5, 5, 5, 5, 5, 5, 5, 5, 6, 6, 6, 6, 6, 6, 6, 6, 6, 6, 6, 6, 6, 6, 6, 6, 6, 6, 6, 6, 6, 6, 6, 6, 6, 6, 6, 6, 6, 6, 6, 6, 7, 7, 7, 7, 7, 7, 7, 7, 7, 7, 7, 7, 7, 7, 7, 7, 7, 7, 7, 7, 7, 7, 7, 7, 7, 7, 7, 7, 7, 7, 7, 7, 7, 7, 7, 7, 7, 7, 7, 7, 7, 7, 7, 7, 7, 7, 7, 7, 7, 7, 7, 7, 7, 7, 7, 7, 7, 7, 7, 7, 7, 7, 7, 7, 8, 8, 8, 8, 8, 8, 8, 8, 8, 8, 8, 8, 8, 8, 8, 8, 8, 8, 8, 8, 8, 8, 8, 8, 8, 8, 8, 8, 8, 8, 8, 8, 8, 8, 8, 8, 8, 8, 8, 8, 8, 8, 8, 8, 8, 8, 8, 8, 8, 8, 8, 8, 8, 8, 8, 8, 8, 8, 8, 8, 8, 8, 8, 8, 8, 8, 8, 8, 8, 8, 8, 8, 8, 8, 8, 8, 8, 8, 8, 8, 8, 8, 8, 8, 8, 8, 8, 8, 8, 8, 8, 8, 8, 8, 8, 8, 8, 8, 8, 8, 8, 8, 8, 8, 8, 8, 8, 8, 8, 8, 8, 8, 8, 8, 8, 8, 8, 8, 8, 8, 8, 8, 8, 8, 8, 8, 8, 8]⟩ : ByteArray) (((x0 / 65536) / 256) % 256)))))) else (none)) else (none)) else (if 0 ≤ ((x0 / 65536) % 256) then (if ((x0 / 65536) % 256) < 256 then (some (wrap64 ((wrap64 (x2 + 16)) + (wrap64 (bt (⟨#[0, 1, 2, 2, 3, 3, 3, 3, 4, 4, 4, 4, 4, 4, 4, 4, 5, 5, 5, 5, 5, 5, 5, 5, 5, 5, 5, 5, 5, 5, 5, 5, 6, 6, 6, 6, 6, 6, 6, 6, 6, 6, 6, 6, 6, 6, 6, 6, 6, 6, 6, 6, 6, 6, 6, 6, 6, 6, 6, 6, 6, 6, 6, 6, 7, 7, 7, 7, 7, 7, 7, 7, 7, 7, 7, 7, 7, 7, 7, 7, 7, 7, 7, 7, 7, 7, 7, 7, 7, 7, 7, 7, 7, 7, 7, 7, 7, 7, 7, 7, 7, 7, 7, 7, 7, 7, 7, 7, 7, 7, 7, 7, 7, 7, 7, 7, 7, 7, 7, 7, 7, 7, 7, 7, 7, 7, 7, 7, 8, 8, 8, 8, 8, 8, 8, 8, 8, 8, 8, 8, 8, 8, 8, 8, 8, 8, 8, 8, 8, 8, 8, 8, 8, 8, 8, 8, 8, 8, 8, 8, 8, 8, 8, 8, 8, 8, 8, 8, 8, 8, 8, 8, 8, 8, 8, 8, 8, 8, 8, 8, 8, 8, 8, 8, 8, 8, 8, 8, 8, 8, 8, 8, 8, 8, 8, 8, 8, 8, 8, 8, 8, 8, 8, 8, 8, 8, 8, 8, 8, 8, 8, 8, 8, 8, 8, 8, 8, 8, 8, 8, 8, 8, 8, 8, 8, 8, 8, 8, 8, 8, 8, 8, 8, 8, 8, 8, 8, 8, 8, 8, 8, 8, 8, 8, 8, 8, 8, 8, 8, 8, 8, 8, 8, 8, 8, 8]⟩ : ByteArray) ((x0 / 65536) % 256)))))) else (none)) else (none))) else (if x0 ≥ 256 then (if 0 ≤ ((x0 / 256) % 256) then (if ((x0 / 256) % 256) < 256 then (some (wrap64 ((wrap64 (x2 + 8)) + (wrap64 (bt (⟨#[0, 1, 2, 2, 3, 3, 3, 3, 4, 4, 4, 4, 4, 4, 4, 4, 5, 5, 5, 5, 5, 5, 5, 5, 5, 5, 5, 5, 5, 5, 5, 5, 6, 6, 6, 6, 6, 6, 6, 6, 6, 6, 6, 6, 6, 6, 6, 6, 6, 6, 6, 6, 6, 6, 6, 6, 6, 6, 6, 6, 6, 6, 6, 6, 7, 7, 7, 7, 7, 7, 7, 7, 7, 7, 7, 7, 7, 7, 7, 7, 7, 7, 7, 7, 7, 7, 7, 7, 7, 7, 7, 7, 7, 7, 7, 7, 7, 7, 7, 7, 7, 7, 7, 7, 7, 7, 7, 7, 7, 7, 7, 7, 7, 7, 7, 7, 7, 7, 7, 7, 7, 7, 7, 7, 7, 7, 7, 7, 8, 8, 8, 8, 8, 8, 8, 8, 8, 8, 8, 8, 8, 8, 8, 8, 8, 8, 8, 8, 8, 8, 8, 8, 8, 8, 8, 8, 8, 8, 8, 8, 8, 8, 8, 8, 8, 8, 8, 8, 8, 8, 8, 8, 8, 8, 8, 8, 8, 8, 8, 8, 8, 8, 8, 8, 8, 8, 8, 8, 8, 8, 8, 8, 8, 8, 8, 8, 8, 8, 8, 8, 8, 8, 8, 8, 8, 8, 8, 8, 8, 8, 8, 8, 8, 8, 8, 8, 8, 8, 8, 8, 8, 8, 8, 8, 8, 8, 8, 8, 8, 8, 8, 8, 8, 8, 8, 8, 8, 8, 8, 8, 8, 8, 8, 8, 8, 8, 8, 8, 8, 8, 8, 8, 8, 8, 8, 8]⟩ : ByteArray) ((x0 / 256) % 256)))))) else (none)) else (none)) else (if 0 ≤ ((x0) % 256) then (if ((x0) % 256) < 256 then (some (wrap64 (x2 + (wrap64 (bt (⟨#[0, 1, 2, 2, 3, 3, 3, 3, 4, 4, 4, 4, 4, 4, 4, 4, 5, 5, 5, 5, 5, 5, 5, 5, 5, 5, 5, 5, 5, 5, 5, 5, 6, 6, 6, 6, 6, 6, 6, 6, 6, 6, 6, 6, 6, 6, 6, 6, 6, 6, 6, 6, 6, 6, 6, 6, 6, 6, 6, 6, 6, 6, 6, 6, 7, 7, 7, 7, 7, 7, 7, 7, 7, 7, 7, 7, 7, 7, 7, 7, 7, 7, 7, 7, 7, 7, 7, 7, 7, 7, 7, 7, 7, 7, 7, 7, 7, 7, 7, 7, 7, 7, 7, 7, 7, 7, 7, 7, 7, 7, 7, 7, 7, 7, 7, 7, 7, 7, 7, 7, 7, 7, 7, 7, 7, 7, 7, 7, 8, 8, 8, 8, 8, 8, 8, 8, 8, 8, 8, 8, 8, 8, 8, 8, 8, 8, 8, 8, 8, 8, 8, 8, 8, 8, 8, 8, 8, 8, 8, 8, 8, 8, 8, 8, 8, 8, 8, 8, 8, 8, 8, 8, 8, 8, 8, 8, 8, 8, 8, 8, 8, 8, 8, 8, 8, 8, 8, 8, 8, 8, 8, 8, 8, 8, 8, 8, 8, 8, 8, 8, 8, 8, 8, 8, 8, 8, 8, 8, 8, 8, 8, 8, 8, 8, 8, 8, 8, 8, 8, 8, 8, 8, 8, 8, 8, 8, 8, 8, 8, 8, 8, 8, 8, 8, 8, 8, 8, 8, 8, 8, 8, 8, 8, 8, 8, 8, 8, 8, 8, 8, 8, 8, 8, 8, 8, 8]⟩ : ByteArray) ((x0) % 256)))))) else (none)) else (none)))
def bits_Len64.f (k : Nat) (a0 : Int) : Option (Int) := if a0 ≥ 4294967296 then (bits_Len64.j0 k (a0 / 4294967296) 32) else (bits_Len64.j0 k a0 0)
set_option maxHeartbeats 2000000 in
set_option maxRecDepth 100000 in
theorem bits_Len64.calls (k : Nat) (a0 : Int) (r : Int) (w : World) (h : bits_Len64.f k a0 = some r) :
  Calls Tryd.prog 51 #[.int .u64 a0] w fun e w' => e = .returned (.int .i64 r) ∧ Drawn0 w w' := by
 have H : (if a0 ≥ 4294967296 then (bits_Len64.j0 k (a0 / 4294967296) 32) else (bits_Len64.j0 k a0 0)) = some r := h
 clear h
 have HC2 := A0_ H
 clear H
 go_enter Tryd.func51, Tryd.ntmps51
 go_upto_if 4 with (fail)
 go_cut [0, 2] (fun v0 v2 wc => ∃ (kq : Nat) (x0_1 : Int) (x2_1 : Int), v0 = .int .u64 x0_1 ∧ v2 = .int .i64 x2_1 ∧ Aside0 (bits_Len64.j0 kq x0_1 x2_1 = some r) ∧ Aside0 (kq ≤ k) ∧ Drawn0 w wc)
 case first =>
  have H := HC2.out
  clear HC2
  by_cases c3 : a0 ≥ 4294967296
  ·rw [if_pos c3] at H
   have c3b0 : decide (4294967296 ≤ a0) = true := decide_eq_true c3
   clear c3
   (first | rw [c3b0] | (simp only [i64_w, i32_w]; rw [c3b0]) | skip)
   have H' := A0_ H
   clear H
   go_wp2
   go_meet
   case rel => exact ⟨_, (a0 / 4294967296), (32), (by first | rfl | (simp; done) | (simp [*]; done)), (by first | rfl | (simp; done) | (simp [*]; done)), H', ⟨by first | omega | exact Nat.le_refl _⟩, by repeat (first | exact Drawn0.refl _ | apply Drawn0.step)⟩
  ·rw [if_neg c3] at H
   have c3b0 : decide (4294967296 ≤ a0) = false := decide_eq_false c3
   clear c3
   (first | rw [c3b0] | (simp only [i64_w, i32_w]; rw [c3b0]) | skip)
   have H' := A0_ H
   clear H
   go_wp2
   go_meet
   case rel => exact ⟨_, (a0), (0), (by first | rfl | (simp; done) | (simp [*]; done)), (by first | rfl | (simp; done) | (simp [*]; done)), H', ⟨by first | omega | exact Nat.le_refl _⟩, by repeat (first | exact Drawn0.refl _ | apply Drawn0.step)⟩
 case rest =>
  clear HC2
  try clear p2
  try clear c3
  try clear c3b0
  obtain ⟨kq, x0_1, x2_1, rfl, rfl, HA, HJ1, ⟨mc1, rfl⟩⟩ := hcut
  cases kq with
  | zero => exact absurd HA.out (by simp [bits_Len64.j0])
  | succ kj1 =>
   have H := HA.out
   clear HA
   simp only [bits_Len64.j0] at H
   by_cases c4 : x0_1 ≥ 65536
   ·rw [if_pos c4] at H
    have c4b0 : decide (65536 ≤ x0_1) = true := decide_eq_true c4
    clear c4
    by_cases c5 : (x0_1 / 65536) ≥ 256
    ·rw [if_pos c5] at H
     have c5b0 : decide (256 ≤ (x0_1 / 65536)) = true := decide_eq_true c5
     clear c5
     obtain ⟨ji6, hji6⟩ : ∃ j_ : Int, (((x0_1 / 65536) / 256) % 256) = j_ := ⟨_, rfl⟩
     replace H : (if 0 ≤ (ji6) then (if (ji6) < 256 then (some (wrap64 ((wrap64 ((wrap64 (x2_1 + 16)) + 8)) + (wrap64 (bt (⟨#[0, 1, 2, 2, 3, 3, 3, 3, 4, 4, 4, 4, 4, 4, 4, 4, 5, 5, 5, 5, 5, 5, 5, 5, 5, 5, 5, 5, 5, 5, 5, 5, 6, 6, 6, 6, 6, 6, 6, 6, 6, 6, 6, 6, 6, 6, 6, 6, 6, 6, 6, 6, 6, 6, 6, 6, 6, 6, 6, 6, 6, 6, 6, 6, 7, 7, 7, 7, 7, 7, 7, 7, 7, 7, 7, 7, 7, 7, 7, 7, 7, 7, 7, 7, 7, 7, 7, 7, 7, 7, 7, 7, 7, 7, 7, 7, 7, 7, 7, 7, 7, 7, 7, 7, 7, 7, 7, 7, 7, 7, 7, 7, 7, 7, 7, 7, 7, 7, 7, 7, 7, 7, 7, 7, 7, 7, 7, 7, 8, 8, 8, 8, 8, 8, 8, 8, 8, 8, 8, 8, 8, 8, 8, 8, 8, 8, 8, 8, 8, 8, 8, 8, 8, 8, 8, 8, 8, 8, 8, 8, 8, 8, 8, 8, 8, 8, 8, 8, 8, 8, 8, 8, 8, 8, 8, 8, 8, 8, 8, 8, 8, 8, 8, 8, 8, 8, 8, 8, 8, 8, 8, 8, 8, 8, 8, 8, 8, 8, 8, 8, 8, 8, 8, 8, 8, 8, 8, 8, 8, 8, 8, 8, 8, 8, 8, 8, 8, 8, 8, 8, 8, 8, 8, 8, 8, 8, 8, 8, 8, 8, 8, 8, 8, 8, 8, 8, 8, 8, 8, 8, 8, 8, 8, 8, 8, 8, 8, 8, 8, 8, 8, 8, 8, 8, 8, 8]⟩ : ByteArray) (ji6)))))) else (none)) else (none)) = some r := by first | (rw [hji6] at H; exact H) | (simp only [hji6] at H ⊢; exact H)
     by_cases c7 : 0 ≤ (ji6)
     ·rw [if_pos c7] at H
      have c7b0 : decide (0 ≤ (ji6)) = true := decide_eq_true c7
      clear c7
      by_cases c8 : (ji6) < 256
      ·rw [if_pos c8] at H
       have c8b0 : decide ((ji6) < 256) = true := decide_eq_true c8
       clear c8
       obtain rfl := Option.some.inj H
       have p9 : 0 ≤ ((ji6) : Int) := of_decide_eq_true (by first | (with_reducible assumption) | assumption)
       have q9 : (ji6) < (256 : Int) := of_decide_eq_true (by first | (with_reducible assumption) | assumption)
       have hx9 := bt_at (⟨#[0, 1, 2, 2, 3, 3, 3, 3, 4, 4, 4, 4, 4, 4, 4, 4, 5, 5, 5, 5, 5, 5, 5, 5, 5, 5, 5, 5, 5, 5, 5, 5, 6, 6, 6, 6, 6, 6, 6, 6, 6, 6, 6, 6, 6, 6, 6, 6, 6, 6, 6, 6, 6, 6, 6, 6, 6, 6, 6, 6, 6, 6, 6, 6, 7, 7, 7, 7, 7, 7, 7, 7, 7, 7, 7, 7, 7, 7, 7, 7, 7, 7, 7, 7, 7, 7, 7, 7, 7, 7, 7, 7, 7, 7, 7, 7, 7, 7, 7, 7, 7, 7, 7, 7, 7, 7, 7, 7, 7, 7, 7, 7, 7, 7, 7, 7, 7, 7, 7, 7, 7, 7, 7, 7, 7, 7, 7, 7, 8, 8, 8, 8, 8, 8, 8, 8, 8, 8, 8, 8, 8, 8, 8, 8, 8, 8, 8, 8, 8, 8, 8, 8, 8, 8, 8, 8, 8, 8, 8, 8, 8, 8, 8, 8, 8, 8, 8, 8, 8, 8, 8, 8, 8, 8, 8, 8, 8, 8, 8, 8, 8, 8, 8, 8, 8, 8, 8, 8, 8, 8, 8, 8, 8, 8, 8, 8, 8, 8, 8, 8, 8, 8, 8, 8, 8, 8, 8, 8, 8, 8, 8, 8, 8, 8, 8, 8, 8, 8, 8, 8, 8, 8, 8, 8, 8, 8, 8, 8, 8, 8, 8, 8, 8, 8, 8, 8, 8, 8, 8, 8, 8, 8, 8, 8, 8, 8, 8, 8, 8, 8, 8, 8, 8, 8, 8, 8]⟩ : ByteArray) (ji6)
       replace p9 := eq_true p9
       replace q9 := eq_true q9
       go_wp2
       go_ret
       exact ⟨by first | rfl | (simp; done) | (simp only [← hji6] <;> (first | rfl | simp)) | (simp [*]; done), by repeat (first | exact Drawn0.refl _ | apply Drawn0.step)⟩
      ·rw [if_neg c8] at H
       exact absurd H (by simp)
     ·rw [if_neg c7] at H
      exact absurd H (by simp)
    ·rw [if_neg c5] at H
     have c5b0 : decide (256 ≤ (x0_1 / 65536)) = false := decide_eq_false c5
     clear c5
     obtain ⟨ji10, hji10⟩ : ∃ j_ : Int, ((x0_1 / 65536) % 256) = j_ := ⟨_, rfl⟩
     replace H : (if 0 ≤ (ji10) then (if (ji10) < 256 then (some (wrap64 ((wrap64 (x2_1 + 16)) + (wrap64 (bt (⟨#[0, 1, 2, 2, 3, 3, 3, 3, 4, 4, 4, 4, 4, 4, 4, 4, 5, 5, 5, 5, 5, 5, 5, 5, 5, 5, 5, 5, 5, 5, 5, 5, 6, 6, 6, 6, 6, 6, 6, 6, 6, 6, 6, 6, 6, 6, 6, 6, 6, 6, 6, 6, 6, 6, 6, 6, 6, 6, 6, 6, 6, 6, 6, 6, 7, 7, 7, 7, 7, 7, 7, 7, 7, 7, 7, 7, 7, 7, 7, 7, 7, 7, 7, 7, 7, 7, 7, 7, 7, 7, 7, 7, 7, 7, 7, 7, 7, 7, 7, 7, 7, 7, 7, 7, 7, 7, 7, 7, 7, 7, 7, 7, 7, 7, 7, 7, 7, 7, 7, 7, 7, 7, 7, 7, 7, 7, 7, 7, 8, 8, 8, 8, 8, 8, 8, 8, 8, 8, 8, 8, 8, 8, 8, 8, 8, 8, 8, 8, 8, 8, 8, 8, 8, 8, 8, 8, 8, 8, 8, 8, 8, 8, 8, 8, 8, 8, 8, 8, 8, 8, 8, 8, 8, 8, 8, 8, 8, 8, 8, 8, 8, 8, 8, 8, 8, 8, 8, 8, 8, 8, 8, 8, 8, 8, 8, 8, 8, 8, 8, 8, 8, 8, 8, 8, 8, 8, 8, 8, 8, 8, 8, 8, 8, 8, 8, 8, 8, 8, 8, 8, 8, 8, 8, 8, 8, 8, 8, 8, 8, 8, 8, 8, 8, 8, 8, 8, 8, 8, 8, 8, 8, 8, 8, 8, 8, 8, 8, 8, 8, 8, 8, 8, 8, 8, 8, 8]⟩ : ByteArray) (ji10)))))) else (none)) else (none)) = some r := by first | (rw [hji10] at H; exact H) | (simp only [hji10] at H ⊢; exact H)
     by_cases c11 : 0 ≤ (ji10)
     ·rw [if_pos c11] at H
      have c11b0 : decide (0 ≤ (ji10)) = true := decide_eq_true c11
      clear c11
      by_cases c12 : (ji10) < 256
      ·rw [if_pos c12] at H
       have c12b0 : decide ((ji10) < 256) = true := decide_eq_true c12
       clear c12
       obtain rfl := Option.some.inj H
       have p13 : 0 ≤ ((ji10) : Int) := of_decide_eq_true (by first | (with_reducible assumption) | assumption)
       have q13 : (ji10) < (256 : Int) := of_decide_eq_true (by first | (with_reducible assumption) | assumption)
       have hx13 := bt_at (⟨#[0, 1, 2, 2, 3, 3, 3, 3, 4, 4, 4, 4, 4, 4, 4, 4, 5, 5, 5, 5, 5, 5, 5, 5, 5, 5, 5, 5, 5, 5, 5, 5, 6, 6, 6, 6, 6, 6, 6, 6, 6, 6, 6, 6, 6, 6, 6, 6, 6, 6, 6, 6, 6, 6, 6, 6, 6, 6, 6, 6, 6, 6, 6, 6, 7, 7, 7, 7, 7, 7, 7, 7, 7, 7, 7, 7, 7, 7, 7, 7, 7, 7, 7, 7, 7, 7, 7, 7, 7, 7, 7, 7, 7, 7, 7, 7, 7, 7, 7, 7, 7, 7, 7, 7, 7, 7, 7, 7, 7, 7, 7, 7, 7, 7, 7, 7, 7, 7, 7, 7, 7, 7, 7, 7, 7, 7, 7, 7, 8, 8, 8, 8, 8, 8, 8, 8, 8, 8, 8, 8, 8, 8, 8, 8, 8, 8, 8, 8, 8, 8, 8, 8, 8, 8, 8, 8, 8, 8, 8, 8, 8, 8, 8, 8, 8, 8, 8, 8, 8, 8, 8, 8, 8, 8, 8, 8, 8, 8, 8, 8, 8, 8, 8, 8, 8, 8, 8, 8, 8, 8, 8, 8, 8, 8, 8, 8, 8, 8, 8, 8, 8, 8, 8, 8, 8, 8, 8, 8, 8, 8, 8, 8, 8, 8, 8, 8, 8, 8, 8, 8, 8, 8, 8, 8, 8, 8, 8, 8, 8, 8, 8, 8, 8, 8, 8, 8, 8, 8, 8, 8, 8, 8, 8, 8, 8, 8, 8, 8, 8, 8, 8, 8, 8, 8, 8, 8]⟩ : ByteArray) (ji10)
       replace p13 := eq_true p13
       replace q13 := eq_true q13
       go_wp2
       go_ret
       exact ⟨by first | rfl | (simp; done) | (simp only [← hji10] <;> (first | rfl | simp)) | (simp [*]; done), by repeat (first | exact Drawn0.refl _ | apply Drawn0.step)⟩
      ·rw [if_neg c12] at H
       exact absurd H (by simp)
     ·rw [if_neg c11] at H
      exact absurd H (by simp)
   ·rw [if_neg c4] at H
    have c4b0 : decide (65536 ≤ x0_1) = false := decide_eq_false c4
    clear c4
    by_cases c14 : x0_1 ≥ 256
    ·rw [if_pos c14] at H
     have c14b0 : decide (256 ≤ x0_1) = true := decide_eq_true c14
     clear c14
     obtain ⟨ji15, hji15⟩ : ∃ j_ : Int, ((x0_1 / 256) % 256) = j_ := ⟨_, rfl⟩
     replace H : (if 0 ≤ (ji15) then (if (ji15) < 256 then (some (wrap64 ((wrap64 (x2_1 + 8)) + (wrap64 (bt (⟨#[0, 1, 2, 2, 3, 3, 3, 3, 4, 4, 4, 4, 4, 4, 4, 4, 5, 5, 5, 5, 5, 5, 5, 5, 5, 5, 5, 5, 5, 5, 5, 5, 6, 6, 6, 6, 6, 6, 6, 6, 6, 6, 6, 6, 6, 6, 6, 6, 6, 6, 6, 6, 6, 6, 6, 6, 6, 6, 6, 6, 6, 6, 6, 6, 7, 7, 7, 7, 7, 7, 7, 7, 7, 7, 7, 7, 7, 7, 7, 7, 7, 7, 7, 7, 7, 7, 7, 7, 7, 7, 7, 7, 7, 7, 7, 7, 7, 7, 7, 7, 7, 7, 7, 7, 7, 7, 7, 7, 7, 7, 7, 7, 7, 7, 7, 7, 7, 7, 7, 7, 7, 7, 7, 7, 7, 7, 7, 7, 8, 8, 8, 8, 8, 8, 8, 8, 8, 8, 8, 8, 8, 8, 8, 8, 8, 8, 8, 8, 8, 8, 8, 8, 8, 8, 8, 8, 8, 8, 8, 8, 8, 8, 8, 8, 8, 8, 8, 8, 8, 8, 8, 8, 8, 8, 8, 8, 8, 8, 8, 8, 8, 8, 8, 8, 8, 8, 8, 8, 8, 8, 8, 8, 8, 8, 8, 8, 8, 8, 8, 8, 8, 8, 8, 8, 8, 8, 8, 8, 8, 8, 8, 8, 8, 8, 8, 8, 8, 8, 8, 8, 8, 8, 8, 8, 8, 8, 8, 8, 8, 8, 8, 8, 8, 8, 8, 8, 8, 8, 8, 8, 8, 8, 8, 8, 8, 8, 8, 8, 8, 8, 8, 8, 8, 8, 8, 8]⟩ : ByteArray) (ji15)))))) else (none)) else (none)) = some r := by first | (rw [hji15] at H; exact H) | (simp only [hji15] at H ⊢; exact H)
     by_cases c16 : 0 ≤ (ji15)
     ·rw [if_pos c16] at H
      have c16b0 : decide (0 ≤ (ji15)) = true := decide_eq_true c16
      clear c16
      by_cases c17 : (ji15) < 256
      ·rw [if_pos c17] at H
       have c17b0 : decide ((ji15) < 256) = true := decide_eq_true c17
       clear c17
       obtain rfl := Option.some.inj H
       have p18 : 0 ≤ ((ji15) : Int) := of_decide_eq_true (by first | (with_reducible assumption) | assumption)
       have q18 : (ji15) < (256 : Int) := of_decide_eq_true (by first | (with_reducible assumption) | assumption)
       have hx18 := bt_at (⟨#[0, 1, 2, 2, 3, 3, 3, 3, 4, 4, 4, 4, 4, 4, 4, 4, 5, 5, 5, 5, 5, 5, 5, 5, 5, 5, 5, 5, 5, 5, 5, 5, 6, 6, 6, 6, 6, 6, 6, 6, 6, 6, 6, 6, 6, 6, 6, 6, 6, 6, 6, 6, 6, 6, 6, 6, 6, 6, 6, 6, 6, 6, 6, 6, 7, 7, 7, 7, 7, 7, 7, 7, 7, 7, 7, 7, 7, 7, 7, 7, 7, 7, 7, 7, 7, 7, 7, 7, 7, 7, 7, 7, 7, 7, 7, 7, 7, 7, 7, 7, 7, 7, 7, 7, 7, 7, 7, 7, 7, 7, 7, 7, 7, 7, 7, 7, 7, 7, 7, 7, 7, 7, 7, 7, 7, 7, 7, 7, 8, 8, 8, 8, 8, 8, 8, 8, 8, 8, 8, 8, 8, 8, 8, 8, 8, 8, 8, 8, 8, 8, 8, 8, 8, 8, 8, 8, 8, 8, 8, 8, 8, 8, 8, 8, 8, 8, 8, 8, 8, 8, 8, 8, 8, 8, 8, 8, 8, 8, 8, 8, 8, 8, 8, 8, 8, 8, 8, 8, 8, 8, 8, 8, 8, 8, 8, 8, 8, 8, 8, 8, 8, 8, 8, 8, 8, 8, 8, 8, 8, 8, 8, 8, 8, 8, 8, 8, 8, 8, 8, 8, 8, 8, 8, 8, 8, 8, 8, 8, 8, 8, 8, 8, 8, 8, 8, 8, 8, 8, 8, 8, 8, 8, 8, 8, 8, 8, 8, 8, 8, 8, 8, 8, 8, 8, 8, 8]⟩ : ByteArray) (ji15)
       replace p18 := eq_true p18
       replace q18 := eq_true q18
       go_wp2
       go_ret
       exact ⟨by first | rfl | (simp; done) | (simp only [← hji15] <;> (first | rfl | simp)) | (simp [*]; done), by repeat (first | exact Drawn0.refl _ | apply Drawn0.step)⟩
      ·rw [if_neg c17] at H
       exact absurd H (by simp)
     ·rw [if_neg c16] at H
      exact absurd H (by simp)
    ·rw [if_neg c14] at H
     have c14b0 : decide (256 ≤ x0_1) = false := decide_eq_false c14
     clear c14
     obtain ⟨ji19, hji19⟩ : ∃ j_ : Int, ((x0_1) % 256) = j_ := ⟨_, rfl⟩
     replace H : (if 0 ≤ (ji19) then (if (ji19) < 256 then (some (wrap64 (x2_1 + (wrap64 (bt (⟨#[0, 1, 2, 2, 3, 3, 3, 3, 4, 4, 4, 4, 4, 4, 4, 4, 5, 5, 5, 5, 5, 5, 5, 5, 5, 5, 5, 5, 5, 5, 5, 5, 6, 6, 6, 6, 6, 6, 6, 6, 6, 6, 6, 6, 6, 6, 6, 6, 6, 6, 6, 6, 6, 6, 6, 6, 6, 6, 6, 6, 6, 6, 6, 6, 7, 7, 7, 7, 7, 7, 7, 7, 7, 7, 7, 7, 7, 7, 7, 7, 7, 7, 7, 7, 7, 7, 7, 7, 7, 7, 7, 7, 7, 7, 7, 7, 7, 7, 7, 7, 7, 7, 7, 7, 7, 7, 7, 7, 7, 7, 7, 7, 7, 7, 7, 7, 7, 7, 7, 7, 7, 7, 7, 7, 7, 7, 7, 7, 8, 8, 8, 8, 8, 8, 8, 8, 8, 8, 8, 8, 8, 8, 8, 8, 8, 8, 8, 8, 8, 8, 8, 8, 8, 8, 8, 8, 8, 8, 8, 8, 8, 8, 8, 8, 8, 8, 8, 8, 8, 8, 8, 8, 8, 8, 8, 8, 8, 8, 8, 8, 8, 8, 8, 8, 8, 8, 8, 8, 8, 8, 8, 8, 8, 8, 8, 8, 8, 8, 8, 8, 8, 8, 8, 8, 8, 8, 8, 8, 8, 8, 8, 8, 8, 8, 8, 8, 8, 8, 8, 8, 8, 8, 8, 8, 8, 8, 8, 8, 8, 8, 8, 8, 8, 8, 8, 8, 8, 8, 8, 8, 8, 8, 8, 8, 8, 8, 8, 8, 8, 8, 8, 8, 8, 8, 8, 8]⟩ : ByteArray) (ji19)))))) else (none)) else (none)) = some r := by first | (rw [hji19] at H; exact H) | (simp only [hji19] at H ⊢; exact H)
     by_cases c20 : 0 ≤ (ji19)
     ·rw [if_pos c20] at H
      have c20b0 : decide (0 ≤ (ji19)) = true := decide_eq_true c20
      clear c20
      by_cases c21 : (ji19) < 256
      ·rw [if_pos c21] at H
       have c21b0 : decide ((ji19) < 256) = true := decide_eq_true c21
       clear c21
       obtain rfl := Option.some.inj H
       have p22 : 0 ≤ ((ji19) : Int) := of_decide_eq_true (by first | (with_reducible assumption) | assumption)
       have q22 : (ji19) < (256 : Int) := of_decide_eq_true (by first | (with_reducible assumption) | assumption)
       have hx22 := bt_at (⟨#[0, 1, 2, 2, 3, 3, 3, 3, 4, 4, 4, 4, 4, 4, 4, 4, 5, 5, 5, 5, 5, 5, 5, 5, 5, 5, 5, 5, 5, 5, 5, 5, 6, 6, 6, 6, 6, 6, 6, 6, 6, 6, 6, 6, 6, 6, 6, 6, 6, 6, 6, 6, 6, 6, 6, 6, 6, 6, 6, 6, 6, 6, 6, 6, 7, 7, 7, 7, 7, 7, 7, 7, 7, 7, 7, 7, 7, 7, 7, 7, 7, 7, 7, 7, 7, 7, 7, 7, 7, 7, 7, 7, 7, 7, 7, 7, 7, 7, 7, 7, 7, 7, 7, 7, 7, 7, 7, 7, 7, 7, 7, 7, 7, 7, 7, 7, 7, 7, 7, 7, 7, 7, 7, 7, 7, 7, 7, 7, 8, 8, 8, 8, 8, 8, 8, 8, 8, 8, 8, 8, 8, 8, 8, 8, 8, 8, 8, 8, 8, 8, 8, 8, 8, 8, 8, 8, 8, 8, 8, 8, 8, 8, 8, 8, 8, 8, 8, 8, 8, 8, 8, 8, 8, 8, 8, 8, 8, 8, 8, 8, 8, 8, 8, 8, 8, 8, 8, 8, 8, 8, 8, 8, 8, 8, 8, 8, 8, 8, 8, 8, 8, 8, 8, 8, 8, 8, 8, 8, 8, 8, 8, 8, 8, 8, 8, 8, 8, 8, 8, 8, 8, 8, 8, 8, 8, 8, 8, 8, 8, 8, 8, 8, 8, 8, 8, 8, 8, 8, 8, 8, 8, 8, 8, 8, 8, 8, 8, 8, 8, 8, 8, 8, 8, 8, 8, 8]⟩ : ByteArray) (ji19)
       replace p22 := eq_true p22
       replace q22 := eq_true q22
       go_wp2
       go_ret
       exact ⟨by first | rfl | (simp; done) | (simp only [← hji19] <;> (first | rfl | simp)) | (simp [*]; done), by repeat (first | exact Drawn0.refl _ | apply Drawn0.step)⟩
      ·rw [if_neg c21] at H
       exact absurd H (by simp)
     ·rw [if_neg c20] at H
      exact absurd H (by simp)
end Go.Proofs.YthiklmgdmaemgaaDoor.PA
end
