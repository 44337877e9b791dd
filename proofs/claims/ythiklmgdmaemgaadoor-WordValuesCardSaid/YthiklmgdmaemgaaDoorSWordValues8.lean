/- Steps of Go functions that the law WordValues uses, told as plain Lean functions, each with the proof that its call comes to what it tells; words on memory; plain facts. No condition beyond those that each text names. -/
import Derived.Test.YthiklmgdmaemgaaDoorProg
import Derived.WalkMore
import Derived.Shelf.Spec.TrailingZeros
import Derived.Below
import Derived.Deep.Draws
import Derived.Deep.AppendLies
import Derived.Maps.AppendAt
import Derived.OwnWalk
import Derived.Laws.BytesArg
import Derived.Laws.MakeOwn
import Derived.Laws.OwnMore
import Derived.Deep.OwnRows
import Derived.Tactics
import Derived.Lib.ConvBytes
import Derived.Laws.Slices
import Derived.WalkKit
import Derived.KernelRfl
import Derived.RowKit3
import Derived.Deep.LoopGhost
import Derived.Deep.QuietTactic
import Derived.BigQuiet
import Derived.WideLaws
import Derived.Deep.DeepCutAuto
import Derived.Deep.CutBlock
import Derived.Deep.RegionHeld3
import Derived.Laws.Rows
import Derived.Lib.AppendStr
import Derived.ArgAppend
import Derived.Laws.IdiomCopy
import Derived.OrdersHeld
import Derived.Laws.BitsLemmas
import Derived.RowKit
import Derived.Laws.StructEq
import Derived.Laws.BitsAllLaws
import Derived.Test.YthiklmgdmaemgaaDoorSWordValues0
import Derived.Test.YthiklmgdmaemgaaDoorSWordValues1
import Derived.Test.YthiklmgdmaemgaaDoorSWordValues2
import Derived.Test.YthiklmgdmaemgaaDoorSWordValues3
import Derived.Test.YthiklmgdmaemgaaDoorSWordValues4
import Derived.Test.YthiklmgdmaemgaaDoorSWordValues5
import Derived.Test.YthiklmgdmaemgaaDoorSWordValues6
import Derived.Test.YthiklmgdmaemgaaDoorSWordValues7
section
namespace Go.Proofs.YthiklmgdmaemgaaDoor.PA
open Go.RowKit Go.Proofs.YthiklmgdmaemgaaDoorW.PrintWords Go.Proofs.YthiklmgdmaemgaaDoorW.PrintLast Go.Proofs.YthiklmgdmaemgaaDoorW.PrintMore
attribute [local go_sem] max2_int min2_int max_two min_two max_three min_three max_four min_four   -- for this text's walks alone
set_option linter.unusedVariables false
set_option linter.unusedSimpArgs false
mutual
def cutplanelaw03_WordValues.j0 : Nat → Int → Int → Int → Int → Int → Bool → Bool → List Int → Int → Bool → List Int → Int → Bool → List Int → Int → Option (Bool)
 | 0, _, _, _, _, _, _, _, _, _, _, _, _, _, _, _ => none
 | k + 1, x0, x1, x9, x11, x12, x45, x627000, x627001, x627002, x636000, x636001, x636002, x643000, x643001, x643002 => if x45 = true then (cutplanelaw03_WordValues.j1 k x0 x1 x9 x11 7 x627000 x627001 x627002 x636000 x636001 x636002 x643000 x643001 x643002) else (cutplanelaw03_WordValues.j1 k x0 x1 x9 x11 x12 x627000 x627001 x627002 x636000 x636001 x636002 x643000 x643001 x643002)
def cutplanelaw03_WordValues.j1 : Nat → Int → Int → Int → Int → Int → Bool → List Int → Int → Bool → List Int → Int → Bool → List Int → Int → Option (Bool)
 | 0, _, _, _, _, _, _, _, _, _, _, _, _, _, _ => none
 | k + 1, x0, x1, x9, x11, x12, x627000, x627001, x627002, x636000, x636001, x636002, x643000, x643001, x643002 => if x9 = x12 then (if x11 = x12 then (if x12 = 0 then ((cutplaneref03_Value.f k x0 x1).bind fun bt644 => ((cutplaneref02_Same.f k x636000 x636001 x636002 bt644.1 bt644.2.1 bt644.2.2).bind fun t649 => (if t649 = true then ((cutplaneref03_Unit.f x0 x1).bind fun bt650 => ((cutplaneref02_Same.f k x643000 x643001 x643002 bt650.1 bt650.2.1 bt650.2.2).bind fun t655 => (if t655 = true then (cutplanelaw03_WordValues.j2 k x0 x627000 x627001 x627002) else (none)))) else (none)))) else ((cutplaneref02_Same.f k x636000 x636001 x636002 false ([] : List Int) 0).bind fun t656 => (if t656 = true then ((cutplaneref02_Same.f k x643000 x643001 x643002 false ([] : List Int) 0).bind fun t657 => (if t657 = true then (cutplanelaw03_WordValues.j2 k x0 x627000 x627001 x627002) else (none))) else (none)))) else (none)) else (none)
def cutplanelaw03_WordValues.j2 : Nat → Int → Bool → List Int → Int → Option (Bool)
 | 0, _, _, _, _ => none
 | k + 1, x0, x627000, x627001, x627002 => (word_Of.f k x0 x627000 x627001 x627002).bind fun bt658 => ((cutplaneref03_Is.f x0).bind fun t660 => (if t660 = true then ((cutplaneref02_May.f x627000 x627001 x627002).bind fun t663 => (if t663 = true then ((cutplaneref03_Of.f k x0 x627000 x627001 x627002).bind fun bt666 => (if bt666.2 = true then ((cutplanelaw03_is.f bt658.1 bt658.2 bt666.1 0).bind fun t668 => (if t668 = true then ((cutplanelaw03_known.f k).bind fun t669 => (some t669)) else (none))) else ((cutplanelaw03_is.f bt658.1 bt658.2 0 7).bind fun t670 => (if t670 = true then ((cutplanelaw03_known.f k).bind fun t671 => (some t671)) else (none))))) else ((cutplanelaw03_is.f bt658.1 bt658.2 0 2).bind fun t664 => (if t664 = true then ((cutplanelaw03_known.f k).bind fun t665 => (some t665)) else (none))))) else ((cutplanelaw03_is.f bt658.1 bt658.2 0 4).bind fun t661 => (if t661 = true then ((cutplanelaw03_known.f k).bind fun t662 => (some t662)) else (none)))))
end
def cutplanelaw03_WordValues.f (k : Nat) (a0 : Int) (a1 : Int) (a2_0 : Bool) (l2_1 : List Int) (a2_2 : Int) : Option (Bool) := if (l2_1.length : Int) > 4100 then ((cutplanelaw03_known.f k).bind fun t627 => (some t627)) else ((cutplaneref03_Good.f a0 a1).bind fun t628 => ((word_Value.f k a0 a1).bind fun bt629 => ((word_Unit.f k a0 a1).bind fun bt636 => (if t628 = 0 then ((cutplaneref03_Finite.f k a0 a1).bind fun t643 => (if t643 = true then (cutplanelaw03_WordValues.j0 k a0 a1 bt629.2.2.2 bt636.2.2.2 t628 false a2_0 l2_1 a2_2 bt629.1 bt629.2.1 bt629.2.2.1 bt636.1 bt636.2.1 bt636.2.2.1) else (cutplanelaw03_WordValues.j0 k a0 a1 bt629.2.2.2 bt636.2.2.2 t628 true a2_0 l2_1 a2_2 bt629.1 bt629.2.1 bt629.2.2.1 bt636.1 bt636.2.1 bt636.2.2.1))) else (cutplanelaw03_WordValues.j0 k a0 a1 bt629.2.2.2 bt636.2.2.2 t628 false a2_0 l2_1 a2_2 bt629.1 bt629.2.1 bt629.2.2.1 bt636.1 bt636.2.1 bt636.2.2.1)))))
def cutplanelaw03_WordValues.T14 : Bool × List (List Nat × List Nat) := (true, [([], []), ([], []), ([], []), ([1, 2], [1, 2]), ([0, 3, 3], [0, 3]), ([4], [4]), ([5, 4], [5]), ([6], [6]), ([6], [6]), ([6], [6]), ([8, 9, 6, 6], [6, 8, 9]), ([7, 10, 10, 6], [6, 7, 10]), ([11, 6], [6, 11]), ([6, 12], [6, 12])])
def cutplanelaw03_WordValues.B14 : List Nat := [0, 0, 0, 6, 15, 31, 63, 127, 127, 127, 895, 2047, 4095, 8191]
theorem cutplanelaw03_WordValues.tab14 : rtab .any (opsOf Tryd.f4 14) = cutplanelaw03_WordValues.T14 := by kernel_rfl
theorem cutplanelaw03_WordValues.bits14 : waitsOk cutplanelaw03_WordValues.T14.2 cutplanelaw03_WordValues.B14 = true := by kernel_rfl
set_option maxHeartbeats 2000000 in
set_option maxRecDepth 100000 in
theorem cutplanelaw03_WordValues.calls (k : Nat) (a0 : Int) (a1 : Int) (a2_0 : Bool) (A2_1 : Option Addr) (c2_1 : Nat) (l2_1 : List Int) (a2_2 : Int) (r : Bool) (w : World) (hr2_1 : Kd.C (Kd.int .u32) w A2_1 l2_1.length l2_1) (hc2_1 : l2_1.length ≤ c2_1) (h : cutplanelaw03_WordValues.f k a0 a1 a2_0 l2_1 a2_2 = some r) (HT : Aside0 (TabT w)) :
  Calls Tryd.prog 4 #[.int .u8 a0, .int .u64 a1, .agg #[.bool a2_0, .slice A2_1 l2_1.length c2_1, .int .i64 a2_2]] w fun e w' => e = .returned (.bool r) ∧ Below w.heap.size w w' := by
 have hu26 := Tryd.underlying26
 have HR2_1 := A0_ hr2_1
 have HC2_1 := A0_ hc2_1
 clear hr2_1 hc2_1
 have HB := A0_ (Below.refl w.heap.size w)
 have H : (if (l2_1.length : Int) > 4100 then ((cutplanelaw03_known.f k).bind fun t627 => (some t627)) else ((cutplaneref03_Good.f a0 a1).bind fun t628 => ((word_Value.f k a0 a1).bind fun bt629 => ((word_Unit.f k a0 a1).bind fun bt636 => (if t628 = 0 then ((cutplaneref03_Finite.f k a0 a1).bind fun t643 => (if t643 = true then (cutplanelaw03_WordValues.j0 k a0 a1 bt629.2.2.2 bt636.2.2.2 t628 false a2_0 l2_1 a2_2 bt629.1 bt629.2.1 bt629.2.2.1 bt636.1 bt636.2.1 bt636.2.2.1) else (cutplanelaw03_WordValues.j0 k a0 a1 bt629.2.2.2 bt636.2.2.2 t628 true a2_0 l2_1 a2_2 bt629.1 bt629.2.1 bt629.2.2.1 bt636.1 bt636.2.1 bt636.2.2.1))) else (cutplanelaw03_WordValues.j0 k a0 a1 bt629.2.2.2 bt636.2.2.2 t628 false a2_0 l2_1 a2_2 bt629.1 bt629.2.1 bt629.2.2.1 bt636.1 bt636.2.1 bt636.2.2.1)))))) = some r := h
 clear h
 by_cases c4 : (l2_1.length : Int) > 4100
 ·rw [if_pos c4] at H
  have c4b0 : decide (4100 < (l2_1.length : Int)) = true := decide_eq_true c4
  have c4b1 : decide (4100 < l2_1.length) = true := decide_eq_true (by omega)
  clear c4
  replace H := Option.bind_eq_some_iff.mp H
  obtain ⟨t627, A50, H⟩ := H
  replace H : (some t627) = some r := H
  have A5 := A0_ A50
  clear A50
  obtain rfl := Option.some.inj H
  go_enter Tryd.func4, Tryd.ntmps4
  go_wp2_with (first | ((with_reducible refine gate_dst (N := 5) rfl ?_); refine box_event ?hg (N := 5) ?hd (cs := #[.bool a2_0, .slice A2_1 l2_1.length c2_1, .int .i64 a2_2]) (t := 26) ?hr ?_; (case hd => rfl); (case hg => rfl); (case hr => first | (go_simp; done) | (go_simp; rfl)); intro gb626 hg w6 hbox hb; have n0_ := A0_ (below_step (qm_ HB.out) hb); have n1_ := A0_ (hbox); have n2_ := A0_ ((by rw [hg]; exact (below_size (qm_ HB.out)) : w.heap.size ≤ gb626)); have n3_ := A0_ ((by rw [hg]; exact (below_size (qm_ HB.out)) : w.heap.size ≤ gb626)); clear HB; have HB := n0_; have BK626 := n1_; have GW626 := n2_; have GE626 := n3_; clear n0_ n1_ n2_ n3_ hb hbox hg; have hcz7 := bc3_ BK626.out; have hfz7 := bf3_ BK626.out) | ((with_reducible refine gate_callee (f := 8) rfl ?_); refine goesL_ (some 21) rfl rfl Tryd.func8 (by kernel_rfl) rfl #[] rfl (by (try simp only [List.map_toArray, List.map_cons, List.map_nil]); first | done | rfl | (simp only [List.length_drop, List.length_take]; rfl)) ?_; (with_reducible refine (cutplanelaw03_known.calls k  t627 _ A5.out).mono ?_); rintro e w8 ⟨rfl, hb⟩; refine ⟨_, rfl, ?_⟩; have n0_ := A0_ (blk_below (bm_ BK626.out) hb); have n1_ := A0_ (below_step (by repeat (first | (with_reducible first | exact qm_ HB.out | apply qA_ | apply qN_ | apply qD_ | refine below_set ?_ GE626.out) | exact HB.out)) hb); clear BK626 HB; have BK626 := n0_; have HB := n1_; clear n0_ n1_; (try clear hb)))
  go_ret
  exact ⟨by first | rfl | (simp [errW_none, errW_some] <;> rfl) | (simp [*, errW_none, errW_some] <;> rfl), by repeat (first | (with_reducible first | exact qm_ HB.out | apply qA_ | apply qN_ | apply qD_ | refine below_set ?_ GE626.out) | exact HB.out)⟩
 ·rw [if_neg c4] at H
  have c4b0 : decide (4100 < (l2_1.length : Int)) = false := decide_eq_false c4
  have c4b1 : decide (4100 < l2_1.length) = false := decide_eq_false (by omega)
  clear c4
  replace H := Option.bind_eq_some_iff.mp H
  obtain ⟨t628, A90, H⟩ := H
  replace H : ((word_Value.f k a0 a1).bind fun bt629 => ((word_Unit.f k a0 a1).bind fun bt636 => (if t628 = 0 then ((cutplaneref03_Finite.f k a0 a1).bind fun t643 => (if t643 = true then (cutplanelaw03_WordValues.j0 k a0 a1 bt629.2.2.2 bt636.2.2.2 t628 false a2_0 l2_1 a2_2 bt629.1 bt629.2.1 bt629.2.2.1 bt636.1 bt636.2.1 bt636.2.2.1) else (cutplanelaw03_WordValues.j0 k a0 a1 bt629.2.2.2 bt636.2.2.2 t628 true a2_0 l2_1 a2_2 bt629.1 bt629.2.1 bt629.2.2.1 bt636.1 bt636.2.1 bt636.2.2.1))) else (cutplanelaw03_WordValues.j0 k a0 a1 bt629.2.2.2 bt636.2.2.2 t628 false a2_0 l2_1 a2_2 bt629.1 bt629.2.1 bt629.2.2.1 bt636.1 bt636.2.1 bt636.2.2.1)))) = some r := H
  have A9 := A0_ A90
  clear A90
  replace H := Option.bind_eq_some_iff.mp H
  obtain ⟨⟨t629, t630, t633, t634⟩, A100, H⟩ := H
  replace H : ((word_Unit.f k a0 a1).bind fun bt636 => (if t628 = 0 then ((cutplaneref03_Finite.f k a0 a1).bind fun t643 => (if t643 = true then (cutplanelaw03_WordValues.j0 k a0 a1 t634 bt636.2.2.2 t628 false a2_0 l2_1 a2_2 t629 t630 t633 bt636.1 bt636.2.1 bt636.2.2.1) else (cutplanelaw03_WordValues.j0 k a0 a1 t634 bt636.2.2.2 t628 true a2_0 l2_1 a2_2 t629 t630 t633 bt636.1 bt636.2.1 bt636.2.2.1))) else (cutplanelaw03_WordValues.j0 k a0 a1 t634 bt636.2.2.2 t628 false a2_0 l2_1 a2_2 t629 t630 t633 bt636.1 bt636.2.1 bt636.2.2.1))) = some r := H
  have A10 := A0_ A100
  clear A100
  replace H := Option.bind_eq_some_iff.mp H
  obtain ⟨⟨t636, t637, t640, t641⟩, A110, H⟩ := H
  replace H : (if t628 = 0 then ((cutplaneref03_Finite.f k a0 a1).bind fun t643 => (if t643 = true then (cutplanelaw03_WordValues.j0 k a0 a1 t634 t641 t628 false a2_0 l2_1 a2_2 t629 t630 t633 t636 t637 t640) else (cutplanelaw03_WordValues.j0 k a0 a1 t634 t641 t628 true a2_0 l2_1 a2_2 t629 t630 t633 t636 t637 t640))) else (cutplanelaw03_WordValues.j0 k a0 a1 t634 t641 t628 false a2_0 l2_1 a2_2 t629 t630 t633 t636 t637 t640)) = some r := H
  have A11 := A0_ A110
  clear A110
  have HC12 := A0_ H
  clear H
  go_enter Tryd.func4, Tryd.ntmps4
  go_upto_region 7 with (first | ((with_reducible refine gate_dst (N := 5) rfl ?_); refine box_event ?hg (N := 5) ?hd (cs := #[.bool a2_0, .slice A2_1 l2_1.length c2_1, .int .i64 a2_2]) (t := 26) ?hr ?_; (case hd => rfl); (case hg => rfl); (case hr => first | (go_simp; done) | (go_simp; rfl)); intro gb626 hg w13 hbox hb; have n0_ := A0_ (below_step (qm_ HB.out) hb); have n1_ := A0_ (hbox); have n2_ := A0_ ((by rw [hg]; exact (below_size (qm_ HB.out)) : w.heap.size ≤ gb626)); have n3_ := A0_ ((by rw [hg]; exact (below_size (qm_ HB.out)) : w.heap.size ≤ gb626)); clear HB; have HB := n0_; have BK626 := n1_; have GW626 := n2_; have GE626 := n3_; clear n0_ n1_ n2_ n3_ hb hbox hg; have hcz14 := bc3_ BK626.out; have hfz14 := bf3_ BK626.out) | ((with_reducible refine gate_callee (f := 14) rfl ?_); refine goesL_ (some 24) rfl rfl Tryd.func14 (by kernel_rfl) rfl #[.int .u8 a0, .int .u64 a1] rfl (by (try simp only [List.map_toArray, List.map_cons, List.map_nil]); first | done | rfl | (simp only [List.length_drop, List.length_take]; rfl)) ?_; (with_reducible refine (cutplaneref03_Good.calls a0 a1 t628 _ A9.out).mono ?_); rintro e w' ⟨rfl, ⟨nd, rfl⟩⟩; refine ⟨_, rfl, ?_⟩; (try (rw [drewN_self w13]; generalize hq_ : World.drewN w13 _ = w13; have n0_ : Aside0 (w13.heap[gb626]? = some (.cells #[.bool a2_0, .slice A2_1 l2_1.length c2_1, .int .i64 a2_2] 26 (0, 0))) := ⟨by rw [← hq_]; exact (bm_ BK626.out)⟩; have n1_ : Aside0 (Below w.heap.size w w13) := ⟨by rw [← hq_]; exact (by repeat (first | (with_reducible first | exact qm_ HB.out | apply qA_ | apply qN_ | apply qD_ | refine below_set ?_ GE626.out) | exact HB.out))⟩; clear BK626 HB hq_; have BK626 := n0_; have HB := n1_; clear n0_ n1_))) | ((with_reducible refine gate_callee (f := 6) rfl ?_); refine goesL_ (some 28) rfl rfl Tryd.func6 (by kernel_rfl) rfl #[.int .u8 a0, .int .u64 a1] rfl (by (try simp only [List.map_toArray, List.map_cons, List.map_nil]); first | done | rfl | (simp only [List.length_drop, List.length_take]; rfl)) ?_; (refine (word_Value.calls k a0 a1 t629 t630 t633 t634 _ A10.out (A0_ (tabt_below HT.out (by repeat (first | (with_reducible first | exact qm_ HB.out | apply qA_ | apply qN_ | apply qD_ | refine below_set ?_ GE626.out) | exact HB.out))))).mono ?_); rintro e w15 ⟨v631, rfl, ho0, hb⟩; refine ⟨_, rfl, ?_⟩; have n0_ := A0_ (Kd.V_lower (Kd.V_mono (ok' := fun k_ => k_ ≠ gb626) ho0 (fun k_ hk_ => (Kd.freshB (bm_ BK626.out) k_ hk_))) (below_size (by repeat (first | (with_reducible first | exact qm_ HB.out | apply qA_ | apply qN_ | apply qD_ | refine below_set ?_ GE626.out) | exact HB.out)))); have n1_ := A0_ (blk_below (bm_ BK626.out) hb); have n2_ := A0_ (below_step (by repeat (first | (with_reducible first | exact qm_ HB.out | apply qA_ | apply qN_ | apply qD_ | refine below_set ?_ GE626.out) | exact HB.out)) hb); clear BK626 HB; have HO632 := n0_; have BK626 := n1_; have HB := n2_; clear n0_ n1_ n2_; (try clear hb); (try clear ho0)) | ((with_reducible refine gate_dst (N := 8) rfl ?_); refine box_event ?hg (N := 8) ?hd (cs := #[.bool false, .slice none 0 0, .int .i64 0]) (t := 26) ?hr ?_; (case hd => rfl); (case hg => rfl); (case hr => first | (go_simp; done) | (go_simp; rfl)); intro gb635 hg w16 hbox hb; have n0_ := A0_ (Kd.V_below (Kd.V_elderB (by exact vm_ HO632.out) gb635 (Nat.le_of_eq hg.symm)) hb); have n1_ := A0_ (blk_below (bm_ BK626.out) hb); have n2_ := A0_ (below_step (by repeat (first | (with_reducible first | exact qm_ HB.out | apply qA_ | apply qN_ | apply qD_ | refine below_set ?_ GE626.out) | exact HB.out)) hb); have n3_ := A0_ (hbox); have n4_ := A0_ ((by rw [hg]; exact (below_size (by repeat (first | (with_reducible first | exact qm_ HB.out | apply qA_ | apply qN_ | apply qD_ | refine below_set ?_ GE626.out) | exact HB.out))) : w.heap.size ≤ gb635)); have n5_ := A0_ ((by rw [hg]; exact (below_size (by repeat (first | (with_reducible first | exact qm_ HB.out | apply qA_ | apply qN_ | apply qD_ | refine below_set ?_ GE626.out) | exact HB.out))) : w.heap.size ≤ gb635)); have n6_ := A0_ ((by rw [hg]; exact Nat.ne_of_lt (blk_lt (bm_ BK626.out)) : gb626 ≠ gb635)); have n7_ := A0_ ((by rw [hg]; exact Nat.ne_of_gt (blk_lt (bm_ BK626.out)) : gb635 ≠ gb626)); clear HO632 BK626 HB; have HO632 := n0_; have BK626 := n1_; have HB := n2_; have BK635 := n3_; have GW635 := n4_; have GE635 := n5_; have NB626_635 := n6_; have NB635_626 := n7_; clear n0_ n1_ n2_ n3_ n4_ n5_ n6_ n7_ hb hbox hg; have hnb17 := NB635_626.out; have hnc17 := NB626_635.out; have hcz18 := bc3_ BK635.out; have hfz18 := bf3_ BK635.out; obtain ⟨Ao19, co19, eo19⟩ := Kd.V_slice HO632.out; subst eo19) | ((with_reducible refine gate_callee (f := 10) rfl ?_); refine goesL_ (some 34) rfl rfl Tryd.func10 (by kernel_rfl) rfl #[.int .u8 a0, .int .u64 a1] rfl (by (try simp only [List.map_toArray, List.map_cons, List.map_nil]); first | done | rfl | (simp only [List.length_drop, List.length_take]; rfl)) ?_; (refine (word_Unit.calls k a0 a1 t636 t637 t640 t641 _ A11.out (A0_ (tabt_below HT.out (by repeat (first | (with_reducible first | exact qm_ HB.out | apply qA_ | apply qN_ | apply qD_ | refine below_set ?_ GE626.out | refine below_set ?_ GE635.out) | exact HB.out))))).mono ?_); rintro e w20 ⟨v638, rfl, ho0, hb⟩; refine ⟨_, rfl, ?_⟩; have n0_ := A0_ (Kd.V_below (by (with_reducible repeat (first | apply Kd.V_alloc | apply Kd.V_drewN | apply Kd.V_drew)); exact (Kd.V_mono (Kd.V_far (p := ⟨gb635, 2, none⟩) (Kd.V_far (p := ⟨gb635, 1, none⟩) (Kd.V_far (p := ⟨gb635, 0, none⟩) (Kd.V_mono HO632.out (fun k_ hk => (⟨hk, hk.2⟩ : _ ∧ k_ ≠ gb635))) (fun _ hk => hk.2) (.bool t629)) (fun _ hk => hk.2) (.slice Ao19 t630.length co19)) (fun _ hk => hk.2) (.int .i64 t633)) (fun _ h_ => h_.1))) hb); have n1_ := A0_ (Kd.V_lower (Kd.V_mono (ok' := fun k_ => k_ ≠ gb626 ∧ k_ ≠ gb635) ho0 (fun k_ hk_ => ⟨(Kd.freshB (g := gb626) (o := .cells #[.bool a2_0, .slice A2_1 l2_1.length c2_1, .int .i64 a2_2] 26 (0, 0)) (by (with_reducible repeat first | apply bN_ | apply bD_ | apply bA_); refine blk_far ?_ NB626_635.out _; (with_reducible repeat first | apply bN_ | apply bD_ | apply bA_); refine blk_far ?_ NB626_635.out _; (with_reducible repeat first | apply bN_ | apply bD_ | apply bA_); refine blk_far ?_ NB626_635.out _; (with_reducible repeat first | apply bN_ | apply bD_ | apply bA_); exact BK626.out) k_ hk_), (Kd.freshB (g := gb635) (o := .cells #[.bool t629, .slice Ao19 t630.length co19, .int .i64 t633] 26 (0, 0)) (by (with_reducible repeat first | apply bN_ | apply bD_ | apply bA_); refine blk_put (cs := #[.bool t629, .slice Ao19 t630.length co19, .int .i64 0]) ?_ 2 _ rfl; (with_reducible repeat first | apply bN_ | apply bD_ | apply bA_); refine blk_put (cs := #[.bool t629, .slice none 0 0, .int .i64 0]) ?_ 1 _ rfl; (with_reducible repeat first | apply bN_ | apply bD_ | apply bA_); refine blk_put (cs := #[.bool false, .slice none 0 0, .int .i64 0]) ?_ 0 _ rfl; (with_reducible repeat first | apply bN_ | apply bD_ | apply bA_); exact BK635.out) k_ hk_)⟩)) (below_size (by repeat (first | (with_reducible first | exact qm_ HB.out | apply qA_ | apply qN_ | apply qD_ | refine below_set ?_ GE626.out | refine below_set ?_ GE635.out) | exact HB.out)))); have n2_ := A0_ (blk_below (g := gb626) (o := .cells #[.bool a2_0, .slice A2_1 l2_1.length c2_1, .int .i64 a2_2] 26 (0, 0)) (by (with_reducible repeat first | apply bN_ | apply bD_ | apply bA_); refine blk_far ?_ NB626_635.out _; (with_reducible repeat first | apply bN_ | apply bD_ | apply bA_); refine blk_far ?_ NB626_635.out _; (with_reducible repeat first | apply bN_ | apply bD_ | apply bA_); refine blk_far ?_ NB626_635.out _; (with_reducible repeat first | apply bN_ | apply bD_ | apply bA_); exact BK626.out) hb); have n3_ := A0_ (blk_below (g := gb635) (o := .cells #[.bool t629, .slice Ao19 t630.length co19, .int .i64 t633] 26 (0, 0)) (by (with_reducible repeat first | apply bN_ | apply bD_ | apply bA_); refine blk_put (cs := #[.bool t629, .slice Ao19 t630.length co19, .int .i64 0]) ?_ 2 _ rfl; (with_reducible repeat first | apply bN_ | apply bD_ | apply bA_); refine blk_put (cs := #[.bool t629, .slice none 0 0, .int .i64 0]) ?_ 1 _ rfl; (with_reducible repeat first | apply bN_ | apply bD_ | apply bA_); refine blk_put (cs := #[.bool false, .slice none 0 0, .int .i64 0]) ?_ 0 _ rfl; (with_reducible repeat first | apply bN_ | apply bD_ | apply bA_); exact BK635.out) hb); have n4_ := A0_ (below_step (by repeat (first | (with_reducible first | exact qm_ HB.out | apply qA_ | apply qN_ | apply qD_ | refine below_set ?_ GE626.out | refine below_set ?_ GE635.out) | exact HB.out)) hb); clear HO632 BK626 BK635 HB; have HO632 := n0_; have HO639 := n1_; have BK626 := n2_; have BK635 := n3_; have HB := n4_; clear n0_ n1_ n2_ n3_ n4_; (try clear hb); (try clear ho0)) | ((with_reducible refine gate_dst (N := 10) rfl ?_); refine box_event ?hg (N := 10) ?hd (cs := #[.bool false, .slice none 0 0, .int .i64 0]) (t := 26) ?hr ?_; (case hd => rfl); (case hg => rfl); (case hr => first | (go_simp; done) | (go_simp; rfl)); intro gb642 hg w21 hbox hb; have n0_ := A0_ (Kd.V_below (Kd.V_elderB (by exact vm_ HO632.out) gb642 (Nat.le_of_eq hg.symm)) hb); have n1_ := A0_ (Kd.V_below (Kd.V_elderB (by exact vm_ HO639.out) gb642 (Nat.le_of_eq hg.symm)) hb); have n2_ := A0_ (blk_below (bm_ BK626.out) hb); have n3_ := A0_ (blk_below (bm_ BK635.out) hb); have n4_ := A0_ (below_step (by repeat (first | (with_reducible first | exact qm_ HB.out | apply qA_ | apply qN_ | apply qD_ | refine below_set ?_ GE626.out | refine below_set ?_ GE635.out) | exact HB.out)) hb); have n5_ := A0_ (hbox); have n6_ := A0_ ((by rw [hg]; exact (below_size (by repeat (first | (with_reducible first | exact qm_ HB.out | apply qA_ | apply qN_ | apply qD_ | refine below_set ?_ GE626.out | refine below_set ?_ GE635.out) | exact HB.out))) : w.heap.size ≤ gb642)); have n7_ := A0_ ((by rw [hg]; exact (below_size (by repeat (first | (with_reducible first | exact qm_ HB.out | apply qA_ | apply qN_ | apply qD_ | refine below_set ?_ GE626.out | refine below_set ?_ GE635.out) | exact HB.out))) : w.heap.size ≤ gb642)); have n8_ := A0_ ((by rw [hg]; exact Nat.ne_of_lt (blk_lt (bm_ BK626.out)) : gb626 ≠ gb642)); have n9_ := A0_ ((by rw [hg]; exact Nat.ne_of_gt (blk_lt (bm_ BK626.out)) : gb642 ≠ gb626)); have n10_ := A0_ ((by rw [hg]; exact Nat.ne_of_lt (blk_lt (bm_ BK635.out)) : gb635 ≠ gb642)); have n11_ := A0_ ((by rw [hg]; exact Nat.ne_of_gt (blk_lt (bm_ BK635.out)) : gb642 ≠ gb635)); clear HO632 HO639 BK626 BK635 HB; have HO632 := n0_; have HO639 := n1_; have BK626 := n2_; have BK635 := n3_; have HB := n4_; have BK642 := n5_; have GW642 := n6_; have GE642 := n7_; have NB626_642 := n8_; have NB642_626 := n9_; have NB635_642 := n10_; have NB642_635 := n11_; clear n0_ n1_ n2_ n3_ n4_ n5_ n6_ n7_ n8_ n9_ n10_ n11_ hb hbox hg; have hnb22 := NB642_626.out; have hnc22 := NB626_642.out; have hnb23 := NB642_635.out; have hnc23 := NB635_642.out; have hcz24 := bc3_ BK642.out; have hfz24 := bf3_ BK642.out; obtain ⟨Ao25, co25, eo25⟩ := Kd.V_slice HO639.out; subst eo25))
  (try simp only [Act.put, sp_])
  go_cut [45] (fun v45 wc => ∃ (kq : Nat) (x45_11 : Bool), v45 = .bool x45_11 ∧ Aside0 (cutplanelaw03_WordValues.j0 kq a0 a1 t634 t641 t628 x45_11 a2_0 l2_1 a2_2 t629 t630 t633 t636 t637 t640 = some r) ∧ Aside0 (kq ≤ k) ∧ Aside0 (Kd.V (Kd.int .u32) 78 wc w.heap.size (fun k_ => k_ ≠ gb626 ∧ k_ ≠ gb635 ∧ k_ ≠ gb642) (.slice Ao19 t630.length co19) t630) ∧ Aside0 (Kd.V (Kd.int .u32) 78 wc w.heap.size (fun k_ => k_ ≠ gb626 ∧ k_ ≠ gb635 ∧ k_ ≠ gb642) (.slice Ao25 t637.length co25) t637) ∧ Aside0 (wc.heap[gb626]? = some (.cells #[.bool a2_0, (.slice A2_1 l2_1.length c2_1), .int .i64 a2_2] 26 (0, 0))) ∧ Aside0 (wc.heap[gb635]? = some (.cells #[.bool t629, (.slice Ao19 t630.length co19), .int .i64 t633] 26 (0, 0))) ∧ Aside0 (wc.heap[gb642]? = some (.cells #[.bool t636, (.slice Ao25 t637.length co25), .int .i64 t640] 26 (0, 0))) ∧ Aside0 (Below w.heap.size w wc))
  case first =>
   have H := HC12.out
   clear HC12
   by_cases c26 : t628 = 0
   ·rw [if_pos c26] at H
    have c26b0 : (t628 == 0) = true := beq_iff_eq.mpr c26
    have c26b1 : (t628 != 0) = false := bne_eq_false_iff_eq.mpr c26
    clear c26
    (first | rw [c26b0] | (simp only [i64_w, i32_w]; rw [c26b0]) | skip)
    replace H := Option.bind_eq_some_iff.mp H
    obtain ⟨t643, A270, H⟩ := H
    replace H : (if t643 = true then (cutplanelaw03_WordValues.j0 k a0 a1 t634 t641 t628 false a2_0 l2_1 a2_2 t629 t630 t633 t636 t637 t640) else (cutplanelaw03_WordValues.j0 k a0 a1 t634 t641 t628 true a2_0 l2_1 a2_2 t629 t630 t633 t636 t637 t640)) = some r := H
    have A27 := A0_ A270
    clear A270
    by_cases c28 : t643 = true
    ·subst c28
     have H1 : (cutplanelaw03_WordValues.j0 k a0 a1 t634 t641 t628 false a2_0 l2_1 a2_2 t629 t630 t633 t636 t637 t640) = some r := by rw [if_pos rfl] at H; exact H
     clear H
     have H := H1
     clear H1
     have H' := A0_ H
     clear H
     go_wp2_with (first | (go_at_call 15; (with_reducible refine (cutplaneref03_Finite.calls k a0 a1 true _ A27.out).mono ?_); rintro e w29 ⟨rfl, hb⟩; have n0_ := A0_ (Kd.V_below (by (with_reducible repeat (first | apply Kd.V_alloc | apply Kd.V_drewN | apply Kd.V_drew)); exact (Kd.V_mono (Kd.V_far (p := ⟨gb642, 2, none⟩) (Kd.V_far (p := ⟨gb642, 1, none⟩) (Kd.V_far (p := ⟨gb642, 0, none⟩) (Kd.V_mono HO632.out (fun k_ hk => (⟨hk, hk.2⟩ : _ ∧ k_ ≠ gb642))) (fun _ hk => hk.2) (.bool t636)) (fun _ hk => hk.2) (.slice Ao25 t637.length co25)) (fun _ hk => hk.2) (.int .i64 t640)) (fun _ h_ => h_.1))) hb); have n1_ := A0_ (Kd.V_below (by (with_reducible repeat (first | apply Kd.V_alloc | apply Kd.V_drewN | apply Kd.V_drew)); exact (Kd.V_mono (Kd.V_far (p := ⟨gb642, 2, none⟩) (Kd.V_far (p := ⟨gb642, 1, none⟩) (Kd.V_far (p := ⟨gb642, 0, none⟩) (Kd.V_mono HO639.out (fun k_ hk => (⟨hk, hk.2⟩ : _ ∧ k_ ≠ gb642))) (fun _ hk => hk.2) (.bool t636)) (fun _ hk => hk.2) (.slice Ao25 t637.length co25)) (fun _ hk => hk.2) (.int .i64 t640)) (fun _ h_ => h_.1))) hb); have n2_ := A0_ (blk_below (g := gb626) (o := .cells #[.bool a2_0, .slice A2_1 l2_1.length c2_1, .int .i64 a2_2] 26 (0, 0)) (by (with_reducible repeat first | apply bN_ | apply bD_ | apply bA_); refine blk_far ?_ NB626_642.out _; (with_reducible repeat first | apply bN_ | apply bD_ | apply bA_); refine blk_far ?_ NB626_642.out _; (with_reducible repeat first | apply bN_ | apply bD_ | apply bA_); refine blk_far ?_ NB626_642.out _; (with_reducible repeat first | apply bN_ | apply bD_ | apply bA_); exact BK626.out) hb); have n3_ := A0_ (blk_below (g := gb635) (o := .cells #[.bool t629, .slice Ao19 t630.length co19, .int .i64 t633] 26 (0, 0)) (by (with_reducible repeat first | apply bN_ | apply bD_ | apply bA_); refine blk_far ?_ NB635_642.out _; (with_reducible repeat first | apply bN_ | apply bD_ | apply bA_); refine blk_far ?_ NB635_642.out _; (with_reducible repeat first | apply bN_ | apply bD_ | apply bA_); refine blk_far ?_ NB635_642.out _; (with_reducible repeat first | apply bN_ | apply bD_ | apply bA_); exact BK635.out) hb); have n4_ := A0_ (blk_below (g := gb642) (o := .cells #[.bool t636, .slice Ao25 t637.length co25, .int .i64 t640] 26 (0, 0)) (by (with_reducible repeat first | apply bN_ | apply bD_ | apply bA_); refine blk_put (cs := #[.bool t636, .slice Ao25 t637.length co25, .int .i64 0]) ?_ 2 _ rfl; (with_reducible repeat first | apply bN_ | apply bD_ | apply bA_); refine blk_put (cs := #[.bool t636, .slice none 0 0, .int .i64 0]) ?_ 1 _ rfl; (with_reducible repeat first | apply bN_ | apply bD_ | apply bA_); refine blk_put (cs := #[.bool false, .slice none 0 0, .int .i64 0]) ?_ 0 _ rfl; (with_reducible repeat first | apply bN_ | apply bD_ | apply bA_); exact BK642.out) hb); have n5_ := A0_ (below_step (by repeat (first | (with_reducible first | exact qm_ HB.out | apply qA_ | apply qN_ | apply qD_ | refine below_set ?_ GE626.out | refine below_set ?_ GE635.out | refine below_set ?_ GE642.out) | exact HB.out)) hb); clear HO632 HO639 BK626 BK635 BK642 HB; have HO632 := n0_; have HO639 := n1_; have BK626 := n2_; have BK635 := n3_; have BK642 := n4_; have HB := n5_; clear n0_ n1_ n2_ n3_ n4_ n5_; (try clear hb)))
     go_meet
     case rel => exact ⟨_, (false), (by first | rfl | (simp; done) | (simp [*]; done)), H', ⟨by first | omega | exact Nat.le_refl _⟩, ⟨by (with_reducible repeat (first | apply Kd.V_alloc | apply Kd.V_drewN | apply Kd.V_drew)); exact Kd.V_mono HO632.out (fun _ hk => by first | exact ⟨hk.1.1, ⟨hk.1.2, hk.2⟩⟩ | (refine ⟨?_, ⟨?_, ?_⟩⟩ <;> first | exact hk.1 | exact hk.2 | exact hk.1.1 | exact hk.1.2 | exact hk.2.1 | exact hk.2.2 | exact hk.1.1.1 | exact hk.1.1.2 | exact hk.1.2.1 | exact hk.1.2.2 | exact hk.2.1.1 | exact hk.2.1.2 | exact hk.2.2.1 | exact hk.2.2.2 | exact hk.1.1.1.1 | exact hk.1.1.1.2 | exact hk.1.1.2.1 | exact hk.1.1.2.2 | exact hk.1.2.1.1 | exact hk.1.2.1.2 | exact hk.1.2.2.1 | exact hk.1.2.2.2 | exact hk.2.1.1.1 | exact hk.2.1.1.2 | exact hk.2.1.2.1 | exact hk.2.1.2.2 | exact hk.2.2.1.1 | exact hk.2.2.1.2 | exact hk.2.2.2.1 | exact hk.2.2.2.2 | exact hk.1.1.1.1.1 | exact hk.1.1.1.1.2 | exact hk.1.1.1.1.1.1 | exact hk.1.1.1.1.1.2 | exact hk.1.1.1.1.1.1.1 | exact hk.1.1.1.1.1.1.2 | exact hk.1.1.1.1.1.1.1.1 | exact hk.1.1.1.1.1.1.1.2 | exact hk.1.1.1.1.1.1.1.1.1 | exact hk.1.1.1.1.1.1.1.1.2 | exact hk.1.1.1.1.1.1.1.1.1.1 | exact hk.1.1.1.1.1.1.1.1.1.2 | exact hk.1.1.1.1.1.1.1.1.1.1.1 | exact hk.1.1.1.1.1.1.1.1.1.1.2 | exact hk.1.1.1.1.1.1.1.1.1.1.1.1 | exact hk.1.1.1.1.1.1.1.1.1.1.1.2))⟩, ⟨by (with_reducible repeat (first | apply Kd.V_alloc | apply Kd.V_drewN | apply Kd.V_drew)); exact Kd.V_mono HO639.out (fun _ hk => by first | exact ⟨hk.1.1, ⟨hk.1.2, hk.2⟩⟩ | (refine ⟨?_, ⟨?_, ?_⟩⟩ <;> first | exact hk.1 | exact hk.2 | exact hk.1.1 | exact hk.1.2 | exact hk.2.1 | exact hk.2.2 | exact hk.1.1.1 | exact hk.1.1.2 | exact hk.1.2.1 | exact hk.1.2.2 | exact hk.2.1.1 | exact hk.2.1.2 | exact hk.2.2.1 | exact hk.2.2.2 | exact hk.1.1.1.1 | exact hk.1.1.1.2 | exact hk.1.1.2.1 | exact hk.1.1.2.2 | exact hk.1.2.1.1 | exact hk.1.2.1.2 | exact hk.1.2.2.1 | exact hk.1.2.2.2 | exact hk.2.1.1.1 | exact hk.2.1.1.2 | exact hk.2.1.2.1 | exact hk.2.1.2.2 | exact hk.2.2.1.1 | exact hk.2.2.1.2 | exact hk.2.2.2.1 | exact hk.2.2.2.2 | exact hk.1.1.1.1.1 | exact hk.1.1.1.1.2 | exact hk.1.1.1.1.1.1 | exact hk.1.1.1.1.1.2 | exact hk.1.1.1.1.1.1.1 | exact hk.1.1.1.1.1.1.2 | exact hk.1.1.1.1.1.1.1.1 | exact hk.1.1.1.1.1.1.1.2 | exact hk.1.1.1.1.1.1.1.1.1 | exact hk.1.1.1.1.1.1.1.1.2 | exact hk.1.1.1.1.1.1.1.1.1.1 | exact hk.1.1.1.1.1.1.1.1.1.2 | exact hk.1.1.1.1.1.1.1.1.1.1.1 | exact hk.1.1.1.1.1.1.1.1.1.1.2 | exact hk.1.1.1.1.1.1.1.1.1.1.1.1 | exact hk.1.1.1.1.1.1.1.1.1.1.1.2))⟩, ⟨bm_ BK626.out⟩, ⟨bm_ BK635.out⟩, ⟨bm_ BK642.out⟩, ⟨by repeat (first | (with_reducible first | exact qm_ HB.out | apply qA_ | apply qN_ | apply qD_ | refine below_set ?_ GE626.out | refine below_set ?_ GE635.out | refine below_set ?_ GE642.out) | exact HB.out)⟩⟩
    ·replace c28 := Bool.eq_false_iff.mpr c28
     subst c28
     have H1 : (cutplanelaw03_WordValues.j0 k a0 a1 t634 t641 t628 true a2_0 l2_1 a2_2 t629 t630 t633 t636 t637 t640) = some r := by rw [if_neg (show ¬ (false = true) by decide)] at H; exact H
     clear H
     have H := H1
     clear H1
     have H' := A0_ H
     clear H
     go_wp2_with (first | (go_at_call 15; (with_reducible refine (cutplaneref03_Finite.calls k a0 a1 false _ A27.out).mono ?_); rintro e w30 ⟨rfl, hb⟩; have n0_ := A0_ (Kd.V_below (by (with_reducible repeat (first | apply Kd.V_alloc | apply Kd.V_drewN | apply Kd.V_drew)); exact (Kd.V_mono (Kd.V_far (p := ⟨gb642, 2, none⟩) (Kd.V_far (p := ⟨gb642, 1, none⟩) (Kd.V_far (p := ⟨gb642, 0, none⟩) (Kd.V_mono HO632.out (fun k_ hk => (⟨hk, hk.2⟩ : _ ∧ k_ ≠ gb642))) (fun _ hk => hk.2) (.bool t636)) (fun _ hk => hk.2) (.slice Ao25 t637.length co25)) (fun _ hk => hk.2) (.int .i64 t640)) (fun _ h_ => h_.1))) hb); have n1_ := A0_ (Kd.V_below (by (with_reducible repeat (first | apply Kd.V_alloc | apply Kd.V_drewN | apply Kd.V_drew)); exact (Kd.V_mono (Kd.V_far (p := ⟨gb642, 2, none⟩) (Kd.V_far (p := ⟨gb642, 1, none⟩) (Kd.V_far (p := ⟨gb642, 0, none⟩) (Kd.V_mono HO639.out (fun k_ hk => (⟨hk, hk.2⟩ : _ ∧ k_ ≠ gb642))) (fun _ hk => hk.2) (.bool t636)) (fun _ hk => hk.2) (.slice Ao25 t637.length co25)) (fun _ hk => hk.2) (.int .i64 t640)) (fun _ h_ => h_.1))) hb); have n2_ := A0_ (blk_below (g := gb626) (o := .cells #[.bool a2_0, .slice A2_1 l2_1.length c2_1, .int .i64 a2_2] 26 (0, 0)) (by (with_reducible repeat first | apply bN_ | apply bD_ | apply bA_); refine blk_far ?_ NB626_642.out _; (with_reducible repeat first | apply bN_ | apply bD_ | apply bA_); refine blk_far ?_ NB626_642.out _; (with_reducible repeat first | apply bN_ | apply bD_ | apply bA_); refine blk_far ?_ NB626_642.out _; (with_reducible repeat first | apply bN_ | apply bD_ | apply bA_); exact BK626.out) hb); have n3_ := A0_ (blk_below (g := gb635) (o := .cells #[.bool t629, .slice Ao19 t630.length co19, .int .i64 t633] 26 (0, 0)) (by (with_reducible repeat first | apply bN_ | apply bD_ | apply bA_); refine blk_far ?_ NB635_642.out _; (with_reducible repeat first | apply bN_ | apply bD_ | apply bA_); refine blk_far ?_ NB635_642.out _; (with_reducible repeat first | apply bN_ | apply bD_ | apply bA_); refine blk_far ?_ NB635_642.out _; (with_reducible repeat first | apply bN_ | apply bD_ | apply bA_); exact BK635.out) hb); have n4_ := A0_ (blk_below (g := gb642) (o := .cells #[.bool t636, .slice Ao25 t637.length co25, .int .i64 t640] 26 (0, 0)) (by (with_reducible repeat first | apply bN_ | apply bD_ | apply bA_); refine blk_put (cs := #[.bool t636, .slice Ao25 t637.length co25, .int .i64 0]) ?_ 2 _ rfl; (with_reducible repeat first | apply bN_ | apply bD_ | apply bA_); refine blk_put (cs := #[.bool t636, .slice none 0 0, .int .i64 0]) ?_ 1 _ rfl; (with_reducible repeat first | apply bN_ | apply bD_ | apply bA_); refine blk_put (cs := #[.bool false, .slice none 0 0, .int .i64 0]) ?_ 0 _ rfl; (with_reducible repeat first | apply bN_ | apply bD_ | apply bA_); exact BK642.out) hb); have n5_ := A0_ (below_step (by repeat (first | (with_reducible first | exact qm_ HB.out | apply qA_ | apply qN_ | apply qD_ | refine below_set ?_ GE626.out | refine below_set ?_ GE635.out | refine below_set ?_ GE642.out) | exact HB.out)) hb); clear HO632 HO639 BK626 BK635 BK642 HB; have HO632 := n0_; have HO639 := n1_; have BK626 := n2_; have BK635 := n3_; have BK642 := n4_; have HB := n5_; clear n0_ n1_ n2_ n3_ n4_ n5_; (try clear hb)))
     go_meet
     case rel => exact ⟨_, (true), (by first | rfl | (simp; done) | (simp [*]; done)), H', ⟨by first | omega | exact Nat.le_refl _⟩, ⟨by (with_reducible repeat (first | apply Kd.V_alloc | apply Kd.V_drewN | apply Kd.V_drew)); exact Kd.V_mono HO632.out (fun _ hk => by first | exact ⟨hk.1.1, ⟨hk.1.2, hk.2⟩⟩ | (refine ⟨?_, ⟨?_, ?_⟩⟩ <;> first | exact hk.1 | exact hk.2 | exact hk.1.1 | exact hk.1.2 | exact hk.2.1 | exact hk.2.2 | exact hk.1.1.1 | exact hk.1.1.2 | exact hk.1.2.1 | exact hk.1.2.2 | exact hk.2.1.1 | exact hk.2.1.2 | exact hk.2.2.1 | exact hk.2.2.2 | exact hk.1.1.1.1 | exact hk.1.1.1.2 | exact hk.1.1.2.1 | exact hk.1.1.2.2 | exact hk.1.2.1.1 | exact hk.1.2.1.2 | exact hk.1.2.2.1 | exact hk.1.2.2.2 | exact hk.2.1.1.1 | exact hk.2.1.1.2 | exact hk.2.1.2.1 | exact hk.2.1.2.2 | exact hk.2.2.1.1 | exact hk.2.2.1.2 | exact hk.2.2.2.1 | exact hk.2.2.2.2 | exact hk.1.1.1.1.1 | exact hk.1.1.1.1.2 | exact hk.1.1.1.1.1.1 | exact hk.1.1.1.1.1.2 | exact hk.1.1.1.1.1.1.1 | exact hk.1.1.1.1.1.1.2 | exact hk.1.1.1.1.1.1.1.1 | exact hk.1.1.1.1.1.1.1.2 | exact hk.1.1.1.1.1.1.1.1.1 | exact hk.1.1.1.1.1.1.1.1.2 | exact hk.1.1.1.1.1.1.1.1.1.1 | exact hk.1.1.1.1.1.1.1.1.1.2 | exact hk.1.1.1.1.1.1.1.1.1.1.1 | exact hk.1.1.1.1.1.1.1.1.1.1.2 | exact hk.1.1.1.1.1.1.1.1.1.1.1.1 | exact hk.1.1.1.1.1.1.1.1.1.1.1.2))⟩, ⟨by (with_reducible repeat (first | apply Kd.V_alloc | apply Kd.V_drewN | apply Kd.V_drew)); exact Kd.V_mono HO639.out (fun _ hk => by first | exact ⟨hk.1.1, ⟨hk.1.2, hk.2⟩⟩ | (refine ⟨?_, ⟨?_, ?_⟩⟩ <;> first | exact hk.1 | exact hk.2 | exact hk.1.1 | exact hk.1.2 | exact hk.2.1 | exact hk.2.2 | exact hk.1.1.1 | exact hk.1.1.2 | exact hk.1.2.1 | exact hk.1.2.2 | exact hk.2.1.1 | exact hk.2.1.2 | exact hk.2.2.1 | exact hk.2.2.2 | exact hk.1.1.1.1 | exact hk.1.1.1.2 | exact hk.1.1.2.1 | exact hk.1.1.2.2 | exact hk.1.2.1.1 | exact hk.1.2.1.2 | exact hk.1.2.2.1 | exact hk.1.2.2.2 | exact hk.2.1.1.1 | exact hk.2.1.1.2 | exact hk.2.1.2.1 | exact hk.2.1.2.2 | exact hk.2.2.1.1 | exact hk.2.2.1.2 | exact hk.2.2.2.1 | exact hk.2.2.2.2 | exact hk.1.1.1.1.1 | exact hk.1.1.1.1.2 | exact hk.1.1.1.1.1.1 | exact hk.1.1.1.1.1.2 | exact hk.1.1.1.1.1.1.1 | exact hk.1.1.1.1.1.1.2 | exact hk.1.1.1.1.1.1.1.1 | exact hk.1.1.1.1.1.1.1.2 | exact hk.1.1.1.1.1.1.1.1.1 | exact hk.1.1.1.1.1.1.1.1.2 | exact hk.1.1.1.1.1.1.1.1.1.1 | exact hk.1.1.1.1.1.1.1.1.1.2 | exact hk.1.1.1.1.1.1.1.1.1.1.1 | exact hk.1.1.1.1.1.1.1.1.1.1.2 | exact hk.1.1.1.1.1.1.1.1.1.1.1.1 | exact hk.1.1.1.1.1.1.1.1.1.1.1.2))⟩, ⟨bm_ BK626.out⟩, ⟨bm_ BK635.out⟩, ⟨bm_ BK642.out⟩, ⟨by repeat (first | (with_reducible first | exact qm_ HB.out | apply qA_ | apply qN_ | apply qD_ | refine below_set ?_ GE626.out | refine below_set ?_ GE635.out | refine below_set ?_ GE642.out) | exact HB.out)⟩⟩
   ·rw [if_neg c26] at H
    have c26b0 : (t628 == 0) = false := beq_eq_false_iff_ne.mpr c26
    have c26b1 : (t628 != 0) = true := bne_iff_ne.mpr c26
    (first | rw [c26b0] | (simp only [i64_w, i32_w]; rw [c26b0]) | skip)
    have H' := A0_ H
    clear H
    go_wp2
    go_meet
    case rel => exact ⟨_, (false), (by first | rfl | (simp; done) | (simp [*]; done)), H', ⟨by first | omega | exact Nat.le_refl _⟩, ⟨by (with_reducible repeat (first | apply Kd.V_alloc | apply Kd.V_drewN | apply Kd.V_drew)); exact Kd.V_mono (Kd.V_far (p := ⟨gb642, 2, none⟩) (Kd.V_far (p := ⟨gb642, 1, none⟩) (Kd.V_far (p := ⟨gb642, 0, none⟩) (Kd.V_mono HO632.out (fun k_ hk => (⟨hk, hk.2⟩ : _ ∧ k_ ≠ gb642))) (fun _ hk => hk.2) (.bool t636)) (fun _ hk => hk.2) (.slice Ao25 t637.length co25)) (fun _ hk => hk.2) (.int .i64 t640)) (fun _ hk => by first | exact ⟨hk.1.1.1, ⟨hk.1.1.2, hk.1.2⟩⟩ | (refine ⟨?_, ⟨?_, ?_⟩⟩ <;> first | exact hk.1 | exact hk.2 | exact hk.1.1 | exact hk.1.2 | exact hk.2.1 | exact hk.2.2 | exact hk.1.1.1 | exact hk.1.1.2 | exact hk.1.2.1 | exact hk.1.2.2 | exact hk.2.1.1 | exact hk.2.1.2 | exact hk.2.2.1 | exact hk.2.2.2 | exact hk.1.1.1.1 | exact hk.1.1.1.2 | exact hk.1.1.2.1 | exact hk.1.1.2.2 | exact hk.1.2.1.1 | exact hk.1.2.1.2 | exact hk.1.2.2.1 | exact hk.1.2.2.2 | exact hk.2.1.1.1 | exact hk.2.1.1.2 | exact hk.2.1.2.1 | exact hk.2.1.2.2 | exact hk.2.2.1.1 | exact hk.2.2.1.2 | exact hk.2.2.2.1 | exact hk.2.2.2.2 | exact hk.1.1.1.1.1 | exact hk.1.1.1.1.2 | exact hk.1.1.1.1.1.1 | exact hk.1.1.1.1.1.2 | exact hk.1.1.1.1.1.1.1 | exact hk.1.1.1.1.1.1.2 | exact hk.1.1.1.1.1.1.1.1 | exact hk.1.1.1.1.1.1.1.2 | exact hk.1.1.1.1.1.1.1.1.1 | exact hk.1.1.1.1.1.1.1.1.2 | exact hk.1.1.1.1.1.1.1.1.1.1 | exact hk.1.1.1.1.1.1.1.1.1.2 | exact hk.1.1.1.1.1.1.1.1.1.1.1 | exact hk.1.1.1.1.1.1.1.1.1.1.2 | exact hk.1.1.1.1.1.1.1.1.1.1.1.1 | exact hk.1.1.1.1.1.1.1.1.1.1.1.2))⟩, ⟨by (with_reducible repeat (first | apply Kd.V_alloc | apply Kd.V_drewN | apply Kd.V_drew)); exact Kd.V_mono (Kd.V_far (p := ⟨gb642, 2, none⟩) (Kd.V_far (p := ⟨gb642, 1, none⟩) (Kd.V_far (p := ⟨gb642, 0, none⟩) (Kd.V_mono HO639.out (fun k_ hk => (⟨hk, hk.2⟩ : _ ∧ k_ ≠ gb642))) (fun _ hk => hk.2) (.bool t636)) (fun _ hk => hk.2) (.slice Ao25 t637.length co25)) (fun _ hk => hk.2) (.int .i64 t640)) (fun _ hk => by first | exact ⟨hk.1.1.1, ⟨hk.1.1.2, hk.1.2⟩⟩ | (refine ⟨?_, ⟨?_, ?_⟩⟩ <;> first | exact hk.1 | exact hk.2 | exact hk.1.1 | exact hk.1.2 | exact hk.2.1 | exact hk.2.2 | exact hk.1.1.1 | exact hk.1.1.2 | exact hk.1.2.1 | exact hk.1.2.2 | exact hk.2.1.1 | exact hk.2.1.2 | exact hk.2.2.1 | exact hk.2.2.2 | exact hk.1.1.1.1 | exact hk.1.1.1.2 | exact hk.1.1.2.1 | exact hk.1.1.2.2 | exact hk.1.2.1.1 | exact hk.1.2.1.2 | exact hk.1.2.2.1 | exact hk.1.2.2.2 | exact hk.2.1.1.1 | exact hk.2.1.1.2 | exact hk.2.1.2.1 | exact hk.2.1.2.2 | exact hk.2.2.1.1 | exact hk.2.2.1.2 | exact hk.2.2.2.1 | exact hk.2.2.2.2 | exact hk.1.1.1.1.1 | exact hk.1.1.1.1.2 | exact hk.1.1.1.1.1.1 | exact hk.1.1.1.1.1.2 | exact hk.1.1.1.1.1.1.1 | exact hk.1.1.1.1.1.1.2 | exact hk.1.1.1.1.1.1.1.1 | exact hk.1.1.1.1.1.1.1.2 | exact hk.1.1.1.1.1.1.1.1.1 | exact hk.1.1.1.1.1.1.1.1.2 | exact hk.1.1.1.1.1.1.1.1.1.1 | exact hk.1.1.1.1.1.1.1.1.1.2 | exact hk.1.1.1.1.1.1.1.1.1.1.1 | exact hk.1.1.1.1.1.1.1.1.1.1.2 | exact hk.1.1.1.1.1.1.1.1.1.1.1.1 | exact hk.1.1.1.1.1.1.1.1.1.1.1.2))⟩, ⟨by (with_reducible repeat first | apply bN_ | apply bD_ | apply bA_); refine blk_far ?_ NB626_642.out _; (with_reducible repeat first | apply bN_ | apply bD_ | apply bA_); refine blk_far ?_ NB626_642.out _; (with_reducible repeat first | apply bN_ | apply bD_ | apply bA_); refine blk_far ?_ NB626_642.out _; (with_reducible repeat first | apply bN_ | apply bD_ | apply bA_); exact BK626.out⟩, ⟨by (with_reducible repeat first | apply bN_ | apply bD_ | apply bA_); refine blk_far ?_ NB635_642.out _; (with_reducible repeat first | apply bN_ | apply bD_ | apply bA_); refine blk_far ?_ NB635_642.out _; (with_reducible repeat first | apply bN_ | apply bD_ | apply bA_); refine blk_far ?_ NB635_642.out _; (with_reducible repeat first | apply bN_ | apply bD_ | apply bA_); exact BK635.out⟩, ⟨by (with_reducible repeat first | apply bN_ | apply bD_ | apply bA_); refine blk_put (cs := #[.bool t636, .slice Ao25 t637.length co25, .int .i64 0]) ?_ 2 _ rfl; (with_reducible repeat first | apply bN_ | apply bD_ | apply bA_); refine blk_put (cs := #[.bool t636, .slice none 0 0, .int .i64 0]) ?_ 1 _ rfl; (with_reducible repeat first | apply bN_ | apply bD_ | apply bA_); refine blk_put (cs := #[.bool false, .slice none 0 0, .int .i64 0]) ?_ 0 _ rfl; (with_reducible repeat first | apply bN_ | apply bD_ | apply bA_); exact BK642.out⟩, ⟨by repeat (first | (with_reducible first | exact qm_ HB.out | apply qA_ | apply qN_ | apply qD_ | refine below_set ?_ GE626.out | refine below_set ?_ GE635.out | refine below_set ?_ GE642.out) | exact HB.out)⟩⟩
  case rest =>
   clear HC12
   try clear c1
   try clear c2
   try clear p2
   try clear c4
   try clear c4b0
   try clear c4b1
   try clear c6
   try clear c8
   try clear c10
   try clear c14
   try clear c17
   try clear c22
   try clear c23
   try clear c26
   try clear c26b0
   try clear c26b1
   try clear c28
   try clear hcz14
   try clear hcz18
   try clear hcz24
   try clear hcz7
   try clear hfz14
   try clear hfz18
   try clear hfz24
   try clear hfz7
   obtain ⟨kq, x45_11, rfl, HA, HJ11, HO_636001, HO_643001, BK626, BK635, BK642, HB⟩ := hcut
   cases kq with
   | zero => exact absurd HA.out (by simp [cutplanelaw03_WordValues.j0])
   | succ kj11 =>
    have H := HA.out
    clear HA
    simp only [cutplanelaw03_WordValues.j0] at H
    have HC31 := A0_ H
    clear H
    go_upto_if 45 with (fail)
    go_cut [12] (fun v12 wc => ∃ (kq : Nat) (x12_30 : Int), v12 = .int .i64 x12_30 ∧ Aside0 (cutplanelaw03_WordValues.j1 kq a0 a1 t634 t641 x12_30 a2_0 l2_1 a2_2 t629 t630 t633 t636 t637 t640 = some r) ∧ Aside0 (kq ≤ kj11) ∧ Aside0 (Kd.V (Kd.int .u32) 78 wc w.heap.size (fun k_ => k_ ≠ gb626 ∧ k_ ≠ gb635 ∧ k_ ≠ gb642) (.slice Ao19 t630.length co19) t630) ∧ Aside0 (Kd.V (Kd.int .u32) 78 wc w.heap.size (fun k_ => k_ ≠ gb626 ∧ k_ ≠ gb635 ∧ k_ ≠ gb642) (.slice Ao25 t637.length co25) t637) ∧ Aside0 (wc.heap[gb626]? = some (.cells #[.bool a2_0, (.slice A2_1 l2_1.length c2_1), .int .i64 a2_2] 26 (0, 0))) ∧ Aside0 (wc.heap[gb635]? = some (.cells #[.bool t629, (.slice Ao19 t630.length co19), .int .i64 t633] 26 (0, 0))) ∧ Aside0 (wc.heap[gb642]? = some (.cells #[.bool t636, (.slice Ao25 t637.length co25), .int .i64 t640] 26 (0, 0))) ∧ Aside0 (Below w.heap.size w wc))
    case first =>
     have H := HC31.out
     clear HC31
     by_cases c32 : x45_11 = true
     ·subst c32
      have H1 : (cutplanelaw03_WordValues.j1 kj11 a0 a1 t634 t641 7 a2_0 l2_1 a2_2 t629 t630 t633 t636 t637 t640) = some r := by rw [if_pos rfl] at H; exact H
      clear H
      have H := H1
      clear H1
      have H' := A0_ H
      clear H
      go_wp2
      go_meet
      case rel => exact ⟨_, (7), (by first | rfl | (simp; done) | (simp [*]; done)), H', ⟨by have := HJ11.out; first | omega | exact Nat.le_refl _⟩, ⟨by exact vm_ HO_636001.out⟩, ⟨by exact vm_ HO_643001.out⟩, ⟨bm_ BK626.out⟩, ⟨bm_ BK635.out⟩, ⟨bm_ BK642.out⟩, ⟨by repeat (first | (with_reducible first | exact qm_ HB.out | apply qA_ | apply qN_ | apply qD_ | refine below_set ?_ GE626.out | refine below_set ?_ GE635.out | refine below_set ?_ GE642.out) | exact HB.out)⟩⟩
     ·replace c32 := Bool.eq_false_iff.mpr c32
      subst c32
      have H1 : (cutplanelaw03_WordValues.j1 kj11 a0 a1 t634 t641 t628 a2_0 l2_1 a2_2 t629 t630 t633 t636 t637 t640) = some r := by rw [if_neg (show ¬ (false = true) by decide)] at H; exact H
      clear H
      have H := H1
      clear H1
      have H' := A0_ H
      clear H
      go_wp2
      go_meet
      case rel => exact ⟨_, (t628), (by first | rfl | (simp; done) | (simp [*]; done)), H', ⟨by have := HJ11.out; first | omega | exact Nat.le_refl _⟩, ⟨by exact vm_ HO_636001.out⟩, ⟨by exact vm_ HO_643001.out⟩, ⟨bm_ BK626.out⟩, ⟨bm_ BK635.out⟩, ⟨bm_ BK642.out⟩, ⟨by repeat (first | (with_reducible first | exact qm_ HB.out | apply qA_ | apply qN_ | apply qD_ | refine below_set ?_ GE626.out | refine below_set ?_ GE635.out | refine below_set ?_ GE642.out) | exact HB.out)⟩⟩
    case rest =>
     clear HC31
     try clear c1
     try clear c2
     try clear p2
     try clear c3
     try clear c4
     try clear c4b0
     try clear c4b1
     try clear c6
     try clear c8
     try clear c10
     try clear c14
     try clear c17
     try clear c22
     try clear c23
     try clear c26
     try clear c26b0
     try clear c26b1
     try clear c28
     try clear c32
     try clear hcz14
     try clear hcz18
     try clear hcz24
     try clear hcz7
     try clear hfz14
     try clear hfz18
     try clear hfz24
     try clear hfz7
     try clear p2
     obtain ⟨kq, x12_30, rfl, HA, HJ30, HO_636001, HO_643001, BK626, BK635, BK642, HB⟩ := hcut
     cases kq with
     | zero => exact absurd HA.out (by simp [cutplanelaw03_WordValues.j1])
     | succ kj30 =>
      have H := HA.out
      clear HA
      simp only [cutplanelaw03_WordValues.j1] at H
      by_cases c33 : t634 = x12_30
      ·rw [if_pos c33] at H
       have c33b0 : (t634 == x12_30) = true := beq_iff_eq.mpr c33
       have c33b1 : (t634 != x12_30) = false := bne_eq_false_iff_eq.mpr c33
       clear c33
       by_cases c34 : t641 = x12_30
       ·rw [if_pos c34] at H
        have c34b0 : (t641 == x12_30) = true := beq_iff_eq.mpr c34
        have c34b1 : (t641 != x12_30) = false := bne_eq_false_iff_eq.mpr c34
        clear c34
        have HC35 := A0_ H
        clear H
        go_upto_if 55 with (fail)
        go_cut [] (fun wc => ∃ (kq : Nat), Aside0 (cutplanelaw03_WordValues.j2 kq a0 a2_0 l2_1 a2_2 = some r) ∧ Aside0 (kq ≤ kj30) ∧ Aside0 (Kd.V (Kd.int .u32) 78 wc w.heap.size (fun k_ => k_ ≠ gb626 ∧ k_ ≠ gb635 ∧ k_ ≠ gb642) (.slice Ao19 t630.length co19) t630) ∧ Aside0 (Kd.V (Kd.int .u32) 78 wc w.heap.size (fun k_ => k_ ≠ gb626 ∧ k_ ≠ gb635 ∧ k_ ≠ gb642) (.slice Ao25 t637.length co25) t637) ∧ Aside0 (wc.heap[gb626]? = some (.cells #[.bool a2_0, (.slice A2_1 l2_1.length c2_1), .int .i64 a2_2] 26 (0, 0))) ∧ Aside0 (wc.heap[gb635]? = some (.cells #[.bool t629, (.slice Ao19 t630.length co19), .int .i64 t633] 26 (0, 0))) ∧ Aside0 (wc.heap[gb642]? = some (.cells #[.bool t636, (.slice Ao25 t637.length co25), .int .i64 t640] 26 (0, 0))) ∧ Aside0 (Below w.heap.size w wc))
        case first =>
         have H := HC35.out
         clear HC35
         by_cases c36 : x12_30 = 0
         ·rw [if_pos c36] at H
          have c36b0 : (x12_30 == 0) = true := beq_iff_eq.mpr c36
          have c36b1 : (x12_30 != 0) = false := bne_eq_false_iff_eq.mpr c36
          clear c36
          (first | rw [c36b0] | (simp only [i64_w, i32_w]; rw [c36b0]) | skip)
          replace H := Option.bind_eq_some_iff.mp H
          obtain ⟨⟨t644, t645, t648⟩, A370, H⟩ := H
          replace H : ((cutplaneref02_Same.f kj30 t629 t630 t633 t644 t645 t648).bind fun t649 => (if t649 = true then ((cutplaneref03_Unit.f a0 a1).bind fun bt650 => ((cutplaneref02_Same.f kj30 t636 t637 t640 bt650.1 bt650.2.1 bt650.2.2).bind fun t655 => (if t655 = true then (cutplanelaw03_WordValues.j2 kj30 a0 a2_0 l2_1 a2_2) else (none)))) else (none))) = some r := H
          have A37 := A0_ A370
          clear A370
          replace H := Option.bind_eq_some_iff.mp H
          obtain ⟨t649, A380, H⟩ := H
          replace H : (if t649 = true then ((cutplaneref03_Unit.f a0 a1).bind fun bt650 => ((cutplaneref02_Same.f kj30 t636 t637 t640 bt650.1 bt650.2.1 bt650.2.2).bind fun t655 => (if t655 = true then (cutplanelaw03_WordValues.j2 kj30 a0 a2_0 l2_1 a2_2) else (none)))) else (none)) = some r := H
          have A38 := A0_ A380
          clear A380
          by_cases c39 : t649 = true
          ·subst c39
           have H1 : ((cutplaneref03_Unit.f a0 a1).bind fun bt650 => ((cutplaneref02_Same.f kj30 t636 t637 t640 bt650.1 bt650.2.1 bt650.2.2).bind fun t655 => (if t655 = true then (cutplanelaw03_WordValues.j2 kj30 a0 a2_0 l2_1 a2_2) else (none)))) = some r := by rw [if_pos rfl] at H; exact H
           clear H
           have H := H1
           clear H1
           replace H := Option.bind_eq_some_iff.mp H
           obtain ⟨⟨t650, t651, t654⟩, A400, H⟩ := H
           replace H : ((cutplaneref02_Same.f kj30 t636 t637 t640 t650 t651 t654).bind fun t655 => (if t655 = true then (cutplanelaw03_WordValues.j2 kj30 a0 a2_0 l2_1 a2_2) else (none))) = some r := H
           have A40 := A0_ A400
           clear A400
           replace H := Option.bind_eq_some_iff.mp H
           obtain ⟨t655, A410, H⟩ := H
           replace H : (if t655 = true then (cutplanelaw03_WordValues.j2 kj30 a0 a2_0 l2_1 a2_2) else (none)) = some r := H
           have A41 := A0_ A410
           clear A410
           by_cases c42 : t655 = true
           ·subst c42
            have H1 : (cutplanelaw03_WordValues.j2 kj30 a0 a2_0 l2_1 a2_2) = some r := by rw [if_pos rfl] at H; exact H
            clear H
            have H := H1
            clear H1
            have H' := A0_ H
            clear H
            try go_wp2
            have n0_ := A0_ (Kd.V_drew HO_636001.out)
            have n1_ := A0_ (Kd.V_drew HO_643001.out)
            have n2_ := A0_ (blk_drew BK626.out)
            have n3_ := A0_ (blk_drew BK635.out)
            have n4_ := A0_ (blk_drew BK642.out)
            have n5_ := A0_ (below_drew1 HB.out)
            clear HO_636001 HO_643001 BK626 BK635 BK642 HB
            have HO_636001 := n0_
            have HO_643001 := n1_
            have BK626 := n2_
            have BK635 := n3_
            have BK642 := n4_
            have HB := n5_
            clear n0_ n1_ n2_ n3_ n4_ n5_
            refine start_ (n := 14) (S := fun w' => w'.cell? ⟨gb635, 0, none⟩ = some (.bool t629) ∧ w'.cell? ⟨gb635, 1, none⟩ = some (.slice Ao19 t630.length co19) ∧ w'.cell? ⟨gb635, 2, none⟩ = some (.int .i64 t633) ∧ w'.cell? ⟨gb642, 0, none⟩ = some (.bool t636) ∧ w'.cell? ⟨gb642, 1, none⟩ = some (.slice Ao25 t637.length co25) ∧ w'.cell? ⟨gb642, 2, none⟩ = some (.int .i64 t640)) (ds := []) #[false, false, false, false, false, false, false, false, false, false, false, false, false, false] (by kernel_rfl) rfl rfl ⟨bC_ BK635.out 0, bC_ BK635.out 1, bC_ BK635.out 2, bC_ BK642.out 0, bC_ BK642.out 1, bC_ BK642.out 2⟩ (fun hHeld => ?_); refine with_tabW cutplanelaw03_WordValues.tab14 cutplanelaw03_WordValues.bits14 (fun HT_ HW_ => ?_)
            generalize wc.drew = w43 at HO_636001 HO_643001 BK626 BK635 BK642 HB hHeld ⊢
            refine pure_ (i := 1) (N := some 67) (v := ?_) (a' := ?_) #[false, true, false, false, false, false, false, false, false, false, false, false, false, false] rfl rfl (any_of HT_.out (by kernel_rfl)) (fun _ _ _ h => h) (Or.inl ⟨by rfl, ?_⟩) ?_ ?_
            rotate_left
            ·intro w'
             go_simp
             with_reducible rfl
            rotate_left
            ·simp only [Act.put, sp_, i64_w, i32_w]
             rfl
            refine pure_ (i := 2) (N := some 68) (v := ?_) (a' := ?_) #[false, true, true, false, false, false, false, false, false, false, false, false, false, false] rfl rfl (any_of HT_.out (by kernel_rfl)) (fun _ _ _ h => h) (Or.inl ⟨by rfl, ?_⟩) ?_ ?_
            rotate_left
            ·intro w'
             go_simp
             with_reducible rfl
            rotate_left
            ·simp only [Act.put, sp_, i64_w, i32_w]
             rfl
            refine take_ (i := 0) (N := some 66) (v := ?_) (a' := ?_) #[true, true, true, false, false, false, false, false, false, false, false, false, false, false] rfl rfl (take_ofW HT_.out HW_.out (by kernel_rfl)) (fun _ _ _ h => h) (Or.inl ⟨by rfl, ?_⟩) hHeld ?_ ?_
            rotate_left
            ·rintro w' ⟨s0, s1, s2, s3, s4, s5⟩
             go_simp
             with_reducible rfl
            rotate_left
            ·simp only [Act.put, sp_, i64_w, i32_w]
             rfl
            refine one_ (i := 3) (N := some 69) #[true, true, true, true, false, false, false, false, false, false, false, false, false, false] rfl rfl (one_of HT_.out (by kernel_rfl)) (by decide) (fun K hK => ?_)
            refine goes_ Tryd.func16 (by kernel_rfl) rfl #[.int .u8 a0, .int .u64 a1] (by rfl) rfl rfl (by (try simp only [List.map_toArray, List.map_cons, List.map_nil]); first | done | rfl | (simp only [List.length_drop, List.length_take]; rfl)) ?_
            with_reducible refine (cutplaneref03_Value.calls kj30 a0 a1 t644 t645 t648 _ A37.out).mono ?_
            rintro e w44 ⟨v646, rfl, ho0, hb⟩
            refine ⟨_, rfl, ?_⟩
            have n0_ := A0_ (Kd.V_below (by exact vm_ HO_636001.out) hb)
            have n1_ := A0_ (Kd.V_below (by exact vm_ HO_643001.out) hb)
            have n2_ := A0_ (Kd.V_lower (Kd.V_mono (ok' := fun k_ => k_ ≠ gb626 ∧ k_ ≠ gb635 ∧ k_ ≠ gb642) ho0 (fun k_ hk_ => ⟨(Kd.freshB (bm_ BK626.out) k_ hk_), (Kd.freshB (bm_ BK635.out) k_ hk_), (Kd.freshB (bm_ BK642.out) k_ hk_)⟩)) (below_size (by repeat (first | (with_reducible first | exact qm_ HB.out | apply qA_ | apply qN_ | apply qD_ | refine below_set ?_ GE626.out | refine below_set ?_ GE635.out | refine below_set ?_ GE642.out) | exact HB.out))))
            have n3_ := A0_ (blk_below (bm_ BK626.out) hb)
            have n4_ := A0_ (blk_below (bm_ BK635.out) hb)
            have n5_ := A0_ (blk_below (bm_ BK642.out) hb)
            have n6_ := A0_ (below_step (by repeat (first | (with_reducible first | exact qm_ HB.out | apply qA_ | apply qN_ | apply qD_ | refine below_set ?_ GE626.out | refine below_set ?_ GE635.out | refine below_set ?_ GE642.out) | exact HB.out)) hb)
            clear HO_636001 HO_643001 BK626 BK635 BK642 HB
            have HO_636001 := n0_
            have HO_643001 := n1_
            have HO647 := n2_
            have BK626 := n3_
            have BK635 := n4_
            have BK642 := n5_
            have HB := n6_
            clear n0_ n1_ n2_ n3_ n4_ n5_ n6_
            (try clear hb)
            (try clear ho0)
            obtain ⟨Ao45, co45, eo45⟩ := Kd.V_slice HO647.out
            (first | subst eo45 | (injection eo45 with f1_ f2_ f3_; have f4_ := f1_.symm; have f5_ := f3_.symm; clear f1_ f2_ f3_; subst f4_; subst f5_))
            refine hK.out _ _ ⟨bC_ BK635.out 0, bC_ BK635.out 1, bC_ BK635.out 2, bC_ BK642.out 0, bC_ BK642.out 1, bC_ BK642.out 2⟩ (fun hHeld => ?_)
            clear hK K
            refine norm_ (a' := ?_) ?_ ?_
            rotate_left
            ·show Act.put _ (some 69) _ = _
             simp only [Act.put, sp_, i64_w, i32_w]
             rfl
            refine one_ (i := 4) (N := some 70) #[true, true, true, true, true, false, false, false, false, false, false, false, false, false] rfl rfl (one_of HT_.out (by kernel_rfl)) (by decide) (fun K hK => ?_)
            refine goes_ Tryd.func11 (by kernel_rfl) rfl #[.agg #[.bool t629, .slice Ao19 t630.length co19, .int .i64 t633], .agg #[.bool t644, .slice Ao45 t645.length co45, .int .i64 t648]] (by rfl) rfl rfl (by (try simp only [List.map_toArray, List.map_cons, List.map_nil]); first | done | rfl | (simp only [List.length_drop, List.length_take]; rfl)) ?_
            with_reducible refine (cutplaneref02_Same.calls kj30 t629 _ _ t630 t633 t644 _ _ t645 t648 true _ ?side1 ?side2 ?side3 ?side4 A38.out).mono ?_
            (case side1 => repeat (first | exact (Kd.V_reads' HO_636001.out).2.2 | (with_reducible refine Kd.C_alloc ?_ _) | (with_reducible refine Kd.C_drewN ?_ _) | (with_reducible refine Kd.C_drew ?_)))
            (case side2 => exact (Kd.V_reads' HO_636001.out).2.1)
            (case side3 => repeat (first | exact (Kd.V_reads' HO647.out).2.2 | (with_reducible refine Kd.C_alloc ?_ _) | (with_reducible refine Kd.C_drewN ?_ _) | (with_reducible refine Kd.C_drew ?_)))
            (case side4 => exact (Kd.V_reads' HO647.out).2.1)
            rintro e w46 ⟨rfl, hb⟩
            refine ⟨_, rfl, ?_⟩
            have n0_ := A0_ (Kd.V_below (by exact vm_ HO_636001.out) hb)
            have n1_ := A0_ (Kd.V_below (by exact vm_ HO_643001.out) hb)
            have n2_ := A0_ (Kd.V_below (by exact vm_ HO647.out) hb)
            have n3_ := A0_ (blk_below (bm_ BK626.out) hb)
            have n4_ := A0_ (blk_below (bm_ BK635.out) hb)
            have n5_ := A0_ (blk_below (bm_ BK642.out) hb)
            have n6_ := A0_ (below_step (by repeat (first | (with_reducible first | exact qm_ HB.out | apply qA_ | apply qN_ | apply qD_ | refine below_set ?_ GE626.out | refine below_set ?_ GE635.out | refine below_set ?_ GE642.out) | exact HB.out)) hb)
            clear HO_636001 HO_643001 HO647 BK626 BK635 BK642 HB
            have HO_636001 := n0_
            have HO_643001 := n1_
            have HO647 := n2_
            have BK626 := n3_
            have BK635 := n4_
            have BK642 := n5_
            have HB := n6_
            clear n0_ n1_ n2_ n3_ n4_ n5_ n6_
            (try clear hb)
            refine hK.out _ _ ⟨bC_ BK635.out 0, bC_ BK635.out 1, bC_ BK635.out 2, bC_ BK642.out 0, bC_ BK642.out 1, bC_ BK642.out 2⟩ (fun hHeld => ?_)
            clear hK K
            refine norm_ (a' := ?_) ?_ ?_
            rotate_left
            ·show Act.put _ (some 70) _ = _
             simp only [Act.put, sp_, i64_w, i32_w]
             rfl
            refine pure_ (i := 5) (N := some 71) (v := ?_) (a' := ?_) #[true, true, true, true, true, true, false, false, false, false, false, false, false, false] rfl rfl (any_of HT_.out (by kernel_rfl)) (fun _ _ _ h => h) (Or.inl ⟨by rfl, ?_⟩) ?_ ?_
            rotate_left
            ·intro w'
             go_simp
             with_reducible rfl
            rotate_left
            ·simp only [Act.put, sp_, i64_w, i32_w]
             rfl
            refine pure_ (i := 6) (N := some 72) (v := ?_) (a' := ?_) #[true, true, true, true, true, true, true, false, false, false, false, false, false, false] rfl rfl (any_of HT_.out (by kernel_rfl)) (fun _ _ _ h => h) (Or.inl ⟨by rfl, ?_⟩) ?_ ?_
            rotate_left
            ·intro w'
             go_simp
             with_reducible rfl
            rotate_left
            ·simp only [Act.put, sp_, i64_w, i32_w]
             rfl
            refine pure_ (i := 8) (N := some 74) (v := ?_) (a' := ?_) #[true, true, true, true, true, true, true, false, true, false, false, false, false, false] rfl rfl (any_of HT_.out (by kernel_rfl)) (fun _ _ _ h => h) (Or.inl ⟨by rfl, ?_⟩) ?_ ?_
            rotate_left
            ·intro w'
             go_simp
             with_reducible rfl
            rotate_left
            ·simp only [Act.put, sp_, i64_w, i32_w]
             rfl
            refine pure_ (i := 9) (N := some 75) (v := ?_) (a' := ?_) #[true, true, true, true, true, true, true, false, true, true, false, false, false, false] rfl rfl (any_of HT_.out (by kernel_rfl)) (fun _ _ _ h => h) (Or.inl ⟨by rfl, ?_⟩) ?_ ?_
            rotate_left
            ·intro w'
             go_simp
             with_reducible rfl
            rotate_left
            ·simp only [Act.put, sp_, i64_w, i32_w]
             rfl
            refine take_ (i := 7) (N := some 73) (v := ?_) (a' := ?_) #[true, true, true, true, true, true, true, true, true, true, false, false, false, false] rfl rfl (take_ofW HT_.out HW_.out (by kernel_rfl)) (fun _ _ _ h => h) (Or.inl ⟨by rfl, ?_⟩) hHeld ?_ ?_
            rotate_left
            ·rintro w' ⟨s0, s1, s2, s3, s4, s5⟩
             go_simp
             with_reducible rfl
            rotate_left
            ·simp only [Act.put, sp_, i64_w, i32_w]
             rfl
            refine one_ (i := 10) (N := some 76) #[true, true, true, true, true, true, true, true, true, true, true, false, false, false] rfl rfl (one_of HT_.out (by kernel_rfl)) (by decide) (fun K hK => ?_)
            refine goes_ Tryd.func17 (by kernel_rfl) rfl #[.int .u8 a0, .int .u64 a1] (by rfl) rfl rfl (by (try simp only [List.map_toArray, List.map_cons, List.map_nil]); first | done | rfl | (simp only [List.length_drop, List.length_take]; rfl)) ?_
            with_reducible refine (cutplaneref03_Unit.calls a0 a1 t650 t651 t654 _ A40.out).mono ?_
            rintro e w47 ⟨v652, rfl, ho0, hb⟩
            refine ⟨_, rfl, ?_⟩
            have n0_ := A0_ (Kd.V_elder' (by exact vm_ HO_636001.out) (Kd.R_base ho0) hb)
            have n1_ := A0_ (Kd.V_elder' (by exact vm_ HO_643001.out) (Kd.R_base ho0) hb)
            have n2_ := A0_ (Kd.V_elder' (by exact vm_ HO647.out) (Kd.R_base ho0) hb)
            have n3_ := A0_ (Kd.R_lower ho0 (below_size (by repeat (first | (with_reducible first | exact qm_ HB.out | apply qA_ | apply qN_ | apply qD_ | refine below_set ?_ GE626.out | refine below_set ?_ GE635.out | refine below_set ?_ GE642.out) | exact HB.out))))
            have n4_ := A0_ (blk_below (bm_ BK626.out) hb)
            have n5_ := A0_ (blk_below (bm_ BK635.out) hb)
            have n6_ := A0_ (blk_below (bm_ BK642.out) hb)
            have n7_ := A0_ (below_step (by repeat (first | (with_reducible first | exact qm_ HB.out | apply qA_ | apply qN_ | apply qD_ | refine below_set ?_ GE626.out | refine below_set ?_ GE635.out | refine below_set ?_ GE642.out) | exact HB.out)) hb)
            clear HO_636001 HO_643001 HO647 BK626 BK635 BK642 HB
            have HO_636001 := n0_
            have HO_643001 := n1_
            have HO647 := n2_
            have HO653 := n3_
            have BK626 := n4_
            have BK635 := n5_
            have BK642 := n6_
            have HB := n7_
            clear n0_ n1_ n2_ n3_ n4_ n5_ n6_ n7_
            (try clear hb)
            (try clear ho0)
            obtain ⟨Ao48, co48, eo48⟩ := Kd.R_slice HO653.out
            (first | subst eo48 | (injection eo48 with f1_ f2_ f3_; have f4_ := f1_.symm; have f5_ := f3_.symm; clear f1_ f2_ f3_; subst f4_; subst f5_))
            refine hK.out _ _ ⟨bC_ BK635.out 0, bC_ BK635.out 1, bC_ BK635.out 2, bC_ BK642.out 0, bC_ BK642.out 1, bC_ BK642.out 2⟩ (fun hHeld => ?_)
            clear hK K
            refine norm_ (a' := ?_) ?_ ?_
            rotate_left
            ·show Act.put _ (some 76) _ = _
             simp only [Act.put, sp_, i64_w, i32_w]
             rfl
            refine one_ (i := 11) (N := some 77) #[true, true, true, true, true, true, true, true, true, true, true, true, false, false] rfl rfl (one_of HT_.out (by kernel_rfl)) (by decide) (fun K hK => ?_)
            refine goes_ Tryd.func11 (by kernel_rfl) rfl #[.agg #[.bool t636, .slice Ao25 t637.length co25, .int .i64 t640], .agg #[.bool t650, .slice Ao48 t651.length co48, .int .i64 t654]] (by rfl) rfl rfl (by (try simp only [List.map_toArray, List.map_cons, List.map_nil]); first | done | rfl | (simp only [List.length_drop, List.length_take]; rfl)) ?_
            with_reducible refine (cutplaneref02_Same.calls kj30 t636 _ _ t637 t640 t650 _ _ t651 t654 true _ ?side1 ?side2 ?side3 ?side4 A41.out).mono ?_
            (case side1 => repeat (first | exact (Kd.V_reads' HO_643001.out).2.2 | (with_reducible refine Kd.C_alloc ?_ _) | (with_reducible refine Kd.C_drewN ?_ _) | (with_reducible refine Kd.C_drew ?_)))
            (case side2 => exact (Kd.V_reads' HO_643001.out).2.1)
            (case side3 => repeat (first | exact (Kd.R_reads' HO653.out).2.2 | (with_reducible refine Kd.C_alloc ?_ _) | (with_reducible refine Kd.C_drewN ?_ _) | (with_reducible refine Kd.C_drew ?_)))
            (case side4 => exact (Kd.R_reads' HO653.out).2.1)
            rintro e w49 ⟨rfl, hb⟩
            refine ⟨_, rfl, ?_⟩
            have n0_ := A0_ (Kd.V_below (by exact vm_ HO_636001.out) hb)
            have n1_ := A0_ (Kd.V_below (by exact vm_ HO_643001.out) hb)
            have n2_ := A0_ (Kd.V_below (by exact vm_ HO647.out) hb)
            have n3_ := A0_ (Kd.R_below (by exact rm_ HO653.out) hb)
            have n4_ := A0_ (blk_below (bm_ BK626.out) hb)
            have n5_ := A0_ (blk_below (bm_ BK635.out) hb)
            have n6_ := A0_ (blk_below (bm_ BK642.out) hb)
            have n7_ := A0_ (below_step (by repeat (first | (with_reducible first | exact qm_ HB.out | apply qA_ | apply qN_ | apply qD_ | refine below_set ?_ GE626.out | refine below_set ?_ GE635.out | refine below_set ?_ GE642.out) | exact HB.out)) hb)
            clear HO_636001 HO_643001 HO647 HO653 BK626 BK635 BK642 HB
            have HO_636001 := n0_
            have HO_643001 := n1_
            have HO647 := n2_
            have HO653 := n3_
            have BK626 := n4_
            have BK635 := n5_
            have BK642 := n6_
            have HB := n7_
            clear n0_ n1_ n2_ n3_ n4_ n5_ n6_ n7_
            (try clear hb)
            refine hK.out _ _ ⟨bC_ BK635.out 0, bC_ BK635.out 1, bC_ BK635.out 2, bC_ BK642.out 0, bC_ BK642.out 1, bC_ BK642.out 2⟩ (fun hHeld => ?_)
            clear hK K
            refine norm_ (a' := ?_) ?_ ?_
            rotate_left
            ·show Act.put _ (some 77) _ = _
             simp only [Act.put, sp_, i64_w, i32_w]
             rfl
            refine pure_ (i := 12) (N := some 78) (v := ?_) (a' := ?_) #[true, true, true, true, true, true, true, true, true, true, true, true, true, false] rfl rfl (any_of HT_.out (by kernel_rfl)) (fun _ _ _ h => h) (Or.inl ⟨by rfl, ?_⟩) ?_ ?_
            rotate_left
            ·intro w'
             go_simp
             with_reducible rfl
            rotate_left
            ·simp only [Act.put, sp_, i64_w, i32_w]
             rfl
            refine pure_ (i := 13) (N := some 79) (v := ?_) (a' := ?_) #[true, true, true, true, true, true, true, true, true, true, true, true, true, true] rfl rfl (any_of HT_.out (by kernel_rfl)) (fun _ _ _ h => h) (Or.inl ⟨by rfl, ?_⟩) ?_ ?_
            rotate_left
            ·intro w'
             go_simp
             with_reducible rfl
            rotate_left
            ·simp only [Act.put, sp_, i64_w, i32_w]
             rfl
            refine done_ (done_of HT_.out (by kernel_rfl)) ?_
            try go_wp2
            go_meet
            case rel => exact ⟨_, H', ⟨by have := HJ11.out; have := HJ30.out; first | omega | exact Nat.le_refl _⟩, ⟨by (with_reducible repeat (first | apply Kd.V_alloc | apply Kd.V_drewN | apply Kd.V_drew)); exact Kd.V_mono HO_636001.out (fun _ hk => by first | exact ⟨hk.1.1, ⟨hk.1.2.1, hk.1.2.2⟩⟩ | (refine ⟨?_, ⟨?_, ?_⟩⟩ <;> first | exact hk.1 | exact hk.2 | exact hk.1.1 | exact hk.1.2 | exact hk.2.1 | exact hk.2.2 | exact hk.1.1.1 | exact hk.1.1.2 | exact hk.1.2.1 | exact hk.1.2.2 | exact hk.2.1.1 | exact hk.2.1.2 | exact hk.2.2.1 | exact hk.2.2.2 | exact hk.1.1.1.1 | exact hk.1.1.1.2 | exact hk.1.1.2.1 | exact hk.1.1.2.2 | exact hk.1.2.1.1 | exact hk.1.2.1.2 | exact hk.1.2.2.1 | exact hk.1.2.2.2 | exact hk.2.1.1.1 | exact hk.2.1.1.2 | exact hk.2.1.2.1 | exact hk.2.1.2.2 | exact hk.2.2.1.1 | exact hk.2.2.1.2 | exact hk.2.2.2.1 | exact hk.2.2.2.2 | exact hk.1.1.1.1.1 | exact hk.1.1.1.1.2 | exact hk.1.1.1.1.1.1 | exact hk.1.1.1.1.1.2 | exact hk.1.1.1.1.1.1.1 | exact hk.1.1.1.1.1.1.2 | exact hk.1.1.1.1.1.1.1.1 | exact hk.1.1.1.1.1.1.1.2 | exact hk.1.1.1.1.1.1.1.1.1 | exact hk.1.1.1.1.1.1.1.1.2 | exact hk.1.1.1.1.1.1.1.1.1.1 | exact hk.1.1.1.1.1.1.1.1.1.2 | exact hk.1.1.1.1.1.1.1.1.1.1.1 | exact hk.1.1.1.1.1.1.1.1.1.1.2 | exact hk.1.1.1.1.1.1.1.1.1.1.1.1 | exact hk.1.1.1.1.1.1.1.1.1.1.1.2))⟩, ⟨by (with_reducible repeat (first | apply Kd.V_alloc | apply Kd.V_drewN | apply Kd.V_drew)); exact Kd.V_mono HO_643001.out (fun _ hk => by first | exact ⟨hk.1.1, ⟨hk.1.2.1, hk.1.2.2⟩⟩ | (refine ⟨?_, ⟨?_, ?_⟩⟩ <;> first | exact hk.1 | exact hk.2 | exact hk.1.1 | exact hk.1.2 | exact hk.2.1 | exact hk.2.2 | exact hk.1.1.1 | exact hk.1.1.2 | exact hk.1.2.1 | exact hk.1.2.2 | exact hk.2.1.1 | exact hk.2.1.2 | exact hk.2.2.1 | exact hk.2.2.2 | exact hk.1.1.1.1 | exact hk.1.1.1.2 | exact hk.1.1.2.1 | exact hk.1.1.2.2 | exact hk.1.2.1.1 | exact hk.1.2.1.2 | exact hk.1.2.2.1 | exact hk.1.2.2.2 | exact hk.2.1.1.1 | exact hk.2.1.1.2 | exact hk.2.1.2.1 | exact hk.2.1.2.2 | exact hk.2.2.1.1 | exact hk.2.2.1.2 | exact hk.2.2.2.1 | exact hk.2.2.2.2 | exact hk.1.1.1.1.1 | exact hk.1.1.1.1.2 | exact hk.1.1.1.1.1.1 | exact hk.1.1.1.1.1.2 | exact hk.1.1.1.1.1.1.1 | exact hk.1.1.1.1.1.1.2 | exact hk.1.1.1.1.1.1.1.1 | exact hk.1.1.1.1.1.1.1.2 | exact hk.1.1.1.1.1.1.1.1.1 | exact hk.1.1.1.1.1.1.1.1.2 | exact hk.1.1.1.1.1.1.1.1.1.1 | exact hk.1.1.1.1.1.1.1.1.1.2 | exact hk.1.1.1.1.1.1.1.1.1.1.1 | exact hk.1.1.1.1.1.1.1.1.1.1.2 | exact hk.1.1.1.1.1.1.1.1.1.1.1.1 | exact hk.1.1.1.1.1.1.1.1.1.1.1.2))⟩, ⟨bm_ BK626.out⟩, ⟨bm_ BK635.out⟩, ⟨bm_ BK642.out⟩, ⟨by repeat (first | (with_reducible first | exact qm_ HB.out | apply qA_ | apply qN_ | apply qD_ | refine below_set ?_ GE626.out | refine below_set ?_ GE635.out | refine below_set ?_ GE642.out) | exact HB.out)⟩⟩
           ·replace c42 := Bool.eq_false_iff.mpr c42
            subst c42
            have H1 : (none) = some r := by rw [if_neg (show ¬ (false = true) by decide)] at H; exact H
            clear H
            have H := H1
            clear H1
            exact absurd H (by simp)
          ·replace c39 := Bool.eq_false_iff.mpr c39
           subst c39
           have H1 : (none) = some r := by rw [if_neg (show ¬ (false = true) by decide)] at H; exact H
           clear H
           have H := H1
           clear H1
           exact absurd H (by simp)
         ·rw [if_neg c36] at H
          have c36b0 : (x12_30 == 0) = false := beq_eq_false_iff_ne.mpr c36
          have c36b1 : (x12_30 != 0) = true := bne_iff_ne.mpr c36
          (first | rw [c36b0] | (simp only [i64_w, i32_w]; rw [c36b0]) | skip)
          replace H := Option.bind_eq_some_iff.mp H
          obtain ⟨t656, A500, H⟩ := H
          replace H : (if t656 = true then ((cutplaneref02_Same.f kj30 t636 t637 t640 false ([] : List Int) 0).bind fun t657 => (if t657 = true then (cutplanelaw03_WordValues.j2 kj30 a0 a2_0 l2_1 a2_2) else (none))) else (none)) = some r := H
          have A50 := A0_ A500
          clear A500
          by_cases c51 : t656 = true
          ·subst c51
           have H1 : ((cutplaneref02_Same.f kj30 t636 t637 t640 false ([] : List Int) 0).bind fun t657 => (if t657 = true then (cutplanelaw03_WordValues.j2 kj30 a0 a2_0 l2_1 a2_2) else (none))) = some r := by rw [if_pos rfl] at H; exact H
           clear H
           have H := H1
           clear H1
           replace H := Option.bind_eq_some_iff.mp H
           obtain ⟨t657, A520, H⟩ := H
           replace H : (if t657 = true then (cutplanelaw03_WordValues.j2 kj30 a0 a2_0 l2_1 a2_2) else (none)) = some r := H
           have A52 := A0_ A520
           clear A520
           by_cases c53 : t657 = true
           ·subst c53
            have H1 : (cutplanelaw03_WordValues.j2 kj30 a0 a2_0 l2_1 a2_2) = some r := by rw [if_pos rfl] at H; exact H
            clear H
            have H := H1
            clear H1
            have H' := A0_ H
            clear H
            have hnb54 := NB635_626.out
            have hnc54 := NB626_635.out
            have hnb55 := NB635_642.out
            have hnc55 := NB642_635.out
            have hcz56 := bc3_ BK635.out
            have hfz56 := bf3_ BK635.out
            go_wp2_with (first | ((with_reducible refine gate_callee (f := 11) rfl ?_); refine goesL_ (some 58) rfl rfl Tryd.func11 (by kernel_rfl) rfl #[.agg #[.bool t629, .slice Ao19 t630.length co19, .int .i64 t633], .agg #[.bool false, .slice none 0 0, .int .i64 0]] rfl (by (try simp only [List.map_toArray, List.map_cons, List.map_nil]); first | done | rfl | (simp only [List.length_drop, List.length_take]; rfl)) ?_; (refine (cutplaneref02_Same.calls kj30 t629 _ _ t630 t633 false _ _ ([] : List Int) 0 true _ ?side1 ?side2 ?side3 ?side4 A50.out).mono ?_); (case side1 => repeat (first | exact (Kd.V_reads' HO_636001.out).2.2 | (with_reducible refine Kd.C_alloc ?_ _) | (with_reducible refine Kd.C_drewN ?_ _) | (with_reducible refine Kd.C_drew ?_))); (case side2 => exact (Kd.V_reads' HO_636001.out).2.1); (case side3 => exact Kd.C_nil _ _); (case side4 => exact Nat.le_refl _); rintro e w57 ⟨rfl, hb⟩; refine ⟨_, rfl, ?_⟩; have n0_ := A0_ (Kd.V_below (by exact vm_ HO_636001.out) hb); have n1_ := A0_ (Kd.V_below (by exact vm_ HO_643001.out) hb); have n2_ := A0_ (blk_below (bm_ BK626.out) hb); have n3_ := A0_ (blk_below (bm_ BK635.out) hb); have n4_ := A0_ (blk_below (bm_ BK642.out) hb); have n5_ := A0_ (below_step (by repeat (first | (with_reducible first | exact qm_ HB.out | apply qA_ | apply qN_ | apply qD_ | refine below_set ?_ GE626.out | refine below_set ?_ GE635.out | refine below_set ?_ GE642.out) | exact HB.out)) hb); clear HO_636001 HO_643001 BK626 BK635 BK642 HB; have HO_636001 := n0_; have HO_643001 := n1_; have BK626 := n2_; have BK635 := n3_; have BK642 := n4_; have HB := n5_; clear n0_ n1_ n2_ n3_ n4_ n5_; (try clear hb); have hnb58 := NB642_626.out; have hnc58 := NB626_642.out; have hcz59 := bc3_ BK642.out; have hfz59 := bf3_ BK642.out) | (go_at_call 11; (refine (cutplaneref02_Same.calls kj30 t636 _ _ t637 t640 false _ _ ([] : List Int) 0 true _ ?side1 ?side2 ?side3 ?side4 A52.out).mono ?_); (case side1 => repeat (first | exact (Kd.V_reads' HO_643001.out).2.2 | (with_reducible refine Kd.C_alloc ?_ _) | (with_reducible refine Kd.C_drewN ?_ _) | (with_reducible refine Kd.C_drew ?_))); (case side2 => exact (Kd.V_reads' HO_643001.out).2.1); (case side3 => exact Kd.C_nil _ _); (case side4 => exact Nat.le_refl _); rintro e w60 ⟨rfl, hb⟩; have n0_ := A0_ (Kd.V_below (by exact vm_ HO_636001.out) hb); have n1_ := A0_ (Kd.V_below (by exact vm_ HO_643001.out) hb); have n2_ := A0_ (blk_below (bm_ BK626.out) hb); have n3_ := A0_ (blk_below (bm_ BK635.out) hb); have n4_ := A0_ (blk_below (bm_ BK642.out) hb); have n5_ := A0_ (below_step (by repeat (first | (with_reducible first | exact qm_ HB.out | apply qA_ | apply qN_ | apply qD_ | refine below_set ?_ GE626.out | refine below_set ?_ GE635.out | refine below_set ?_ GE642.out) | exact HB.out)) hb); clear HO_636001 HO_643001 BK626 BK635 BK642 HB; have HO_636001 := n0_; have HO_643001 := n1_; have BK626 := n2_; have BK635 := n3_; have BK642 := n4_; have HB := n5_; clear n0_ n1_ n2_ n3_ n4_ n5_; (try clear hb)))
            go_meet
            case rel => exact ⟨_, H', ⟨by have := HJ11.out; have := HJ30.out; first | omega | exact Nat.le_refl _⟩, ⟨by exact vm_ HO_636001.out⟩, ⟨by exact vm_ HO_643001.out⟩, ⟨bm_ BK626.out⟩, ⟨bm_ BK635.out⟩, ⟨bm_ BK642.out⟩, ⟨by repeat (first | (with_reducible first | exact qm_ HB.out | apply qA_ | apply qN_ | apply qD_ | refine below_set ?_ GE626.out | refine below_set ?_ GE635.out | refine below_set ?_ GE642.out) | exact HB.out)⟩⟩
           ·replace c53 := Bool.eq_false_iff.mpr c53
            subst c53
            have H1 : (none) = some r := by rw [if_neg (show ¬ (false = true) by decide)] at H; exact H
            clear H
            have H := H1
            clear H1
            exact absurd H (by simp)
          ·replace c51 := Bool.eq_false_iff.mpr c51
           subst c51
           have H1 : (none) = some r := by rw [if_neg (show ¬ (false = true) by decide)] at H; exact H
           clear H
           have H := H1
           clear H1
           exact absurd H (by simp)
        case rest =>
         clear HC35
         try clear c1
         try clear c2
         try clear p2
         try clear c3
         try clear c4
         try clear c4b0
         try clear c4b1
         try clear c5
         try clear c6
         try clear c8
         try clear c10
         try clear c11
         try clear c14
         try clear c16
         try clear c17
         try clear c22
         try clear c23
         try clear c26
         try clear c26b0
         try clear c26b1
         try clear c28
         try clear c32
         try clear c33
         try clear c33b0
         try clear c33b1
         try clear c34
         try clear c34b0
         try clear c34b1
         try clear c36
         try clear c36b0
         try clear c36b1
         try clear c39
         try clear c42
         try clear c51
         try clear c53
         try clear c54
         try clear c55
         try clear c58
         try clear hcz14
         try clear hcz18
         try clear hcz24
         try clear hcz56
         try clear hcz59
         try clear hcz7
         try clear hfz14
         try clear hfz18
         try clear hfz24
         try clear hfz56
         try clear hfz59
         try clear hfz7
         try clear p2
         obtain ⟨kq, HA, HJ34, HO_636001, HO_643001, BK626, BK635, BK642, HB⟩ := hcut
         cases kq with
         | zero => exact absurd HA.out (by simp [cutplanelaw03_WordValues.j2])
         | succ kj34 =>
          have H := HA.out
          clear HA
          simp only [cutplanelaw03_WordValues.j2] at H
          replace H := Option.bind_eq_some_iff.mp H
          obtain ⟨⟨t658, t659⟩, A610, H⟩ := H
          replace H : ((cutplaneref03_Is.f a0).bind fun t660 => (if t660 = true then ((cutplaneref02_May.f a2_0 l2_1 a2_2).bind fun t663 => (if t663 = true then ((cutplaneref03_Of.f kj34 a0 a2_0 l2_1 a2_2).bind fun bt666 => (if bt666.2 = true then ((cutplanelaw03_is.f t658 t659 bt666.1 0).bind fun t668 => (if t668 = true then ((cutplanelaw03_known.f kj34).bind fun t669 => (some t669)) else (none))) else ((cutplanelaw03_is.f t658 t659 0 7).bind fun t670 => (if t670 = true then ((cutplanelaw03_known.f kj34).bind fun t671 => (some t671)) else (none))))) else ((cutplanelaw03_is.f t658 t659 0 2).bind fun t664 => (if t664 = true then ((cutplanelaw03_known.f kj34).bind fun t665 => (some t665)) else (none))))) else ((cutplanelaw03_is.f t658 t659 0 4).bind fun t661 => (if t661 = true then ((cutplanelaw03_known.f kj34).bind fun t662 => (some t662)) else (none))))) = some r := H
          have A61 := A0_ A610
          clear A610
          replace H := Option.bind_eq_some_iff.mp H
          obtain ⟨t660, A620, H⟩ := H
          replace H : (if t660 = true then ((cutplaneref02_May.f a2_0 l2_1 a2_2).bind fun t663 => (if t663 = true then ((cutplaneref03_Of.f kj34 a0 a2_0 l2_1 a2_2).bind fun bt666 => (if bt666.2 = true then ((cutplanelaw03_is.f t658 t659 bt666.1 0).bind fun t668 => (if t668 = true then ((cutplanelaw03_known.f kj34).bind fun t669 => (some t669)) else (none))) else ((cutplanelaw03_is.f t658 t659 0 7).bind fun t670 => (if t670 = true then ((cutplanelaw03_known.f kj34).bind fun t671 => (some t671)) else (none))))) else ((cutplanelaw03_is.f t658 t659 0 2).bind fun t664 => (if t664 = true then ((cutplanelaw03_known.f kj34).bind fun t665 => (some t665)) else (none))))) else ((cutplanelaw03_is.f t658 t659 0 4).bind fun t661 => (if t661 = true then ((cutplanelaw03_known.f kj34).bind fun t662 => (some t662)) else (none)))) = some r := H
          have A62 := A0_ A620
          clear A620
          by_cases c63 : t660 = true
          ·subst c63
           have H1 : ((cutplaneref02_May.f a2_0 l2_1 a2_2).bind fun t663 => (if t663 = true then ((cutplaneref03_Of.f kj34 a0 a2_0 l2_1 a2_2).bind fun bt666 => (if bt666.2 = true then ((cutplanelaw03_is.f t658 t659 bt666.1 0).bind fun t668 => (if t668 = true then ((cutplanelaw03_known.f kj34).bind fun t669 => (some t669)) else (none))) else ((cutplanelaw03_is.f t658 t659 0 7).bind fun t670 => (if t670 = true then ((cutplanelaw03_known.f kj34).bind fun t671 => (some t671)) else (none))))) else ((cutplanelaw03_is.f t658 t659 0 2).bind fun t664 => (if t664 = true then ((cutplanelaw03_known.f kj34).bind fun t665 => (some t665)) else (none))))) = some r := by rw [if_pos rfl] at H; exact H
           clear H
           have H := H1
           clear H1
           replace H := Option.bind_eq_some_iff.mp H
           obtain ⟨t663, A640, H⟩ := H
           replace H : (if t663 = true then ((cutplaneref03_Of.f kj34 a0 a2_0 l2_1 a2_2).bind fun bt666 => (if bt666.2 = true then ((cutplanelaw03_is.f t658 t659 bt666.1 0).bind fun t668 => (if t668 = true then ((cutplanelaw03_known.f kj34).bind fun t669 => (some t669)) else (none))) else ((cutplanelaw03_is.f t658 t659 0 7).bind fun t670 => (if t670 = true then ((cutplanelaw03_known.f kj34).bind fun t671 => (some t671)) else (none))))) else ((cutplanelaw03_is.f t658 t659 0 2).bind fun t664 => (if t664 = true then ((cutplanelaw03_known.f kj34).bind fun t665 => (some t665)) else (none)))) = some r := H
           have A64 := A0_ A640
           clear A640
           by_cases c65 : t663 = true
           ·subst c65
            have H1 : ((cutplaneref03_Of.f kj34 a0 a2_0 l2_1 a2_2).bind fun bt666 => (if bt666.2 = true then ((cutplanelaw03_is.f t658 t659 bt666.1 0).bind fun t668 => (if t668 = true then ((cutplanelaw03_known.f kj34).bind fun t669 => (some t669)) else (none))) else ((cutplanelaw03_is.f t658 t659 0 7).bind fun t670 => (if t670 = true then ((cutplanelaw03_known.f kj34).bind fun t671 => (some t671)) else (none))))) = some r := by rw [if_pos rfl] at H; exact H
            clear H
            have H := H1
            clear H1
            replace H := Option.bind_eq_some_iff.mp H
            obtain ⟨⟨t666, t667⟩, A660, H⟩ := H
            replace H : (if t667 = true then ((cutplanelaw03_is.f t658 t659 t666 0).bind fun t668 => (if t668 = true then ((cutplanelaw03_known.f kj34).bind fun t669 => (some t669)) else (none))) else ((cutplanelaw03_is.f t658 t659 0 7).bind fun t670 => (if t670 = true then ((cutplanelaw03_known.f kj34).bind fun t671 => (some t671)) else (none)))) = some r := H
            have A66 := A0_ A660
            clear A660
            by_cases c67 : t667 = true
            ·subst c67
             have H1 : ((cutplanelaw03_is.f t658 t659 t666 0).bind fun t668 => (if t668 = true then ((cutplanelaw03_known.f kj34).bind fun t669 => (some t669)) else (none))) = some r := by rw [if_pos rfl] at H; exact H
             clear H
             have H := H1
             clear H1
             replace H := Option.bind_eq_some_iff.mp H
             obtain ⟨t668, A680, H⟩ := H
             replace H : (if t668 = true then ((cutplanelaw03_known.f kj34).bind fun t669 => (some t669)) else (none)) = some r := H
             have A68 := A0_ A680
             clear A680
             by_cases c69 : t668 = true
             ·subst c69
              have H1 : ((cutplanelaw03_known.f kj34).bind fun t669 => (some t669)) = some r := by rw [if_pos rfl] at H; exact H
              clear H
              have H := H1
              clear H1
              replace H := Option.bind_eq_some_iff.mp H
              obtain ⟨t669, A700, H⟩ := H
              replace H : (some t669) = some r := H
              have A70 := A0_ A700
              clear A700
              obtain rfl := Option.some.inj H
              have hnb71 := NB626_635.out
              have hnc71 := NB635_626.out
              have hnb72 := NB626_642.out
              have hnc72 := NB642_626.out
              have hcz73 := bc3_ BK626.out
              have hfz73 := bf3_ BK626.out
              go_wp2_with (first | ((with_reducible refine gate_callee (f := 18) rfl ?_); refine goesL_ (some 83) rfl rfl Tryd.func18 (by kernel_rfl) rfl #[.int .u8 a0, .agg #[.bool a2_0, .slice A2_1 l2_1.length c2_1, .int .i64 a2_2]] rfl (by (try simp only [List.map_toArray, List.map_cons, List.map_nil]); first | done | rfl | (simp only [List.length_drop, List.length_take]; rfl)) ?_; (with_reducible refine (word_Of.calls kj34 a0 a2_0 _ _ l2_1 a2_2 t658 t659 _ ?side1 ?side2 A61.out).mono ?_); (case side1 => repeat (first | exact (Kd.C_below HR2_1.out HB.out) | (with_reducible refine Kd.C_alloc ?_ _) | (with_reducible refine Kd.C_drewN ?_ _) | (with_reducible refine Kd.C_drew ?_))); (case side2 => exact HC2_1.out); rintro e w74 ⟨rfl, hb⟩; refine ⟨_, rfl, ?_⟩; have n0_ := A0_ (Kd.V_below (by exact vm_ HO_636001.out) hb); have n1_ := A0_ (Kd.V_below (by exact vm_ HO_643001.out) hb); have n2_ := A0_ (blk_below (bm_ BK626.out) hb); have n3_ := A0_ (blk_below (bm_ BK635.out) hb); have n4_ := A0_ (blk_below (bm_ BK642.out) hb); have n5_ := A0_ (below_step (by repeat (first | (with_reducible first | exact qm_ HB.out | apply qA_ | apply qN_ | apply qD_ | refine below_set ?_ GE626.out | refine below_set ?_ GE635.out | refine below_set ?_ GE642.out) | exact HB.out)) hb); clear HO_636001 HO_643001 BK626 BK635 BK642 HB; have HO_636001 := n0_; have HO_643001 := n1_; have BK626 := n2_; have BK635 := n3_; have BK642 := n4_; have HB := n5_; clear n0_ n1_ n2_ n3_ n4_ n5_; (try clear hb)) | ((with_reducible refine gate_callee (f := 19) rfl ?_); refine goesL_ (some 87) rfl rfl Tryd.func19 (by kernel_rfl) rfl #[.int .u8 a0] rfl (by (try simp only [List.map_toArray, List.map_cons, List.map_nil]); first | done | rfl | (simp only [List.length_drop, List.length_take]; rfl)) ?_; (with_reducible refine (cutplaneref03_Is.calls a0 true _ A62.out).mono ?_); rintro e w' ⟨rfl, ⟨nd, rfl⟩⟩; refine ⟨_, rfl, ?_⟩; have hcz75 := bc3_ BK626.out; have hfz75 := bf3_ BK626.out) | ((with_reducible refine gate_callee (f := 21) rfl ?_); refine goesL_ (some 96) rfl rfl Tryd.func21 (by kernel_rfl) rfl #[.agg #[.bool a2_0, .slice A2_1 l2_1.length c2_1, .int .i64 a2_2]] rfl (by (try simp only [List.map_toArray, List.map_cons, List.map_nil]); first | done | rfl | (simp only [List.length_drop, List.length_take]; rfl)) ?_; (with_reducible refine (cutplaneref02_May.calls a2_0 _ _ l2_1 a2_2 true _ ?side1 ?side2 A64.out).mono ?_); (case side1 => repeat (first | exact (Kd.C_below HR2_1.out (by repeat (first | (with_reducible first | exact qm_ HB.out | apply qA_ | apply qN_ | apply qD_ | refine below_set ?_ GE626.out | refine below_set ?_ GE635.out | refine below_set ?_ GE642.out) | exact HB.out))) | (with_reducible refine Kd.C_alloc ?_ _) | (with_reducible refine Kd.C_drewN ?_ _) | (with_reducible refine Kd.C_drew ?_))); (case side2 => exact HC2_1.out); rintro e w76 ⟨rfl, hb⟩; refine ⟨_, rfl, ?_⟩; have n0_ := A0_ (Kd.V_below (by exact vm_ HO_636001.out) hb); have n1_ := A0_ (Kd.V_below (by exact vm_ HO_643001.out) hb); have n2_ := A0_ (blk_below (bm_ BK626.out) hb); have n3_ := A0_ (blk_below (bm_ BK635.out) hb); have n4_ := A0_ (blk_below (bm_ BK642.out) hb); have n5_ := A0_ (below_step (by repeat (first | (with_reducible first | exact qm_ HB.out | apply qA_ | apply qN_ | apply qD_ | refine below_set ?_ GE626.out | refine below_set ?_ GE635.out | refine below_set ?_ GE642.out) | exact HB.out)) hb); clear HO_636001 HO_643001 BK626 BK635 BK642 HB; have HO_636001 := n0_; have HO_643001 := n1_; have BK626 := n2_; have BK635 := n3_; have BK642 := n4_; have HB := n5_; clear n0_ n1_ n2_ n3_ n4_ n5_; (try clear hb); have hcz77 := bc3_ BK626.out; have hfz77 := bf3_ BK626.out) | ((with_reducible refine gate_callee (f := 22) rfl ?_); refine goesL_ (some 107) rfl rfl Tryd.func22 (by kernel_rfl) rfl #[.int .u8 a0, .agg #[.bool a2_0, .slice A2_1 l2_1.length c2_1, .int .i64 a2_2]] rfl (by (try simp only [List.map_toArray, List.map_cons, List.map_nil]); first | done | rfl | (simp only [List.length_drop, List.length_take]; rfl)) ?_; (with_reducible refine (cutplaneref03_Of.calls kj34 a0 a2_0 _ _ l2_1 a2_2 t666 true _ ?side1 ?side2 A66.out).mono ?_); (case side1 => repeat (first | exact (Kd.C_below HR2_1.out HB.out) | (with_reducible refine Kd.C_alloc ?_ _) | (with_reducible refine Kd.C_drewN ?_ _) | (with_reducible refine Kd.C_drew ?_))); (case side2 => exact HC2_1.out); rintro e w78 ⟨rfl, hb⟩; refine ⟨_, rfl, ?_⟩; have n0_ := A0_ (Kd.V_below (by exact vm_ HO_636001.out) hb); have n1_ := A0_ (Kd.V_below (by exact vm_ HO_643001.out) hb); have n2_ := A0_ (blk_below (bm_ BK626.out) hb); have n3_ := A0_ (blk_below (bm_ BK635.out) hb); have n4_ := A0_ (blk_below (bm_ BK642.out) hb); have n5_ := A0_ (below_step (by repeat (first | (with_reducible first | exact qm_ HB.out | apply qA_ | apply qN_ | apply qD_ | refine below_set ?_ GE626.out | refine below_set ?_ GE635.out | refine below_set ?_ GE642.out) | exact HB.out)) hb); clear HO_636001 HO_643001 BK626 BK635 BK642 HB; have HO_636001 := n0_; have HO_643001 := n1_; have BK626 := n2_; have BK635 := n3_; have BK642 := n4_; have HB := n5_; clear n0_ n1_ n2_ n3_ n4_ n5_; (try clear hb)) | ((with_reducible refine gate_callee (f := 20) rfl ?_); refine goesL_ (some 121) rfl rfl Tryd.func20 (by kernel_rfl) rfl #[.int .u64 t658, .int .i64 t659, .int .u64 t666, .int .i64 0] rfl (by (try simp only [List.map_toArray, List.map_cons, List.map_nil]); first | done | rfl | (simp only [List.length_drop, List.length_take]; rfl)) ?_; (with_reducible refine (cutplanelaw03_is.calls t658 t659 t666 0 true _ A68.out).mono ?_); rintro e w' ⟨rfl, ⟨nd, rfl⟩⟩; refine ⟨_, rfl, ?_⟩) | (go_at_call 8; (with_reducible refine (cutplanelaw03_known.calls kj34  t669 _ A70.out).mono ?_); rintro e w79 ⟨rfl, hb⟩; have n0_ := A0_ (Kd.V_below (by exact vm_ HO_636001.out) hb); have n1_ := A0_ (Kd.V_below (by exact vm_ HO_643001.out) hb); have n2_ := A0_ (blk_below (bm_ BK626.out) hb); have n3_ := A0_ (blk_below (bm_ BK635.out) hb); have n4_ := A0_ (blk_below (bm_ BK642.out) hb); have n5_ := A0_ (below_step (by repeat (first | (with_reducible first | exact qm_ HB.out | apply qA_ | apply qN_ | apply qD_ | refine below_set ?_ GE626.out | refine below_set ?_ GE635.out | refine below_set ?_ GE642.out) | exact HB.out)) hb); clear HO_636001 HO_643001 BK626 BK635 BK642 HB; have HO_636001 := n0_; have HO_643001 := n1_; have BK626 := n2_; have BK635 := n3_; have BK642 := n4_; have HB := n5_; clear n0_ n1_ n2_ n3_ n4_ n5_; (try clear hb)))
              go_ret
              exact ⟨by first | rfl | (simp [errW_none, errW_some] <;> rfl) | (simp [*, errW_none, errW_some] <;> rfl), by repeat (first | (with_reducible first | exact qm_ HB.out | apply qA_ | apply qN_ | apply qD_ | refine below_set ?_ GE626.out | refine below_set ?_ GE635.out | refine below_set ?_ GE642.out) | exact HB.out)⟩
             ·replace c69 := Bool.eq_false_iff.mpr c69
              subst c69
              have H1 : (none) = some r := by rw [if_neg (show ¬ (false = true) by decide)] at H; exact H
              clear H
              have H := H1
              clear H1
              exact absurd H (by simp)
            ·replace c67 := Bool.eq_false_iff.mpr c67
             subst c67
             have H1 : ((cutplanelaw03_is.f t658 t659 0 7).bind fun t670 => (if t670 = true then ((cutplanelaw03_known.f kj34).bind fun t671 => (some t671)) else (none))) = some r := by rw [if_neg (show ¬ (false = true) by decide)] at H; exact H
             clear H
             have H := H1
             clear H1
             replace H := Option.bind_eq_some_iff.mp H
             obtain ⟨t670, A800, H⟩ := H
             replace H : (if t670 = true then ((cutplanelaw03_known.f kj34).bind fun t671 => (some t671)) else (none)) = some r := H
             have A80 := A0_ A800
             clear A800
             by_cases c81 : t670 = true
             ·subst c81
              have H1 : ((cutplanelaw03_known.f kj34).bind fun t671 => (some t671)) = some r := by rw [if_pos rfl] at H; exact H
              clear H
              have H := H1
              clear H1
              replace H := Option.bind_eq_some_iff.mp H
              obtain ⟨t671, A820, H⟩ := H
              replace H : (some t671) = some r := H
              have A82 := A0_ A820
              clear A820
              obtain rfl := Option.some.inj H
              have hnb83 := NB626_635.out
              have hnc83 := NB635_626.out
              have hnb84 := NB626_642.out
              have hnc84 := NB642_626.out
              have hcz85 := bc3_ BK626.out
              have hfz85 := bf3_ BK626.out
              go_wp2_with (first | ((with_reducible refine gate_callee (f := 18) rfl ?_); refine goesL_ (some 83) rfl rfl Tryd.func18 (by kernel_rfl) rfl #[.int .u8 a0, .agg #[.bool a2_0, .slice A2_1 l2_1.length c2_1, .int .i64 a2_2]] rfl (by (try simp only [List.map_toArray, List.map_cons, List.map_nil]); first | done | rfl | (simp only [List.length_drop, List.length_take]; rfl)) ?_; (with_reducible refine (word_Of.calls kj34 a0 a2_0 _ _ l2_1 a2_2 t658 t659 _ ?side1 ?side2 A61.out).mono ?_); (case side1 => repeat (first | exact (Kd.C_below HR2_1.out HB.out) | (with_reducible refine Kd.C_alloc ?_ _) | (with_reducible refine Kd.C_drewN ?_ _) | (with_reducible refine Kd.C_drew ?_))); (case side2 => exact HC2_1.out); rintro e w86 ⟨rfl, hb⟩; refine ⟨_, rfl, ?_⟩; have n0_ := A0_ (Kd.V_below (by exact vm_ HO_636001.out) hb); have n1_ := A0_ (Kd.V_below (by exact vm_ HO_643001.out) hb); have n2_ := A0_ (blk_below (bm_ BK626.out) hb); have n3_ := A0_ (blk_below (bm_ BK635.out) hb); have n4_ := A0_ (blk_below (bm_ BK642.out) hb); have n5_ := A0_ (below_step (by repeat (first | (with_reducible first | exact qm_ HB.out | apply qA_ | apply qN_ | apply qD_ | refine below_set ?_ GE626.out | refine below_set ?_ GE635.out | refine below_set ?_ GE642.out) | exact HB.out)) hb); clear HO_636001 HO_643001 BK626 BK635 BK642 HB; have HO_636001 := n0_; have HO_643001 := n1_; have BK626 := n2_; have BK635 := n3_; have BK642 := n4_; have HB := n5_; clear n0_ n1_ n2_ n3_ n4_ n5_; (try clear hb)) | ((with_reducible refine gate_callee (f := 19) rfl ?_); refine goesL_ (some 87) rfl rfl Tryd.func19 (by kernel_rfl) rfl #[.int .u8 a0] rfl (by (try simp only [List.map_toArray, List.map_cons, List.map_nil]); first | done | rfl | (simp only [List.length_drop, List.length_take]; rfl)) ?_; (with_reducible refine (cutplaneref03_Is.calls a0 true _ A62.out).mono ?_); rintro e w' ⟨rfl, ⟨nd, rfl⟩⟩; refine ⟨_, rfl, ?_⟩; have hcz87 := bc3_ BK626.out; have hfz87 := bf3_ BK626.out) | ((with_reducible refine gate_callee (f := 21) rfl ?_); refine goesL_ (some 96) rfl rfl Tryd.func21 (by kernel_rfl) rfl #[.agg #[.bool a2_0, .slice A2_1 l2_1.length c2_1, .int .i64 a2_2]] rfl (by (try simp only [List.map_toArray, List.map_cons, List.map_nil]); first | done | rfl | (simp only [List.length_drop, List.length_take]; rfl)) ?_; (with_reducible refine (cutplaneref02_May.calls a2_0 _ _ l2_1 a2_2 true _ ?side1 ?side2 A64.out).mono ?_); (case side1 => repeat (first | exact (Kd.C_below HR2_1.out (by repeat (first | (with_reducible first | exact qm_ HB.out | apply qA_ | apply qN_ | apply qD_ | refine below_set ?_ GE626.out | refine below_set ?_ GE635.out | refine below_set ?_ GE642.out) | exact HB.out))) | (with_reducible refine Kd.C_alloc ?_ _) | (with_reducible refine Kd.C_drewN ?_ _) | (with_reducible refine Kd.C_drew ?_))); (case side2 => exact HC2_1.out); rintro e w88 ⟨rfl, hb⟩; refine ⟨_, rfl, ?_⟩; have n0_ := A0_ (Kd.V_below (by exact vm_ HO_636001.out) hb); have n1_ := A0_ (Kd.V_below (by exact vm_ HO_643001.out) hb); have n2_ := A0_ (blk_below (bm_ BK626.out) hb); have n3_ := A0_ (blk_below (bm_ BK635.out) hb); have n4_ := A0_ (blk_below (bm_ BK642.out) hb); have n5_ := A0_ (below_step (by repeat (first | (with_reducible first | exact qm_ HB.out | apply qA_ | apply qN_ | apply qD_ | refine below_set ?_ GE626.out | refine below_set ?_ GE635.out | refine below_set ?_ GE642.out) | exact HB.out)) hb); clear HO_636001 HO_643001 BK626 BK635 BK642 HB; have HO_636001 := n0_; have HO_643001 := n1_; have BK626 := n2_; have BK635 := n3_; have BK642 := n4_; have HB := n5_; clear n0_ n1_ n2_ n3_ n4_ n5_; (try clear hb); have hcz89 := bc3_ BK626.out; have hfz89 := bf3_ BK626.out) | ((with_reducible refine gate_callee (f := 22) rfl ?_); refine goesL_ (some 107) rfl rfl Tryd.func22 (by kernel_rfl) rfl #[.int .u8 a0, .agg #[.bool a2_0, .slice A2_1 l2_1.length c2_1, .int .i64 a2_2]] rfl (by (try simp only [List.map_toArray, List.map_cons, List.map_nil]); first | done | rfl | (simp only [List.length_drop, List.length_take]; rfl)) ?_; (with_reducible refine (cutplaneref03_Of.calls kj34 a0 a2_0 _ _ l2_1 a2_2 t666 false _ ?side1 ?side2 A66.out).mono ?_); (case side1 => repeat (first | exact (Kd.C_below HR2_1.out HB.out) | (with_reducible refine Kd.C_alloc ?_ _) | (with_reducible refine Kd.C_drewN ?_ _) | (with_reducible refine Kd.C_drew ?_))); (case side2 => exact HC2_1.out); rintro e w90 ⟨rfl, hb⟩; refine ⟨_, rfl, ?_⟩; have n0_ := A0_ (Kd.V_below (by exact vm_ HO_636001.out) hb); have n1_ := A0_ (Kd.V_below (by exact vm_ HO_643001.out) hb); have n2_ := A0_ (blk_below (bm_ BK626.out) hb); have n3_ := A0_ (blk_below (bm_ BK635.out) hb); have n4_ := A0_ (blk_below (bm_ BK642.out) hb); have n5_ := A0_ (below_step (by repeat (first | (with_reducible first | exact qm_ HB.out | apply qA_ | apply qN_ | apply qD_ | refine below_set ?_ GE626.out | refine below_set ?_ GE635.out | refine below_set ?_ GE642.out) | exact HB.out)) hb); clear HO_636001 HO_643001 BK626 BK635 BK642 HB; have HO_636001 := n0_; have HO_643001 := n1_; have BK626 := n2_; have BK635 := n3_; have BK642 := n4_; have HB := n5_; clear n0_ n1_ n2_ n3_ n4_ n5_; (try clear hb)) | ((with_reducible refine gate_callee (f := 20) rfl ?_); refine goesL_ (some 114) rfl rfl Tryd.func20 (by kernel_rfl) rfl #[.int .u64 t658, .int .i64 t659, .int .u64 0, .int .i64 7] rfl (by (try simp only [List.map_toArray, List.map_cons, List.map_nil]); first | done | rfl | (simp only [List.length_drop, List.length_take]; rfl)) ?_; (with_reducible refine (cutplanelaw03_is.calls t658 t659 0 7 true _ A80.out).mono ?_); rintro e w' ⟨rfl, ⟨nd, rfl⟩⟩; refine ⟨_, rfl, ?_⟩) | (go_at_call 8; (with_reducible refine (cutplanelaw03_known.calls kj34  t671 _ A82.out).mono ?_); rintro e w91 ⟨rfl, hb⟩; have n0_ := A0_ (Kd.V_below (by exact vm_ HO_636001.out) hb); have n1_ := A0_ (Kd.V_below (by exact vm_ HO_643001.out) hb); have n2_ := A0_ (blk_below (bm_ BK626.out) hb); have n3_ := A0_ (blk_below (bm_ BK635.out) hb); have n4_ := A0_ (blk_below (bm_ BK642.out) hb); have n5_ := A0_ (below_step (by repeat (first | (with_reducible first | exact qm_ HB.out | apply qA_ | apply qN_ | apply qD_ | refine below_set ?_ GE626.out | refine below_set ?_ GE635.out | refine below_set ?_ GE642.out) | exact HB.out)) hb); clear HO_636001 HO_643001 BK626 BK635 BK642 HB; have HO_636001 := n0_; have HO_643001 := n1_; have BK626 := n2_; have BK635 := n3_; have BK642 := n4_; have HB := n5_; clear n0_ n1_ n2_ n3_ n4_ n5_; (try clear hb)))
              go_ret
              exact ⟨by first | rfl | (simp [errW_none, errW_some] <;> rfl) | (simp [*, errW_none, errW_some] <;> rfl), by repeat (first | (with_reducible first | exact qm_ HB.out | apply qA_ | apply qN_ | apply qD_ | refine below_set ?_ GE626.out | refine below_set ?_ GE635.out | refine below_set ?_ GE642.out) | exact HB.out)⟩
             ·replace c81 := Bool.eq_false_iff.mpr c81
              subst c81
              have H1 : (none) = some r := by rw [if_neg (show ¬ (false = true) by decide)] at H; exact H
              clear H
              have H := H1
              clear H1
              exact absurd H (by simp)
           ·replace c65 := Bool.eq_false_iff.mpr c65
            subst c65
            have H1 : ((cutplanelaw03_is.f t658 t659 0 2).bind fun t664 => (if t664 = true then ((cutplanelaw03_known.f kj34).bind fun t665 => (some t665)) else (none))) = some r := by rw [if_neg (show ¬ (false = true) by decide)] at H; exact H
            clear H
            have H := H1
            clear H1
            replace H := Option.bind_eq_some_iff.mp H
            obtain ⟨t664, A920, H⟩ := H
            replace H : (if t664 = true then ((cutplanelaw03_known.f kj34).bind fun t665 => (some t665)) else (none)) = some r := H
            have A92 := A0_ A920
            clear A920
            by_cases c93 : t664 = true
            ·subst c93
             have H1 : ((cutplanelaw03_known.f kj34).bind fun t665 => (some t665)) = some r := by rw [if_pos rfl] at H; exact H
             clear H
             have H := H1
             clear H1
             replace H := Option.bind_eq_some_iff.mp H
             obtain ⟨t665, A940, H⟩ := H
             replace H : (some t665) = some r := H
             have A94 := A0_ A940
             clear A940
             obtain rfl := Option.some.inj H
             have hnb95 := NB626_635.out
             have hnc95 := NB635_626.out
             have hnb96 := NB626_642.out
             have hnc96 := NB642_626.out
             have hcz97 := bc3_ BK626.out
             have hfz97 := bf3_ BK626.out
             go_wp2_with (first | ((with_reducible refine gate_callee (f := 18) rfl ?_); refine goesL_ (some 83) rfl rfl Tryd.func18 (by kernel_rfl) rfl #[.int .u8 a0, .agg #[.bool a2_0, .slice A2_1 l2_1.length c2_1, .int .i64 a2_2]] rfl (by (try simp only [List.map_toArray, List.map_cons, List.map_nil]); first | done | rfl | (simp only [List.length_drop, List.length_take]; rfl)) ?_; (with_reducible refine (word_Of.calls kj34 a0 a2_0 _ _ l2_1 a2_2 t658 t659 _ ?side1 ?side2 A61.out).mono ?_); (case side1 => repeat (first | exact (Kd.C_below HR2_1.out HB.out) | (with_reducible refine Kd.C_alloc ?_ _) | (with_reducible refine Kd.C_drewN ?_ _) | (with_reducible refine Kd.C_drew ?_))); (case side2 => exact HC2_1.out); rintro e w98 ⟨rfl, hb⟩; refine ⟨_, rfl, ?_⟩; have n0_ := A0_ (Kd.V_below (by exact vm_ HO_636001.out) hb); have n1_ := A0_ (Kd.V_below (by exact vm_ HO_643001.out) hb); have n2_ := A0_ (blk_below (bm_ BK626.out) hb); have n3_ := A0_ (blk_below (bm_ BK635.out) hb); have n4_ := A0_ (blk_below (bm_ BK642.out) hb); have n5_ := A0_ (below_step (by repeat (first | (with_reducible first | exact qm_ HB.out | apply qA_ | apply qN_ | apply qD_ | refine below_set ?_ GE626.out | refine below_set ?_ GE635.out | refine below_set ?_ GE642.out) | exact HB.out)) hb); clear HO_636001 HO_643001 BK626 BK635 BK642 HB; have HO_636001 := n0_; have HO_643001 := n1_; have BK626 := n2_; have BK635 := n3_; have BK642 := n4_; have HB := n5_; clear n0_ n1_ n2_ n3_ n4_ n5_; (try clear hb)) | ((with_reducible refine gate_callee (f := 19) rfl ?_); refine goesL_ (some 87) rfl rfl Tryd.func19 (by kernel_rfl) rfl #[.int .u8 a0] rfl (by (try simp only [List.map_toArray, List.map_cons, List.map_nil]); first | done | rfl | (simp only [List.length_drop, List.length_take]; rfl)) ?_; (with_reducible refine (cutplaneref03_Is.calls a0 true _ A62.out).mono ?_); rintro e w' ⟨rfl, ⟨nd, rfl⟩⟩; refine ⟨_, rfl, ?_⟩; have hcz99 := bc3_ BK626.out; have hfz99 := bf3_ BK626.out) | ((with_reducible refine gate_callee (f := 21) rfl ?_); refine goesL_ (some 96) rfl rfl Tryd.func21 (by kernel_rfl) rfl #[.agg #[.bool a2_0, .slice A2_1 l2_1.length c2_1, .int .i64 a2_2]] rfl (by (try simp only [List.map_toArray, List.map_cons, List.map_nil]); first | done | rfl | (simp only [List.length_drop, List.length_take]; rfl)) ?_; (with_reducible refine (cutplaneref02_May.calls a2_0 _ _ l2_1 a2_2 false _ ?side1 ?side2 A64.out).mono ?_); (case side1 => repeat (first | exact (Kd.C_below HR2_1.out (by repeat (first | (with_reducible first | exact qm_ HB.out | apply qA_ | apply qN_ | apply qD_ | refine below_set ?_ GE626.out | refine below_set ?_ GE635.out | refine below_set ?_ GE642.out) | exact HB.out))) | (with_reducible refine Kd.C_alloc ?_ _) | (with_reducible refine Kd.C_drewN ?_ _) | (with_reducible refine Kd.C_drew ?_))); (case side2 => exact HC2_1.out); rintro e w100 ⟨rfl, hb⟩; refine ⟨_, rfl, ?_⟩; have n0_ := A0_ (Kd.V_below (by exact vm_ HO_636001.out) hb); have n1_ := A0_ (Kd.V_below (by exact vm_ HO_643001.out) hb); have n2_ := A0_ (blk_below (bm_ BK626.out) hb); have n3_ := A0_ (blk_below (bm_ BK635.out) hb); have n4_ := A0_ (blk_below (bm_ BK642.out) hb); have n5_ := A0_ (below_step (by repeat (first | (with_reducible first | exact qm_ HB.out | apply qA_ | apply qN_ | apply qD_ | refine below_set ?_ GE626.out | refine below_set ?_ GE635.out | refine below_set ?_ GE642.out) | exact HB.out)) hb); clear HO_636001 HO_643001 BK626 BK635 BK642 HB; have HO_636001 := n0_; have HO_643001 := n1_; have BK626 := n2_; have BK635 := n3_; have BK642 := n4_; have HB := n5_; clear n0_ n1_ n2_ n3_ n4_ n5_; (try clear hb)) | ((with_reducible refine gate_callee (f := 20) rfl ?_); refine goesL_ (some 100) rfl rfl Tryd.func20 (by kernel_rfl) rfl #[.int .u64 t658, .int .i64 t659, .int .u64 0, .int .i64 2] rfl (by (try simp only [List.map_toArray, List.map_cons, List.map_nil]); first | done | rfl | (simp only [List.length_drop, List.length_take]; rfl)) ?_; (with_reducible refine (cutplanelaw03_is.calls t658 t659 0 2 true _ A92.out).mono ?_); rintro e w' ⟨rfl, ⟨nd, rfl⟩⟩; refine ⟨_, rfl, ?_⟩) | (go_at_call 8; (with_reducible refine (cutplanelaw03_known.calls kj34  t665 _ A94.out).mono ?_); rintro e w101 ⟨rfl, hb⟩; have n0_ := A0_ (Kd.V_below (by exact vm_ HO_636001.out) hb); have n1_ := A0_ (Kd.V_below (by exact vm_ HO_643001.out) hb); have n2_ := A0_ (blk_below (bm_ BK626.out) hb); have n3_ := A0_ (blk_below (bm_ BK635.out) hb); have n4_ := A0_ (blk_below (bm_ BK642.out) hb); have n5_ := A0_ (below_step (by repeat (first | (with_reducible first | exact qm_ HB.out | apply qA_ | apply qN_ | apply qD_ | refine below_set ?_ GE626.out | refine below_set ?_ GE635.out | refine below_set ?_ GE642.out) | exact HB.out)) hb); clear HO_636001 HO_643001 BK626 BK635 BK642 HB; have HO_636001 := n0_; have HO_643001 := n1_; have BK626 := n2_; have BK635 := n3_; have BK642 := n4_; have HB := n5_; clear n0_ n1_ n2_ n3_ n4_ n5_; (try clear hb)))
             go_ret
             exact ⟨by first | rfl | (simp [errW_none, errW_some] <;> rfl) | (simp [*, errW_none, errW_some] <;> rfl), by repeat (first | (with_reducible first | exact qm_ HB.out | apply qA_ | apply qN_ | apply qD_ | refine below_set ?_ GE626.out | refine below_set ?_ GE635.out | refine below_set ?_ GE642.out) | exact HB.out)⟩
            ·replace c93 := Bool.eq_false_iff.mpr c93
             subst c93
             have H1 : (none) = some r := by rw [if_neg (show ¬ (false = true) by decide)] at H; exact H
             clear H
             have H := H1
             clear H1
             exact absurd H (by simp)
          ·replace c63 := Bool.eq_false_iff.mpr c63
           subst c63
           have H1 : ((cutplanelaw03_is.f t658 t659 0 4).bind fun t661 => (if t661 = true then ((cutplanelaw03_known.f kj34).bind fun t662 => (some t662)) else (none))) = some r := by rw [if_neg (show ¬ (false = true) by decide)] at H; exact H
           clear H
           have H := H1
           clear H1
           replace H := Option.bind_eq_some_iff.mp H
           obtain ⟨t661, A1020, H⟩ := H
           replace H : (if t661 = true then ((cutplanelaw03_known.f kj34).bind fun t662 => (some t662)) else (none)) = some r := H
           have A102 := A0_ A1020
           clear A1020
           by_cases c103 : t661 = true
           ·subst c103
            have H1 : ((cutplanelaw03_known.f kj34).bind fun t662 => (some t662)) = some r := by rw [if_pos rfl] at H; exact H
            clear H
            have H := H1
            clear H1
            replace H := Option.bind_eq_some_iff.mp H
            obtain ⟨t662, A1040, H⟩ := H
            replace H : (some t662) = some r := H
            have A104 := A0_ A1040
            clear A1040
            obtain rfl := Option.some.inj H
            have hnb105 := NB626_635.out
            have hnc105 := NB635_626.out
            have hnb106 := NB626_642.out
            have hnc106 := NB642_626.out
            have hcz107 := bc3_ BK626.out
            have hfz107 := bf3_ BK626.out
            go_wp2_with (first | ((with_reducible refine gate_callee (f := 18) rfl ?_); refine goesL_ (some 83) rfl rfl Tryd.func18 (by kernel_rfl) rfl #[.int .u8 a0, .agg #[.bool a2_0, .slice A2_1 l2_1.length c2_1, .int .i64 a2_2]] rfl (by (try simp only [List.map_toArray, List.map_cons, List.map_nil]); first | done | rfl | (simp only [List.length_drop, List.length_take]; rfl)) ?_; (with_reducible refine (word_Of.calls kj34 a0 a2_0 _ _ l2_1 a2_2 t658 t659 _ ?side1 ?side2 A61.out).mono ?_); (case side1 => repeat (first | exact (Kd.C_below HR2_1.out HB.out) | (with_reducible refine Kd.C_alloc ?_ _) | (with_reducible refine Kd.C_drewN ?_ _) | (with_reducible refine Kd.C_drew ?_))); (case side2 => exact HC2_1.out); rintro e w108 ⟨rfl, hb⟩; refine ⟨_, rfl, ?_⟩; have n0_ := A0_ (Kd.V_below (by exact vm_ HO_636001.out) hb); have n1_ := A0_ (Kd.V_below (by exact vm_ HO_643001.out) hb); have n2_ := A0_ (blk_below (bm_ BK626.out) hb); have n3_ := A0_ (blk_below (bm_ BK635.out) hb); have n4_ := A0_ (blk_below (bm_ BK642.out) hb); have n5_ := A0_ (below_step (by repeat (first | (with_reducible first | exact qm_ HB.out | apply qA_ | apply qN_ | apply qD_ | refine below_set ?_ GE626.out | refine below_set ?_ GE635.out | refine below_set ?_ GE642.out) | exact HB.out)) hb); clear HO_636001 HO_643001 BK626 BK635 BK642 HB; have HO_636001 := n0_; have HO_643001 := n1_; have BK626 := n2_; have BK635 := n3_; have BK642 := n4_; have HB := n5_; clear n0_ n1_ n2_ n3_ n4_ n5_; (try clear hb)) | ((with_reducible refine gate_callee (f := 19) rfl ?_); refine goesL_ (some 87) rfl rfl Tryd.func19 (by kernel_rfl) rfl #[.int .u8 a0] rfl (by (try simp only [List.map_toArray, List.map_cons, List.map_nil]); first | done | rfl | (simp only [List.length_drop, List.length_take]; rfl)) ?_; (with_reducible refine (cutplaneref03_Is.calls a0 false _ A62.out).mono ?_); rintro e w' ⟨rfl, ⟨nd, rfl⟩⟩; refine ⟨_, rfl, ?_⟩) | ((with_reducible refine gate_callee (f := 20) rfl ?_); refine goesL_ (some 91) rfl rfl Tryd.func20 (by kernel_rfl) rfl #[.int .u64 t658, .int .i64 t659, .int .u64 0, .int .i64 4] rfl (by (try simp only [List.map_toArray, List.map_cons, List.map_nil]); first | done | rfl | (simp only [List.length_drop, List.length_take]; rfl)) ?_; (with_reducible refine (cutplanelaw03_is.calls t658 t659 0 4 true _ A102.out).mono ?_); rintro e w' ⟨rfl, ⟨nd, rfl⟩⟩; refine ⟨_, rfl, ?_⟩) | (go_at_call 8; (with_reducible refine (cutplanelaw03_known.calls kj34  t662 _ A104.out).mono ?_); rintro e w109 ⟨rfl, hb⟩; have n0_ := A0_ (Kd.V_below (by exact vm_ HO_636001.out) hb); have n1_ := A0_ (Kd.V_below (by exact vm_ HO_643001.out) hb); have n2_ := A0_ (blk_below (bm_ BK626.out) hb); have n3_ := A0_ (blk_below (bm_ BK635.out) hb); have n4_ := A0_ (blk_below (bm_ BK642.out) hb); have n5_ := A0_ (below_step (by repeat (first | (with_reducible first | exact qm_ HB.out | apply qA_ | apply qN_ | apply qD_ | refine below_set ?_ GE626.out | refine below_set ?_ GE635.out | refine below_set ?_ GE642.out) | exact HB.out)) hb); clear HO_636001 HO_643001 BK626 BK635 BK642 HB; have HO_636001 := n0_; have HO_643001 := n1_; have BK626 := n2_; have BK635 := n3_; have BK642 := n4_; have HB := n5_; clear n0_ n1_ n2_ n3_ n4_ n5_; (try clear hb)))
            go_ret
            exact ⟨by first | rfl | (simp [errW_none, errW_some] <;> rfl) | (simp [*, errW_none, errW_some] <;> rfl), by repeat (first | (with_reducible first | exact qm_ HB.out | apply qA_ | apply qN_ | apply qD_ | refine below_set ?_ GE626.out | refine below_set ?_ GE635.out | refine below_set ?_ GE642.out) | exact HB.out)⟩
           ·replace c103 := Bool.eq_false_iff.mpr c103
            subst c103
            have H1 : (none) = some r := by rw [if_neg (show ¬ (false = true) by decide)] at H; exact H
            clear H
            have H := H1
            clear H1
            exact absurd H (by simp)
       ·rw [if_neg c34] at H
        exact absurd H (by simp)
      ·rw [if_neg c33] at H
       exact absurd H (by simp)
end Go.Proofs.YthiklmgdmaemgaaDoor.PA
end

section
namespace Go.Proofs.YthiklmgdmaemgaaDoor.Wd
open Go
theorem nat_and_lt {n a : Nat} (h : a < 2 ^ n) : a &&& 2 ^ n = 0 := by
  apply Nat.eq_of_testBit_eq
  intro i
  rw [Nat.testBit_and, Nat.testBit_two_pow, Nat.zero_testBit]
  by_cases e : n = i
  · subst e; simp [Nat.testBit_lt_two_pow h]
  · simp [e]
theorem nat_and_ge {n l : Nat} (h : l < 2 ^ n) : (2 ^ n + l) &&& 2 ^ n = 2 ^ n := by
  apply Nat.eq_of_testBit_eq
  intro i
  rw [Nat.testBit_and, Nat.testBit_two_pow]
  by_cases e : n = i
  · subst e; rw [Nat.testBit_two_pow_add_eq, Nat.testBit_lt_two_pow h]; simp
  · simp [e]
theorem nat_or_lt {n a : Nat} (h : a < 2 ^ n) : a ||| 2 ^ n = 2 ^ n + a := by
  have := Nat.two_pow_add_eq_or_of_lt h 1
  rw [Nat.mul_one] at this
  rw [this, Nat.or_comm]
theorem nat_mask {n a : Nat} (hn : n ≤ 63) (h : a < 2 ^ (n + 1)) : a &&& (2 ^ 64 - (2 ^ n + 1)) = a % 2 ^ n := by
  apply Nat.eq_of_testBit_eq
  intro i
  rw [Nat.testBit_and, Nat.testBit_mod_two_pow, Nat.testBit_two_pow_sub_succ (by exact Nat.pow_lt_pow_right (by decide) (by omega)), Nat.testBit_two_pow]
  by_cases e : i < n
  · simp [e, show n ≠ i by omega, show i < 64 by omega]
  · by_cases e2 : n = i
    · subst e2; simp
    · have : a.testBit i = false := Nat.testBit_lt_two_pow (Nat.lt_of_lt_of_le h (Nat.pow_le_pow_right (by decide) (by omega)))
      simp [this]
section
variable {w : Int}
theorem andNot31 (h0 : 0 ≤ w) (h1 : w < 4294967296) : Go.bits .andNot .u64 w 2147483648 = w % 2147483648 := by
  obtain ⟨a, rfl⟩ := Int.eq_ofNat_of_zero_le h0
  have ha : a < 2 ^ (31 + 1) := by omega
  have e := u64_andNot_nat a 2147483648 (by omega) (by decide)
  have m : a &&& 18446744071562067967 = a % 2147483648 := nat_mask (n := 31) (by decide) ha
  rw [show ((2147483648 : Int)) = ((2147483648 : Nat) : Int) from rfl, e, show (18446744073709551615 - 2147483648 : Nat) = 18446744071562067967 from rfl, m]
  omega
theorem andNot63 (h0 : 0 ≤ w) (h1 : w < 18446744073709551616) : Go.bits .andNot .u64 w 9223372036854775808 = w % 9223372036854775808 := by
  obtain ⟨a, rfl⟩ := Int.eq_ofNat_of_zero_le h0
  have ha : a < 2 ^ (63 + 1) := by omega
  have e := u64_andNot_nat a 9223372036854775808 (by omega) (by decide)
  have m : a &&& 9223372036854775807 = a % 9223372036854775808 := nat_mask (n := 63) (by decide) ha
  rw [show ((9223372036854775808 : Int)) = ((9223372036854775808 : Nat) : Int) from rfl, e, show (18446744073709551615 - 9223372036854775808 : Nat) = 9223372036854775807 from rfl, m]
  omega
theorem and31 (h0 : 0 ≤ w) (h1 : w < 4294967296) : Go.bits .and .u64 w 2147483648 = if w ≥ 2147483648 then 2147483648 else 0 := by
  obtain ⟨a, rfl⟩ := Int.eq_ofNat_of_zero_le h0
  have e := u64_and_nat a 2147483648 (by omega) (by decide)
  rw [show ((2147483648 : Int)) = ((2147483648 : Nat) : Int) from rfl, e]
  by_cases c : a < 2 ^ 31
  · have m : a &&& 2147483648 = 0 := nat_and_lt (n := 31) c
    rw [m, if_neg (by omega)]; rfl
  · obtain ⟨l, rfl⟩ : ∃ l, a = 2 ^ 31 + l := ⟨a - 2 ^ 31, by omega⟩
    have m : (2 ^ 31 + l) &&& 2147483648 = 2147483648 := nat_and_ge (n := 31) (l := l) (by omega)
    rw [m, if_pos (by omega)]
theorem and63 (h0 : 0 ≤ w) (h1 : w < 18446744073709551616) : Go.bits .and .u64 w 9223372036854775808 = if w ≥ 9223372036854775808 then 9223372036854775808 else 0 := by
  obtain ⟨a, rfl⟩ := Int.eq_ofNat_of_zero_le h0
  have e := u64_and_nat a 9223372036854775808 (by omega) (by decide)
  rw [show ((9223372036854775808 : Int)) = ((9223372036854775808 : Nat) : Int) from rfl, e]
  by_cases c : a < 2 ^ 63
  · have m : a &&& 9223372036854775808 = 0 := nat_and_lt (n := 63) c
    rw [m, if_neg (by omega)]; rfl
  · obtain ⟨l, rfl⟩ : ∃ l, a = 2 ^ 63 + l := ⟨a - 2 ^ 63, by omega⟩
    have m : (2 ^ 63 + l) &&& 9223372036854775808 = 9223372036854775808 := nat_and_ge (n := 63) (l := l) (by omega)
    rw [m, if_pos (by omega)]
theorem or31 (h0 : 0 ≤ w) (h1 : w < 2147483648) : Go.bits .or .u64 w 2147483648 = w + 2147483648 := by
  obtain ⟨a, rfl⟩ := Int.eq_ofNat_of_zero_le h0
  have e := u64_or_nat a 2147483648 (by omega) (by decide)
  have m : a ||| 2147483648 = 2 ^ 31 + a := nat_or_lt (n := 31) (by omega)
  rw [show ((2147483648 : Int)) = ((2147483648 : Nat) : Int) from rfl, e, m]
  omega
theorem or63 (h0 : 0 ≤ w) (h1 : w < 9223372036854775808) : Go.bits .or .u64 w 9223372036854775808 = w + 9223372036854775808 := by
  obtain ⟨a, rfl⟩ := Int.eq_ofNat_of_zero_le h0
  have e := u64_or_nat a 9223372036854775808 (by omega) (by decide)
  have m : a ||| 9223372036854775808 = 2 ^ 63 + a := nat_or_lt (n := 63) (by omega)
  rw [show ((9223372036854775808 : Int)) = ((9223372036854775808 : Nat) : Int) from rfl, e, m]
  omega
theorem or0 (h0 : 0 ≤ w) (h1 : w < 18446744073709551616) : Go.bits .or .u64 w 0 = w := by
  obtain ⟨a, rfl⟩ := Int.eq_ofNat_of_zero_le h0
  have e := u64_or_nat a 0 (by omega) (by decide)
  rw [show ((0 : Int)) = ((0 : Nat) : Int) from rfl, e]
  simp
theorem wrapu64 (n : Int) : IntKind.u64.wrap n = n % 18446744073709551616 := by simp [IntKind.wrap, IntKind.bits, IntKind.signed]
theorem wraps_u64 (n : Int) (h₀ : 0 ≤ n) (h₁ : n < 2 ^ 64) : IntKind.u64.wrap n = n := by
  rw [wrapu64]; omega
theorem and23 (h0 : 0 ≤ w) (h1 : w < 18446744073709551616) : Go.bits .and .u64 w 8388607 = w % 8388608 :=
  bits_mask .u64 64 (by decide) wraps_u64 23 (by decide) w h0 (by omega)
theorem and52 (h0 : 0 ≤ w) (h1 : w < 18446744073709551616) : Go.bits .and .u64 w 4503599627370495 = w % 4503599627370496 :=
  bits_mask .u64 64 (by decide) wraps_u64 52 (by decide) w h0 (by omega)
theorem join23 {x y : Int} (h0 : 0 ≤ x) (h1 : x < 2199023255552) (h2 : 0 ≤ y) (h3 : y < 8388608) : Go.bits .or .u64 (x * 8388608) y = x * 8388608 + y :=
  bits_join .u64 64 (by decide) wraps_u64 23 _ _ (by omega) (by omega) (by omega) h2 (by omega) (by omega)
theorem join52 {x y : Int} (h0 : 0 ≤ x) (h1 : x < 4096) (h2 : 0 ≤ y) (h3 : y < 4503599627370496) : Go.bits .or .u64 (x * 4503599627370496) y = x * 4503599627370496 + y :=
  bits_join .u64 64 (by decide) wraps_u64 52 _ _ (by omega) (by omega) (by omega) h2 (by omega) (by omega)
end
end Go.Proofs.YthiklmgdmaemgaaDoor.Wd
end

section
namespace Go.Proofs.YthiklmgdmaemgaaDoor.Wd
open Go
/-- what a list of digits stands for -/
def vn : List Int → Nat
  | [] => 0
  | d :: t => d.toNat + 4294967296 * vn t
def Dg (l : List Int) : Prop := ∀ d ∈ l, 0 ≤ d ∧ d < 4294967296
/-- a number's digits, none of them nought at the high end -/
def dg (n : Nat) : List Int := if h : n = 0 then [] else ((n % 4294967296 : Nat) : Int) :: dg (n / 4294967296)
  termination_by n
  decreasing_by omega
theorem dg_zero : dg 0 = [] := by rw [dg]; simp
theorem dg_pos {n : Nat} (h : n ≠ 0) : dg n = ((n % 4294967296 : Nat) : Int) :: dg (n / 4294967296) := by rw [dg]; simp [h]
theorem vn_dg (n : Nat) : vn (dg n) = n := by
  induction n using Nat.strongRecOn with
  | _ n ih =>
    by_cases h : n = 0
    · subst h; rw [dg_zero]; rfl
    · rw [dg_pos h, vn, ih (n / 4294967296) (by omega)]
      have : (((n % 4294967296 : Nat) : Int)).toNat = n % 4294967296 := by omega
      rw [this]; omega
theorem dg_dg (n : Nat) : Dg (dg n) := by
  induction n using Nat.strongRecOn with
  | _ n ih =>
    by_cases h : n = 0
    · subst h; rw [dg_zero]; intro d hd; cases hd
    · rw [dg_pos h]
      intro d hd
      rcases List.mem_cons.1 hd with rfl | hd
      · omega
      · exact ih (n / 4294967296) (by omega) d hd
theorem dg_nil {n : Nat} : dg n = [] ↔ n = 0 := by
  constructor
  · intro h; have := vn_dg n; rw [h] at this; exact this.symm
  · rintro rfl; exact dg_zero
def Nm (l : List Int) : Prop := ∀ h : l ≠ [], l.getLast h ≠ 0
theorem vn_pos {l : List Int} (hd : Dg l) (hn : Nm l) (h : l ≠ []) : vn l ≠ 0 := by
  induction l with
  | nil => exact absurd rfl h
  | cons d t ih =>
    have hd0 := hd d (List.mem_cons_self ..)
    by_cases ht : t = []
    · subst ht
      have := hn h
      simp only [List.getLast_singleton] at this
      simp only [vn]; omega
    · have := ih (fun x hx => hd x (List.mem_cons_of_mem _ hx)) (fun h' => by have := hn h; rwa [List.getLast_cons h'] at this) ht
      simp only [vn]; omega
theorem eq_dg {l : List Int} (hd : Dg l) (hn : Nm l) : l = dg (vn l) := by
  induction l with
  | nil => simp only [vn]; exact dg_zero.symm
  | cons d t ih =>
    have hd0 := hd d (List.mem_cons_self ..)
    have hdt : Dg t := fun x hx => hd x (List.mem_cons_of_mem _ hx)
    have hnt : Nm t := fun h' => by have := hn (List.cons_ne_nil d t); rwa [List.getLast_cons h'] at this
    have hp := vn_pos hd hn (List.cons_ne_nil d t)
    rw [dg_pos hp]
    simp only [vn] at hp ⊢
    have e1 : (d.toNat + 4294967296 * vn t) % 4294967296 = d.toNat := by omega
    have e2 : (d.toNat + 4294967296 * vn t) / 4294967296 = vn t := by omega
    rw [e1, e2, ← ih hdt hnt]
    congr 1; omega
theorem vn_append (l m : List Int) : vn (l ++ m) = vn l + 4294967296 ^ l.length * vn m := by
  induction l with
  | nil => simp [vn]
  | cons d t ih =>
    simp only [List.cons_append, vn, ih, List.length_cons, Nat.pow_succ]
    rw [Nat.mul_add, ← Nat.mul_assoc, Nat.mul_comm 4294967296 (4294967296 ^ t.length)]
    omega
theorem vn_lt {l : List Int} (hd : Dg l) : vn l < 4294967296 ^ l.length := by
  induction l with
  | nil => simp [vn]
  | cons d t ih =>
    have hd0 := hd d (List.mem_cons_self ..)
    have := ih (fun x hx => hd x (List.mem_cons_of_mem _ hx))
    simp only [vn, List.length_cons, Nat.pow_succ]
    omega
theorem dg_length_le {n k : Nat} (h : n < 4294967296 ^ k) : (dg n).length ≤ k := by
  induction k generalizing n with
  | zero => have : n = 0 := by simpa using h
            subst this; rw [dg_zero]; simp
  | succ k ih =>
    by_cases h0 : n = 0
    · subst h0; rw [dg_zero]; simp
    · rw [dg_pos h0, List.length_cons]
      have : n / 4294967296 < 4294967296 ^ k := by rw [Nat.div_lt_iff_lt_mul (by decide)]; rwa [Nat.pow_succ] at h
      have := ih this
      omega
theorem dg_lo {n : Nat} (h : n ≠ 0) : 4294967296 ^ ((dg n).length - 1) ≤ n := by
  by_cases c : 4294967296 ^ ((dg n).length - 1) ≤ n
  · exact c
  · have := dg_length_le (n := n) (k := (dg n).length - 1) (by omega)
    have : (dg n) ≠ [] := fun z => h (dg_nil.1 z)
    have := List.length_pos_iff.2 this
    omega
theorem dg_hi (n : Nat) : n < 4294967296 ^ (dg n).length := by have := vn_lt (dg_dg n); rwa [vn_dg] at this
theorem dg_len_pos {n : Nat} (h : n ≠ 0) : 0 < (dg n).length := List.length_pos_iff.2 fun z => h (dg_nil.1 z)
theorem dg_get (n i : Nat) (h : i < (dg n).length) : (dg n)[i] = ((n / 4294967296 ^ i % 4294967296 : Nat) : Int) := by
  induction i generalizing n with
  | zero =>
    have h0 : n ≠ 0 := fun z => by subst z; rw [dg_zero] at h; simp at h
    simp only [dg_pos h0, List.getElem_cons_zero, Nat.pow_zero, Nat.div_one]
  | succ i ih =>
    have h0 : n ≠ 0 := fun z => by subst z; rw [dg_zero] at h; simp at h
    have h' : i < (dg (n / 4294967296)).length := by rw [dg_pos h0, List.length_cons] at h; omega
    have e := ih (n / 4294967296) h'
    simp only [dg_pos h0, List.getElem_cons_succ, e, Nat.div_div_eq_div_mul, Nat.pow_succ, Nat.mul_comm]
theorem vn_take_zero {l : List Int} {i : Nat} (h : i < l.length) (hz : l[i] = 0) : vn (l.take (i + 1)) = vn (l.take i) := by
  rw [List.take_succ_eq_append_getElem h, vn_append, hz]; simp [vn]
theorem dg_take {l : List Int} (hd : Dg l) (i : Nat) : Dg (l.take i) := fun d hm => hd d (List.mem_of_mem_take hm)
theorem dg_drop {l : List Int} (hd : Dg l) (i : Nat) : Dg (l.drop i) := fun d hm => hd d (List.mem_of_mem_drop hm)
theorem nm_take {l : List Int} {i : Nat} (h : i < l.length) (hz : l[i] ≠ 0) : Nm (l.take (i + 1)) := by
  intro hh
  have e : l.take (i + 1) = l.take i ++ [l[i]] := List.take_succ_eq_append_getElem h
  simp only [e, List.getLast_concat]
  exact hz
/-- how many bits a number has -/
def bl (n : Nat) : Nat := if n = 0 then 0 else n.log2 + 1
theorem bl_zero : bl 0 = 0 := rfl
theorem bl_lo {n : Nat} (h : n ≠ 0) : 2 ^ (bl n - 1) ≤ n := by
  unfold bl; rw [if_neg h]; exact Nat.log2_self_le h
theorem bl_hi (n : Nat) : n < 2 ^ bl n := by
  unfold bl; split
  · omega
  · exact Nat.lt_log2_self
theorem bl_pos {n : Nat} (h : n ≠ 0) : 0 < bl n := by unfold bl; rw [if_neg h]; omega
theorem bl_eq {n b : Nat} (h0 : 0 < b) (h1 : 2 ^ (b - 1) ≤ n) (h2 : n < 2 ^ b) : bl n = b := by
  have hn : n ≠ 0 := by have := Nat.two_pow_pos (b - 1); omega
  have a := bl_lo hn
  have c := bl_hi n
  have p := bl_pos hn
  by_cases l : bl n < b
  · have : 2 ^ bl n ≤ 2 ^ (b - 1) := Nat.pow_le_pow_right (by decide) (by omega)
    omega
  · by_cases g : b < bl n
    · have : 2 ^ b ≤ 2 ^ (bl n - 1) := Nat.pow_le_pow_right (by decide) (by omega)
      omega
    · omega
theorem bl_half {n : Nat} (h : n ≠ 0) : bl n = bl (n / 2) + 1 := by
  by_cases h1 : n / 2 = 0
  · have : n = 1 := by omega
    subst this; rfl
  · have a := bl_lo h1
    have c := bl_hi (n / 2)
    have p := bl_pos h1
    apply bl_eq (by omega)
    · have : 2 ^ (bl (n / 2) + 1 - 1) = 2 ^ (bl (n / 2) - 1) * 2 := by rw [← Nat.pow_succ]; congr 1; omega
      omega
    · rw [Nat.pow_succ]; omega
theorem pow32 (i : Nat) : 4294967296 ^ i = 2 ^ (32 * i) := by rw [Nat.pow_mul]
theorem bl_shift {n : Nat} (h : n ≠ 0) (s : Nat) : bl (n * 2 ^ s) = bl n + s := by
  have a := bl_lo h
  have c := bl_hi n
  have p := bl_pos h
  apply bl_eq (by omega)
  · have : 2 ^ (bl n + s - 1) = 2 ^ (bl n - 1) * 2 ^ s := by rw [← Nat.pow_add]; congr 1; omega
    rw [this]; exact Nat.mul_le_mul_right _ a
  · rw [Nat.pow_add]; exact Nat.mul_lt_mul_of_pos_right c (Nat.two_pow_pos s)
/-- every number but nought is an odd one times a power of two -/
theorem odd_part {n : Nat} (h : n ≠ 0) : ∃ t m, n = 2 ^ t * m ∧ m % 2 = 1 := by
  induction n using Nat.strongRecOn with
  | _ n ih =>
    by_cases o : n % 2 = 1
    · exact ⟨0, n, by simp, o⟩
    · obtain ⟨t, m, e, hm⟩ := ih (n / 2) (by omega) (by omega)
      refine ⟨t + 1, m, ?_, hm⟩
      rw [Nat.pow_succ, Nat.mul_right_comm, ← e]; omega
end Go.Proofs.YthiklmgdmaemgaaDoor.Wd
end

section
namespace Go.Proofs.YthiklmgdmaemgaaDoor.PA
open Go.RowKit Go.Proofs.YthiklmgdmaemgaaDoorW.PrintWords Go.Proofs.YthiklmgdmaemgaaDoorW.PrintLast Go.Proofs.YthiklmgdmaemgaaDoorW.PrintMore Go.Proofs.YthiklmgdmaemgaaDoor.Wd
set_option linter.unusedSimpArgs false
set_option linter.unusedVariables false
theorem rd_at (l : List Int) (i : Nat) (h : i < l.length) : rd l (i : Int) = l[i] := by
  unfold rd
  simp [h]
theorem rd_dg {n i : Nat} (h : i < (dg n).length) : rd (dg n) (i : Int) = ((n / 4294967296 ^ i % 4294967296 : Nat) : Int) := by
  rw [rd_at _ i h, dg_get n i h]
/-- a list of digits is short enough for every count -/
def Sh (l : List Int) : Prop := l.length < 1099511627776
theorem ref_Trim_loop {l : List Int} (hd : Dg l) (hl : Sh l) (i : Nat) : ∀ k, i ≤ l.length → i < k → cutplaneref01_Trim.l0 k l (i : Int) = some (dg (vn (l.take i))) := by
  unfold Sh at hl
  induction i with
  | zero =>
    intro k hi hk
    obtain ⟨k, rfl⟩ : ∃ m, k = m + 1 := ⟨k - 1, by omega⟩
    simp only [cutplaneref01_Trim.l0]
    rw [if_neg (by omega), if_pos (by omega), if_pos (by omega)]
    simp [vn, dg_zero]
  | succ i ih =>
    intro k hi hk
    obtain ⟨k, rfl⟩ : ∃ m, k = m + 1 := ⟨k - 1, by omega⟩
    have w1 : wrap64 (((i + 1 : Nat) : Int) - 1) = (i : Int) := by unfold wrap64; omega
    have hlt : i < l.length := by omega
    simp only [cutplaneref01_Trim.l0]
    rw [if_pos (by omega), w1, if_pos (by omega), if_pos (by omega), rd_at l i hlt]
    by_cases z : l[i] = 0
    · rw [if_pos z, ih k (by omega) (by omega), vn_take_zero hlt z]
    · rw [if_neg z, if_pos (by omega), if_pos (by omega)]
      have e : (((i + 1 : Nat) : Int)).toNat = i + 1 := by omega
      rw [e]
      exact congrArg some (eq_dg (dg_take hd _) (nm_take hlt z))
theorem ref_Trim {l : List Int} (hd : Dg l) (hl : Sh l) (k : Nat) (hk : l.length < k) : cutplaneref01_Trim.f k l = some (dg (vn l)) := by
  unfold cutplaneref01_Trim.f
  rw [ref_Trim_loop hd hl l.length k (by omega) hk, List.take_length]
theorem ref_Of {n : Int} (h0 : 0 ≤ n) (h1 : n < 18446744073709551616) (k : Nat) (hk : 2 < k) : cutplaneref01_Of.f k n = some (dg n.toNat) := by
  unfold cutplaneref01_Of.f
  rw [ref_Trim (l := [n % 4294967296, n / 4294967296 % 4294967296]) (by intro d hd; simp at hd; rcases hd with rfl | rfl <;> omega) (by unfold Sh; simp) k hk]
  simp only [Option.bind_some, vn]
  congr 2; omega
theorem ref_Len_loop (x : Nat) : ∀ (k : Nat) (a : Int), 0 ≤ a → a + bl x < 4611686018427387904 → bl x < k → cutplaneref01_Len.l0 k a (x : Int) = some (a + bl x) := by
  induction x using Nat.strongRecOn with
  | _ x ih =>
    intro k a h0 h1 hk
    obtain ⟨k, rfl⟩ : ∃ m, k = m + 1 := ⟨k - 1, by omega⟩
    simp only [cutplaneref01_Len.l0]
    by_cases z : x = 0
    · subst z; rw [if_neg (by omega), bl_zero]; simp
    · have e := bl_half z
      have w1 : wrap64 (a + 1) = a + 1 := by unfold wrap64; omega
      have w2 : (x : Int) / 2 = ((x / 2 : Nat) : Int) := by omega
      rw [if_pos (by omega), w1, w2, ih (x / 2) (by omega) k (a + 1) (by omega) (by omega) (by omega), e]
      congr 1; omega
theorem bl_le {n k : Nat} (h : n < 2 ^ k) : bl n ≤ k := by
  by_cases z : n = 0
  · subst z; simp [bl_zero]
  · by_cases c : bl n ≤ k
    · exact c
    · have := bl_lo z
      have : 2 ^ k ≤ 2 ^ (bl n - 1) := Nat.pow_le_pow_right (by decide) (by omega)
      omega
theorem bl_top {n : Nat} (h : n ≠ 0) : bl n = 32 * ((dg n).length - 1) + bl (n / 4294967296 ^ ((dg n).length - 1)) := by
  have hl := dg_len_pos h
  have a := dg_lo h
  have c := dg_hi n
  generalize hL : (dg n).length - 1 = L at *
  have hL1 : (dg n).length = L + 1 := by omega
  rw [hL1] at c
  have hP : 0 < 4294967296 ^ L := Nat.pos_of_ne_zero (by simp)
  have g1 : 4294967296 ^ L * (n / 4294967296 ^ L) ≤ n := Nat.mul_div_le _ _
  have g2 : n < 4294967296 ^ L * (n / 4294967296 ^ L + 1) := Nat.lt_mul_div_succ _ hP
  generalize n / 4294967296 ^ L = q at *
  have q0 : q ≠ 0 := by
    rintro rfl
    rw [Nat.zero_add, Nat.mul_one] at g2
    omega
  have b0 := bl_lo q0
  have b1 := bl_hi q
  have bp := bl_pos q0
  apply bl_eq (by omega)
  · have e : 2 ^ (32 * L + bl q - 1) = 4294967296 ^ L * 2 ^ (bl q - 1) := by
      rw [pow32, ← Nat.pow_add]
      have : 32 * L + bl q - 1 = 32 * L + (bl q - 1) := by omega
      rw [this]
    rw [e]
    exact Nat.le_trans (Nat.mul_le_mul_left _ b0) g1
  · rw [Nat.pow_add, ← pow32]
    exact Nat.lt_of_lt_of_le g2 (Nat.mul_le_mul_left _ b1)
theorem ref_Len {n : Nat} (hl : Sh (dg n)) (k : Nat) (hk : 33 < k) : cutplaneref01_Len.f k (dg n) = some (bl n : Int) := by
  unfold Sh at hl
  unfold cutplaneref01_Len.f
  by_cases z : n = 0
  · subst z; rw [dg_zero]; simp [bl_zero]
  · have hp := dg_len_pos z
    have w1 : wrap64 (((dg n).length : Int) - 1) = (((dg n).length - 1 : Nat) : Int) := by unfold wrap64; omega
    have w2 : wrap64 (32 * (((dg n).length - 1 : Nat) : Int)) = 32 * (((dg n).length - 1 : Nat) : Int) := by unfold wrap64; omega
    have hP : 0 < 4294967296 ^ ((dg n).length - 1) := Nat.pos_of_ne_zero (by simp)
    have hq : n / 4294967296 ^ ((dg n).length - 1) < 4294967296 := by
      rw [Nat.div_lt_iff_lt_mul hP, Nat.mul_comm, ← Nat.pow_succ]
      have := dg_hi n
      have e : ((dg n).length - 1).succ = (dg n).length := by omega
      rw [e]; exact this
    have hb : bl (n / 4294967296 ^ ((dg n).length - 1)) ≤ 32 := bl_le (by omega)
    rw [if_neg (by omega), w1, if_pos (by omega), if_pos (by omega), w2, rd_dg (by omega), Nat.mod_eq_of_lt hq, ref_Len_loop _ k _ (by omega) (by omega) (by omega)]
    have := bl_top z
    congr 1; omega
theorem and1 {y : Int} (h0 : 0 ≤ y) (h1 : y < 4294967296) : Go.bits .and .u32 y 1 = y % 2 := by
  have w : ∀ n : Int, 0 ≤ n → n < 2 ^ 32 → IntKind.u32.wrap n = n := by intro n a b; rw [IntKind.wrap_u32]; omega
  exact bits_mask .u32 32 (by decide) w 1 (by decide) y h0 (by omega)
theorem bit_of (n i : Nat) : n / 4294967296 ^ (i / 32) % 4294967296 / 2 ^ (i % 32) % 2 = n / 2 ^ i % 2 := by
  have hr : i % 32 < 32 := Nat.mod_lt _ (by decide)
  have hi : 32 * (i / 32) + i % 32 = i := Nat.div_add_mod i 32
  have hp : 2 ^ (i % 32) * 2 ^ (32 - i % 32) = 4294967296 := by
    rw [← Nat.pow_add]
    have : i % 32 + (32 - i % 32) = 32 := by omega
    rw [this]
  have h2 : 2 ^ (32 - i % 32) = 2 * 2 ^ (32 - i % 32 - 1) := by
    rw [← Nat.pow_succ']
    have : (32 - i % 32 - 1).succ = 32 - i % 32 := by omega
    rw [this]
  have key : ∀ m : Nat, m % 4294967296 / 2 ^ (i % 32) % 2 = m / 2 ^ (i % 32) % 2 := by
    intro m
    rw [← hp, Nat.mod_mul_right_div_self, h2, Nat.mod_mul_right_mod]
  rw [key, Nat.div_div_eq_div_mul, pow32, ← Nat.pow_add, hi]
theorem ref_Bit {n : Nat} (hl : Sh (dg n)) {i : Nat} (hi : i < 32 * (dg n).length) : cutplaneref01_Bit.f (dg n) (i : Int) = some ((n / 2 ^ i % 2 : Nat) : Int) := by
  unfold Sh at hl
  unfold cutplaneref01_Bit.f
  have e1 : Int.tdiv (i : Int) 32 = ((i / 32 : Nat) : Int) := by rw [Int.tdiv_eq_ediv_of_nonneg (by omega)]; omega
  have e2 : Int.tmod (i : Int) 32 = ((i % 32 : Nat) : Int) := by rw [Int.tmod_eq_emod_of_nonneg (by omega)]; omega
  have w1 : wrap64 ((i / 32 : Nat) : Int) = ((i / 32 : Nat) : Int) := by unfold wrap64; omega
  rw [if_neg (by omega), e1, w1, if_neg (by omega), if_pos (by omega), if_pos (by omega), e2, if_pos (by omega), rd_dg (by omega)]
  have e3 : shr .u32 ((n / 4294967296 ^ (i / 32) % 4294967296 : Nat) : Int) ((i % 32 : Nat) : Int) = ((n / 4294967296 ^ (i / 32) % 4294967296 / 2 ^ (i % 32) : Nat) : Int) := by
    unfold shr
    have : min (((i % 32 : Nat) : Int)).toNat IntKind.u32.bits = i % 32 := by
      have : IntKind.u32.bits = 32 := rfl
      omega
    rw [this]; simp
  have hlt : n / 4294967296 ^ (i / 32) % 4294967296 / 2 ^ (i % 32) < 4294967296 := Nat.lt_of_le_of_lt (Nat.div_le_self _ _) (Nat.mod_lt _ (by decide))
  have e4 : n / 4294967296 ^ (i / 32) % 4294967296 / 2 ^ (i % 32) % 2 = n / 2 ^ i % 2 := bit_of n i
  rw [e3]
  generalize n / 4294967296 ^ (i / 32) % 4294967296 / 2 ^ (i % 32) = y at *
  rw [and1 (by omega) (by omega), ← e4]
  congr 1
theorem odd_tz {t m : Nat} (hm : m % 2 = 1) {i : Nat} (hi : i < t) : 2 ^ t * m / 2 ^ i % 2 = 0 := by
  have : 2 ^ t * m = 2 ^ i * (2 * (2 ^ (t - i - 1) * m)) := by
    rw [← Nat.mul_assoc, ← Nat.mul_assoc, ← Nat.pow_succ, ← Nat.pow_add]
    have : i.succ + (t - i - 1) = t := by omega
    rw [this]
  rw [this, Nat.mul_div_cancel_left _ (Nat.two_pow_pos i)]
  omega
theorem odd_at {t m : Nat} (hm : m % 2 = 1) : 2 ^ t * m / 2 ^ t % 2 = 1 := by
  rw [Nat.mul_div_cancel_left _ (Nat.two_pow_pos t)]; exact hm
theorem low_digit {t m q : Nat} (hm : m % 2 = 1) (hq : 32 * q ≤ t) (hz : 2 ^ t * m / 4294967296 ^ q % 4294967296 = 0) : 32 * q + 32 ≤ t := by
  by_cases c : 32 * q + 32 ≤ t
  · exact c
  · exfalso
    have e : 2 ^ t * m = 4294967296 ^ q * (2 ^ (t - 32 * q) * m) := by
      rw [pow32, ← Nat.mul_assoc, ← Nat.pow_add]
      have : 32 * q + (t - 32 * q) = t := by omega
      rw [this]
    rw [e, Nat.mul_div_cancel_left _ (Nat.pos_of_ne_zero (by simp))] at hz
    have hp : (4294967296 : Nat) = 2 ^ (t - 32 * q) * 2 ^ (32 - (t - 32 * q)) := by
      rw [← Nat.pow_add]
      have : t - 32 * q + (32 - (t - 32 * q)) = 32 := by omega
      rw [this]
    rw [hp, Nat.mul_mod_mul_left] at hz
    have h2 : 2 ^ (32 - (t - 32 * q)) = 2 * 2 ^ (32 - (t - 32 * q) - 1) := by
      rw [← Nat.pow_succ']
      have : (32 - (t - 32 * q) - 1).succ = 32 - (t - 32 * q) := by omega
      rw [this]
    have h3 : m % 2 ^ (32 - (t - 32 * q)) = 0 := by
      rcases Nat.mul_eq_zero.1 hz with h | h
      · exact absurd h (Nat.pos_iff_ne_zero.1 (Nat.two_pow_pos _))
      · exact h
    rw [h2] at h3
    have := Nat.mod_mul_right_mod m 2 (2 ^ (32 - (t - 32 * q) - 1))
    rw [h3] at this
    omega
theorem tz_lt {t m : Nat} (hm : m % 2 = 1) : t < 32 * (dg (2 ^ t * m)).length := by
  have h := dg_hi (2 ^ t * m)
  rw [pow32] at h
  have h1 : 2 ^ t ≤ 2 ^ t * m := Nat.le_mul_of_pos_right _ (by omega)
  have h2 : 2 ^ t < 2 ^ (32 * (dg (2 ^ t * m)).length) := by omega
  exact (Nat.pow_lt_pow_iff_right (by decide)).1 h2
theorem idx_ok {i L : Nat} (h : i < 32 * L) : (0 : Int) ≤ ((i / 32 : Nat) : Int) ∧ ((i / 32 : Nat) : Int) < (L : Int) := by omega
theorem low_loop {l : List Int} {L t : Nat} (hL : l.length = L) (hl : L < 1099511627776) (ht : t < 32 * L) (hb0 : ∀ i : Nat, i < t → cutplaneref01_Bit.f l (i : Int) = some 0) (hb1 : cutplaneref01_Bit.f l (t : Int) = some 1)
    (hq : ∀ q : Nat, 32 * q ≤ t → rd l (q : Int) = 0 → 32 * q + 32 ≤ t) (d : Nat) : ∀ (k i : Nat), i ≤ t → t - i = d → 2 * d + 2 < k → (i % 32 = 0 ∨ rd l ((i / 32 : Nat) : Int) ≠ 0) →
    cutplaneref01_Low.l0 k l (i : Int) = some (t : Int) := by
  induction d using Nat.strongRecOn with
  | _ d ih =>
    intro k i hi hd hk hz
    obtain ⟨k, rfl⟩ : ∃ j, k = j + 2 := ⟨k - 2, by omega⟩
    have w1 : wrap64 (32 * (l.length : Int)) = 32 * (L : Int) := by unfold wrap64; omega
    have e1 : Int.tdiv (i : Int) 32 = ((i / 32 : Nat) : Int) := by rw [Int.tdiv_eq_ediv_of_nonneg (by omega)]; omega
    have w2 : wrap64 ((i / 32 : Nat) : Int) = ((i / 32 : Nat) : Int) := by unfold wrap64; omega
    have hix := idx_ok (Nat.lt_of_le_of_lt hi ht)
    rw [← hL] at hix
    rw [cutplaneref01_Low.l0, w1, if_pos (by omega)]
    by_cases c : i = t
    · subst c
      clear e1 w2
      rw [hb1, Option.bind_some, cutplaneref01_Low.j1, w1, if_neg (by decide), if_neg (by omega)]
    · rw [hb0 i (by omega), Option.bind_some, cutplaneref01_Low.j1, if_pos (by decide), e1, w2, if_pos hix.1, if_pos hix.2]
      clear e1 w2 w1 hix
      by_cases z : rd l ((i / 32 : Nat) : Int) = 0
      · have hi0 : i % 32 = 0 := by
          rcases hz with h | h
          · exact h
          · exact absurd z h
        have := hq (i / 32) (by omega) z
        have w3 : wrap64 ((i : Int) + 32) = ((i + 32 : Nat) : Int) := by unfold wrap64; omega
        rw [if_pos z, w3]
        exact ih (t - (i + 32)) (by omega) k (i + 32) (by omega) rfl (by omega) (.inl (by omega))
      · have w3 : wrap64 ((i : Int) + 1) = ((i + 1 : Nat) : Int) := by unfold wrap64; omega
        rw [if_neg z, w3]
        refine ih (t - (i + 1)) (by omega) k (i + 1) (by omega) rfl (by omega) ?_
        by_cases r : (i + 1) % 32 = 0
        · exact .inl r
        · right
          have : (i + 1) / 32 = i / 32 := by omega
          rw [this]; exact z
theorem ref_Low_loop {t m : Nat} (hm : m % 2 = 1) (hl : Sh (dg (2 ^ t * m))) (k : Nat) (hk : 2 * t + 2 < k) :
    cutplaneref01_Low.l0 k (dg (2 ^ t * m)) 0 = some (t : Int) := by
  have hlt := tz_lt (t := t) hm
  refine low_loop (L := (dg (2 ^ t * m)).length) rfl hl hlt (fun i hi => ?_) ?_ (fun q hq hz => ?_) t k 0 (Nat.zero_le _) rfl hk (.inl rfl)
  · rw [ref_Bit hl (by omega), odd_tz hm hi]; rfl
  · rw [ref_Bit hl hlt, odd_at hm]; rfl
  · rw [rd_dg (by omega)] at hz
    exact low_digit hm hq (Int.natCast_eq_zero.1 hz)
theorem ref_Low {t m : Nat} (hm : m % 2 = 1) (hl : Sh (dg (2 ^ t * m))) (k : Nat) (hk : 2 * t + 2 < k) : cutplaneref01_Low.f k (dg (2 ^ t * m)) = some (t : Int) := by
  unfold cutplaneref01_Low.f
  exact ref_Low_loop hm hl k hk
def dn (s : Nat) : List Int → List Int
  | [] => []
  | [d] => [((d.toNat / 2 ^ s : Nat) : Int)]
  | d :: d' :: t => (((d.toNat / 2 ^ s + d'.toNat * 2 ^ (32 - s)) % 4294967296 : Nat) : Int) :: dn s (d' :: t)
theorem div_step {a V s : Nat} (hs : s < 32) : (a + 4294967296 * V) / 2 ^ s = a / 2 ^ s + 2 ^ (32 - s) * V := by
  have hp : (4294967296 : Nat) = 2 ^ s * 2 ^ (32 - s) := by
    rw [← Nat.pow_add]
    have : s + (32 - s) = 32 := by omega
    rw [this]
  rw [hp, Nat.mul_assoc, Nat.add_mul_div_left _ _ (Nat.two_pow_pos s)]
theorem vn_dn {s : Nat} (hs : s < 32) {l : List Int} (hd : Dg l) : vn (dn s l) = vn l / 2 ^ s := by
  induction l with
  | nil => simp [dn, vn]
  | cons d t ih =>
    have hd0 := hd d (List.mem_cons_self ..)
    have hdt : Dg t := fun x hx => hd x (List.mem_cons_of_mem _ hx)
    cases t with
    | nil =>
      simp only [dn, vn, Nat.mul_zero, Nat.add_zero]
      exact Int.toNat_natCast _
    | cons d' t =>
      have e := ih hdt
      have hd1 := hd d' (List.mem_cons_of_mem _ (List.mem_cons_self ..))
      rw [show vn (d :: d' :: t) = d.toNat + 4294967296 * vn (d' :: t) from rfl, div_step hs]
      show (((d.toNat / 2 ^ s + d'.toNat * 2 ^ (32 - s)) % 4294967296 : Nat) : Int).toNat + 4294967296 * vn (dn s (d' :: t)) = _
      rw [e]
      have ha : d.toNat / 2 ^ s < 2 ^ (32 - s) := by
        rw [Nat.div_lt_iff_lt_mul (Nat.two_pow_pos s), ← Nat.pow_add]
        have : 32 - s + s = 32 := by omega
        rw [this]; omega
      have hp : (4294967296 : Nat) = 2 ^ s * 2 ^ (32 - s) := by
        rw [← Nat.pow_add]
        have : s + (32 - s) = 32 := by omega
        rw [this]
      have hv : vn (d' :: t) % 2 ^ s = d'.toNat % 2 ^ s := by
        show (d'.toNat + 4294967296 * vn t) % 2 ^ s = _
        rw [hp, Nat.mul_assoc, Nat.add_mul_mod_self_left]
      have hm : (d.toNat / 2 ^ s + d'.toNat * 2 ^ (32 - s)) % 4294967296 = d.toNat / 2 ^ s + d'.toNat % 2 ^ s * 2 ^ (32 - s) := by
        have e2 : d'.toNat * 2 ^ (32 - s) = d'.toNat % 2 ^ s * 2 ^ (32 - s) + 4294967296 * (d'.toNat / 2 ^ s) := by
          have := Nat.div_add_mod d'.toNat (2 ^ s)
          calc d'.toNat * 2 ^ (32 - s) = (2 ^ s * (d'.toNat / 2 ^ s) + d'.toNat % 2 ^ s) * 2 ^ (32 - s) := by rw [this]
            _ = 2 ^ s * (d'.toNat / 2 ^ s) * 2 ^ (32 - s) + d'.toNat % 2 ^ s * 2 ^ (32 - s) := Nat.add_mul _ _ _
            _ = d'.toNat % 2 ^ s * 2 ^ (32 - s) + 4294967296 * (d'.toNat / 2 ^ s) := by rw [Nat.mul_right_comm, ← hp, Nat.add_comm]
        rw [e2, ← Nat.add_assoc, Nat.add_mul_mod_self_left]
        apply Nat.mod_eq_of_lt
        have h1 : d'.toNat % 2 ^ s < 2 ^ s := Nat.mod_lt _ (Nat.two_pow_pos s)
        have h2 : (d'.toNat % 2 ^ s + 1) * 2 ^ (32 - s) ≤ 2 ^ s * 2 ^ (32 - s) := Nat.mul_le_mul_right _ h1
        rw [Nat.add_mul, Nat.one_mul, ← hp] at h2
        omega
      rw [hm]
      have h3 := Nat.div_add_mod (vn (d' :: t)) (2 ^ s)
      rw [hv] at h3
      have h4 : 2 ^ (32 - s) * vn (d' :: t) = 4294967296 * (vn (d' :: t) / 2 ^ s) + d'.toNat % 2 ^ s * 2 ^ (32 - s) := by
        calc 2 ^ (32 - s) * vn (d' :: t) = 2 ^ (32 - s) * (2 ^ s * (vn (d' :: t) / 2 ^ s) + d'.toNat % 2 ^ s) := by rw [h3]
          _ = 2 ^ (32 - s) * (2 ^ s * (vn (d' :: t) / 2 ^ s)) + 2 ^ (32 - s) * (d'.toNat % 2 ^ s) := Nat.mul_add _ _ _
          _ = 4294967296 * (vn (d' :: t) / 2 ^ s) + d'.toNat % 2 ^ s * 2 ^ (32 - s) := by rw [← Nat.mul_assoc, Nat.mul_comm (2 ^ (32 - s)) (2 ^ s), ← hp, Nat.mul_comm (2 ^ (32 - s)) (d'.toNat % 2 ^ s)]
      rw [h4]
      omega
end Go.Proofs.YthiklmgdmaemgaaDoor.PA
end
