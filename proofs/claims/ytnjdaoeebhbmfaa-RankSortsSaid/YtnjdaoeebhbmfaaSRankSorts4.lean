/- Steps of Go functions that the law RankSorts uses, told as plain Lean functions, each with the proof that its call comes to what it tells; words on memory; plain facts. No condition beyond those that each text names. -/
import Derived.Test.YtnjdaoeebhbmfaaProg
import Derived.Below
import Derived.Deep.Draws
import Derived.Deep.AppendLies
import Derived.Maps.AppendAt
import Derived.OwnWalk
import Derived.Laws.BytesArg
import Derived.Laws.MakeOwn
import Derived.Laws.OwnMore
import Derived.Deep.OwnRows
import Derived.Tactics
import Derived.Lib.ConvBytes
import Derived.Laws.Slices
import Derived.WalkKit
import Derived.KernelRfl
import Derived.RowKit3
import Derived.Deep.LoopGhost
import Derived.Deep.QuietTactic
import Derived.BigQuiet
import Derived.WideLaws
import Derived.Deep.DeepCutAuto
import Derived.Deep.CutBlock
import Derived.Deep.RegionHeld3
import Derived.Laws.Rows
import Derived.Lib.AppendStr
import Derived.ArgAppend
import Derived.Laws.IdiomCopy
import Derived.OrdersHeld
import Derived.Laws.BitsLemmas
import Derived.RowKit
import Derived.Laws.StructEq
import Derived.Test.YtnjdaoeebhbmfaaSRankSorts0
import Derived.Test.YtnjdaoeebhbmfaaSRankSorts1
import Derived.Test.YtnjdaoeebhbmfaaSRankSorts3
section
namespace Go.Proofs.Ytnjdaoeebhbmfaa.PA
open Go.RowKit Go.Proofs.YtnjdaoeebhbmfaaW.PrintWords Go.Proofs.YtnjdaoeebhbmfaaW.PrintLast Go.Proofs.YtnjdaoeebhbmfaaW.PrintMore
attribute [local go_sem] max2_int min2_int max_two min_two max_three min_three max_four min_four   -- for this text's walks alone
set_option linter.unusedVariables false
set_option linter.unusedSimpArgs false
def rank_open.l0 : Nat → Int → List Int → Int → Int → Option (Int)
 | 0, _, _, _, _ => none
 | k + 1, x0, x18, x19, x20 => if x20 < x19 then (if 0 ≤ x20 then (if x20 < (x18.length : Int) then ((word_Good.f k x0 (rd x18 x20)).bind fun t131 => (if t131 = 0 then (rank_open.l0 k x0 x18 x19 (wrap64 (x20 + 1))) else (some t131))) else (none)) else (none)) else (some 0)
def rank_open.f (k : Nat) (a0 : Int) (l1 : List Int) : Option (Int) := (word_None.f k a0).bind fun bt128 => (if bt128.2 = 0 then (rank_open.l0 k a0 l1 (l1.length : Int) 0) else (some bt128.2))
set_option maxHeartbeats 2000000 in
set_option maxRecDepth 100000 in
theorem rank_open.calls (k : Nat) (a0 : Int) (A1 : Option Addr) (c1 : Nat) (l1 : List Int) (r : Int) (w : World) (hr1 : Kd.C (Kd.int .u64) w A1 l1.length l1) (hc1 : l1.length ≤ c1) (h : rank_open.f k a0 l1 = some r) :
  Calls Try.prog 34 #[.int .u8 a0, .slice A1 l1.length c1] w fun e w' => e = .returned (.int .i64 r) ∧ Below w.heap.size w w' := by
 have HR1 := A0_ hr1
 have HC1 := A0_ hc1
 clear hr1 hc1
 have HB := A0_ (Below.refl w.heap.size w)
 have H : ((word_None.f k a0).bind fun bt128 => (if bt128.2 = 0 then (rank_open.l0 k a0 l1 (l1.length : Int) 0) else (some bt128.2))) = some r := h
 clear h
 replace H := Option.bind_eq_some_iff.mp H
 obtain ⟨⟨t128, t129⟩, A30, H⟩ := H
 replace H : (if t129 = 0 then (rank_open.l0 k a0 l1 (l1.length : Int) 0) else (some t129)) = some r := H
 have A3 := A0_ A30
 clear A30
 by_cases c4 : t129 = 0
 ·rw [if_pos c4] at H
  have c4b0 : (t129 == 0) = true := beq_iff_eq.mpr c4
  have c4b1 : (t129 != 0) = false := bne_eq_false_iff_eq.mpr c4
  clear c4
  have H' := A0_ H
  clear H
  go_enter Try.func34, Try.ntmps34
  go_wp2_with (first | ((with_reducible refine gate_callee (f := 54) rfl ?_); refine goesL_ (some 12) rfl rfl Try.func54 (by kernel_rfl) rfl #[.int .u8 a0] rfl (by (try simp only [List.map_toArray, List.map_cons, List.map_nil]); first | done | rfl | (simp only [List.length_drop, List.length_take]; rfl)) ?_; (with_reducible refine (word_None.calls k a0 t128 t129 _ A3.out).mono ?_); rintro e w5 ⟨rfl, hb⟩; refine ⟨_, rfl, ?_⟩; have n0_ := A0_ (below_step (qm_ HB.out) hb); clear HB; have HB := n0_; clear n0_; (try clear hb)))
  go_loopg [20] k (fun kq v20 w' => ∃ (x20_1 : Int), v20 = .int .i64 x20_1 ∧ Aside0 (rank_open.l0 kq a0 l1 (l1.length : Int) x20_1 = some r) ∧ Aside0 (kq ≤ k) ∧ Aside0 (Below w.heap.size w w'))
  case atStart => exact ⟨(0), (by first | rfl | (simp; done) | (simp [*]; done)), H', ⟨Nat.le_refl _⟩, ⟨qm_ HB.out⟩⟩
  case round =>
   clear H'
   try clear c1
   try clear p2
   try clear c3
   try clear c4
   try clear c4b0
   try clear c4b1
   try clear c5
   obtain ⟨x20_1, rfl, HA, HK1, HB⟩ := hrel
   cases gk with
   | zero => exact absurd HA.out (by simp [rank_open.l0])
   | succ k1 =>
    have H := HA.out
    clear HA
    simp only [rank_open.l0] at H
    by_cases c6 : x20_1 < (l1.length : Int)
    ·rw [if_pos c6] at H
     have c6b0 : decide (x20_1 < (l1.length : Int)) = true := decide_eq_true c6
     clear c6
     by_cases c7 : 0 ≤ x20_1
     ·rw [if_pos c7] at H
      have c7b0 : decide (0 ≤ x20_1) = true := decide_eq_true c7
      clear c7
      by_cases c8 : x20_1 < (l1.length : Int)
      ·rw [if_pos c8] at H
       have c8b0 : decide (x20_1 < (l1.length : Int)) = true := decide_eq_true c8
       clear c8
       replace H := Option.bind_eq_some_iff.mp H
       obtain ⟨t131, A90, H⟩ := H
       replace H : (if t131 = 0 then (rank_open.l0 k1 a0 l1 (l1.length : Int) (wrap64 (x20_1 + 1))) else (some t131)) = some r := H
       have A9 := A0_ A90
       clear A90
       by_cases c10 : t131 = 0
       ·rw [if_pos c10] at H
        have c10b0 : (t131 == 0) = true := beq_iff_eq.mpr c10
        have c10b1 : (t131 != 0) = false := bne_eq_false_iff_eq.mpr c10
        clear c10
        have H' := A0_ H
        clear H
        have p130 : 0 ≤ (x20_1 : Int) := of_decide_eq_true (by first | (with_reducible assumption) | assumption)
        have q130 : x20_1 < (l1.length : Int) := of_decide_eq_true (by first | (with_reducible assumption) | assumption)
        obtain ⟨ad130, e130, hx130_0⟩ := Kd.at_int HR1.out x20_1 p130 q130
        cases e130
        replace hx130_0 := (HB.out.cell (World.block_lt_of_cell? w _ hx130_0)).trans hx130_0
        replace p130 := eq_true p130
        replace q130 := eq_true q130
        go_wp2_with (first | ((with_reducible refine gate_callee (f := 55) rfl ?_); refine goesL_ (some 26) rfl rfl Try.func55 (by kernel_rfl) rfl #[.int .u8 a0, .int .u64 (rd l1 x20_1)] rfl (by (try simp only [List.map_toArray, List.map_cons, List.map_nil]); first | done | rfl | (simp only [List.length_drop, List.length_take]; rfl)) ?_; (with_reducible refine (word_Good.calls k1 a0 (rd l1 x20_1) t131 _ A9.out).mono ?_); rintro e w11 ⟨rfl, hb⟩; refine ⟨_, rfl, ?_⟩; have n0_ := A0_ (below_step (qm_ HB.out) hb); clear HB; have HB := n0_; clear n0_; (try clear hb)))
        go_roundg k1
        case measure => have := HK1.out; omega
        case rel => exact ⟨(wrap64 (x20_1 + 1)), (by first | rfl | (simp; done) | (simp [*]; done)), H', ⟨by have := HK1.out; omega⟩, ⟨qm_ HB.out⟩⟩
       ·rw [if_neg c10] at H
        have c10b0 : (t131 == 0) = false := beq_eq_false_iff_ne.mpr c10
        have c10b1 : (t131 != 0) = true := bne_iff_ne.mpr c10
        obtain rfl := Option.some.inj H
        have p130 : 0 ≤ (x20_1 : Int) := of_decide_eq_true (by first | (with_reducible assumption) | assumption)
        have q130 : x20_1 < (l1.length : Int) := of_decide_eq_true (by first | (with_reducible assumption) | assumption)
        obtain ⟨ad130, e130, hx130_0⟩ := Kd.at_int HR1.out x20_1 p130 q130
        cases e130
        replace hx130_0 := (HB.out.cell (World.block_lt_of_cell? w _ hx130_0)).trans hx130_0
        replace p130 := eq_true p130
        replace q130 := eq_true q130
        go_wp2_with (first | ((with_reducible refine gate_callee (f := 55) rfl ?_); refine goesL_ (some 26) rfl rfl Try.func55 (by kernel_rfl) rfl #[.int .u8 a0, .int .u64 (rd l1 x20_1)] rfl (by (try simp only [List.map_toArray, List.map_cons, List.map_nil]); first | done | rfl | (simp only [List.length_drop, List.length_take]; rfl)) ?_; (with_reducible refine (word_Good.calls k1 a0 (rd l1 x20_1) t131 _ A9.out).mono ?_); rintro e w12 ⟨rfl, hb⟩; refine ⟨_, rfl, ?_⟩; have n0_ := A0_ (below_step (qm_ HB.out) hb); clear HB; have HB := n0_; clear n0_; (try clear hb)))
        go_ret
        exact ⟨by first | rfl | (simp [errW_none, errW_some] <;> rfl) | (simp [*, errW_none, errW_some] <;> rfl), qm_ HB.out⟩
      ·rw [if_neg c8] at H
       exact absurd H (by simp)
     ·rw [if_neg c7] at H
      exact absurd H (by simp)
    ·rw [if_neg c6] at H
     have c6b0 : decide (x20_1 < (l1.length : Int)) = false := decide_eq_false c6
     clear c6
     obtain rfl := Option.some.inj H
     go_wp2
     go_ret
     exact ⟨by first | rfl | (simp [errW_none, errW_some] <;> rfl) | (simp [*, errW_none, errW_some] <;> rfl), qm_ HB.out⟩
 ·rw [if_neg c4] at H
  have c4b0 : (t129 == 0) = false := beq_eq_false_iff_ne.mpr c4
  have c4b1 : (t129 != 0) = true := bne_iff_ne.mpr c4
  obtain rfl := Option.some.inj H
  go_enter Try.func34, Try.ntmps34
  go_wp2_with (first | ((with_reducible refine gate_callee (f := 54) rfl ?_); refine goesL_ (some 12) rfl rfl Try.func54 (by kernel_rfl) rfl #[.int .u8 a0] rfl (by (try simp only [List.map_toArray, List.map_cons, List.map_nil]); first | done | rfl | (simp only [List.length_drop, List.length_take]; rfl)) ?_; (with_reducible refine (word_None.calls k a0 t128 t129 _ A3.out).mono ?_); rintro e w13 ⟨rfl, hb⟩; refine ⟨_, rfl, ?_⟩; have n0_ := A0_ (below_step (qm_ HB.out) hb); clear HB; have HB := n0_; clear n0_; (try clear hb)))
  go_ret
  exact ⟨by first | rfl | (simp [errW_none, errW_some] <;> rfl) | (simp [*, errW_none, errW_some] <;> rfl), qm_ HB.out⟩
def word_shape_class.f (a0_0 : Int) (a0_1 : Int) (a0_2 : Int) (a1 : Int) : Option (Int) := if (Go.bits .andNot .u64 a1 a0_2) = 0 then (some 1) else (if 0 ≤ a0_0 then (if (Go.bits .andNot .u64 a1 a0_2) < (shl .u64 1 a0_0) then (some 2) else ((word_shape_inf.f a0_0 a0_1 a0_2).bind fun t133 => (if (Go.bits .andNot .u64 a1 a0_2) < t133 then (some 3) else ((word_shape_inf.f a0_0 a0_1 a0_2).bind fun t134 => (if (Go.bits .andNot .u64 a1 a0_2) = t134 then (some 4) else (some 5)))))) else (none))
set_option maxHeartbeats 2000000 in
set_option maxRecDepth 100000 in
theorem word_shape_class.calls (a0_0 : Int) (a0_1 : Int) (a0_2 : Int) (a1 : Int) (r : Int) (w : World) (h : word_shape_class.f a0_0 a0_1 a0_2 a1 = some r) :
  Calls Try.prog 76 #[.agg #[.int .i64 a0_0, .int .i64 a0_1, .int .u64 a0_2], .int .u64 a1] w fun e w' => e = .returned (.int .u8 r) ∧ Below w.heap.size w w' := by
 have hu89 := Try.underlying89
 have HB := A0_ (Below.refl w.heap.size w)
 have H : (if (Go.bits .andNot .u64 a1 a0_2) = 0 then (some 1) else (if 0 ≤ a0_0 then (if (Go.bits .andNot .u64 a1 a0_2) < (shl .u64 1 a0_0) then (some 2) else ((word_shape_inf.f a0_0 a0_1 a0_2).bind fun t133 => (if (Go.bits .andNot .u64 a1 a0_2) < t133 then (some 3) else ((word_shape_inf.f a0_0 a0_1 a0_2).bind fun t134 => (if (Go.bits .andNot .u64 a1 a0_2) = t134 then (some 4) else (some 5)))))) else (none))) = some r := h
 clear h
 by_cases c3 : (Go.bits .andNot .u64 a1 a0_2) = 0
 ·rw [if_pos c3] at H
  have c3b0 : ((Go.bits .andNot .u64 a1 a0_2) == 0) = true := beq_iff_eq.mpr c3
  have c3b1 : ((Go.bits .andNot .u64 a1 a0_2) != 0) = false := bne_eq_false_iff_eq.mpr c3
  clear c3
  obtain rfl := Option.some.inj H
  go_enter Try.func76, Try.ntmps76
  go_wp2_with (first | ((with_reducible refine gate_dst (N := 2) rfl ?_); refine box_event ?hg (N := 2) ?hd (cs := #[.int .i64 a0_0, .int .i64 a0_1, .int .u64 a0_2]) (t := 89) ?hr ?_; (case hd => rfl); (case hg => rfl); (case hr => first | (go_simp; done) | (go_simp; rfl)); intro gb132 hg w4 hbox hb; have n0_ := A0_ (below_step (qm_ HB.out) hb); have n1_ := A0_ (hbox); have n2_ := A0_ ((by rw [hg]; exact (below_size (qm_ HB.out)) : w.heap.size ≤ gb132)); have n3_ := A0_ ((by rw [hg]; exact (below_size (qm_ HB.out)) : w.heap.size ≤ gb132)); clear HB; have HB := n0_; have BK132 := n1_; have GW132 := n2_; have GE132 := n3_; clear n0_ n1_ n2_ n3_ hb hbox hg; have hcz5 := bc3_ BK132.out; have hfz5 := bf3_ BK132.out))
  go_ret
  exact ⟨by first | rfl | (simp [errW_none, errW_some] <;> rfl) | (simp [*, errW_none, errW_some] <;> rfl), by repeat (first | (with_reducible first | exact qm_ HB.out | apply qA_ | apply qN_ | apply qD_ | refine below_set ?_ GE132.out) | exact HB.out)⟩
 ·rw [if_neg c3] at H
  have c3b0 : ((Go.bits .andNot .u64 a1 a0_2) == 0) = false := beq_eq_false_iff_ne.mpr c3
  have c3b1 : ((Go.bits .andNot .u64 a1 a0_2) != 0) = true := bne_iff_ne.mpr c3
  by_cases c6 : 0 ≤ a0_0
  ·rw [if_pos c6] at H
   have c6b0 := eq_true c6
   have c6b1 : decide (0 ≤ a0_0) = true := decide_eq_true c6
   clear c6
   obtain ⟨ji7, hji7⟩ : ∃ j_ : Int, (shl .u64 1 a0_0) = j_ := ⟨_, rfl⟩
   replace H : (if (Go.bits .andNot .u64 a1 a0_2) < (ji7) then (some 2) else ((word_shape_inf.f a0_0 a0_1 a0_2).bind fun t133 => (if (Go.bits .andNot .u64 a1 a0_2) < t133 then (some 3) else ((word_shape_inf.f a0_0 a0_1 a0_2).bind fun t134 => (if (Go.bits .andNot .u64 a1 a0_2) = t134 then (some 4) else (some 5)))))) = some r := by first | (rw [hji7] at H; exact H) | (simp only [hji7] at H ⊢; exact H)
   have hji7_ : (IntKind.u64.wrap (1 * 2 ^ min a0_0.toNat 64)) = ji7 := hji7
   have hji7z : a0_0 ≤ 64 → (IntKind.u64.wrap (1 * 2 ^ a0_0.toNat)) = ji7 := shl_small hji7
   have hji7u : (IntKind.u64.wrap (2 ^ min a0_0.toNat 64)) = ji7 := by have h_ := hji7_; rw [Int.one_mul] at h_; exact h_
   have hji7v : a0_0 ≤ 64 → (IntKind.u64.wrap (2 ^ a0_0.toNat)) = ji7 := fun hle_ => by have h_ := hji7z hle_; rw [Int.one_mul] at h_; exact h_
   by_cases c8 : (Go.bits .andNot .u64 a1 a0_2) < (ji7)
   ·rw [if_pos c8] at H
    have c8b0 : decide ((Go.bits .andNot .u64 a1 a0_2) < (ji7)) = true := decide_eq_true c8
    clear c8
    obtain rfl := Option.some.inj H
    go_enter Try.func76, Try.ntmps76
    go_wp2_with (first | ((with_reducible refine gate_dst (N := 2) rfl ?_); refine box_event ?hg (N := 2) ?hd (cs := #[.int .i64 a0_0, .int .i64 a0_1, .int .u64 a0_2]) (t := 89) ?hr ?_; (case hd => rfl); (case hg => rfl); (case hr => first | (go_simp; done) | (go_simp; rfl)); intro gb132 hg w9 hbox hb; have n0_ := A0_ (below_step (qm_ HB.out) hb); have n1_ := A0_ (hbox); have n2_ := A0_ ((by rw [hg]; exact (below_size (qm_ HB.out)) : w.heap.size ≤ gb132)); have n3_ := A0_ ((by rw [hg]; exact (below_size (qm_ HB.out)) : w.heap.size ≤ gb132)); clear HB; have HB := n0_; have BK132 := n1_; have GW132 := n2_; have GE132 := n3_; clear n0_ n1_ n2_ n3_ hb hbox hg; have hcz10 := bc3_ BK132.out; have hfz10 := bf3_ BK132.out))
    go_ret
    exact ⟨by first | rfl | (simp [errW_none, errW_some] <;> rfl) | (simp only [← hji7]; first | rfl | (simp [errW_none, errW_some] <;> rfl)) | (simp [*, errW_none, errW_some] <;> rfl), by repeat (first | (with_reducible first | exact qm_ HB.out | apply qA_ | apply qN_ | apply qD_ | refine below_set ?_ GE132.out) | exact HB.out)⟩
   ·rw [if_neg c8] at H
    have c8b0 : decide ((Go.bits .andNot .u64 a1 a0_2) < (ji7)) = false := decide_eq_false c8
    clear c8
    replace H := Option.bind_eq_some_iff.mp H
    obtain ⟨t133, A110, H⟩ := H
    replace H : (if (Go.bits .andNot .u64 a1 a0_2) < t133 then (some 3) else ((word_shape_inf.f a0_0 a0_1 a0_2).bind fun t134 => (if (Go.bits .andNot .u64 a1 a0_2) = t134 then (some 4) else (some 5)))) = some r := H
    have A11 := A0_ A110
    clear A110
    by_cases c12 : (Go.bits .andNot .u64 a1 a0_2) < t133
    ·rw [if_pos c12] at H
     have c12b0 : decide ((Go.bits .andNot .u64 a1 a0_2) < t133) = true := decide_eq_true c12
     clear c12
     obtain rfl := Option.some.inj H
     go_enter Try.func76, Try.ntmps76
     go_wp2_with (first | ((with_reducible refine gate_dst (N := 2) rfl ?_); refine box_event ?hg (N := 2) ?hd (cs := #[.int .i64 a0_0, .int .i64 a0_1, .int .u64 a0_2]) (t := 89) ?hr ?_; (case hd => rfl); (case hg => rfl); (case hr => first | (go_simp; done) | (go_simp; rfl)); intro gb132 hg w13 hbox hb; have n0_ := A0_ (below_step (qm_ HB.out) hb); have n1_ := A0_ (hbox); have n2_ := A0_ ((by rw [hg]; exact (below_size (qm_ HB.out)) : w.heap.size ≤ gb132)); have n3_ := A0_ ((by rw [hg]; exact (below_size (qm_ HB.out)) : w.heap.size ≤ gb132)); clear HB; have HB := n0_; have BK132 := n1_; have GW132 := n2_; have GE132 := n3_; clear n0_ n1_ n2_ n3_ hb hbox hg; have hcz14 := bc3_ BK132.out; have hfz14 := bf3_ BK132.out) | ((with_reducible refine gate_callee (f := 68) rfl ?_); refine goesL_ (some 22) rfl rfl Try.func68 (by kernel_rfl) rfl #[.agg #[.int .i64 a0_0, .int .i64 a0_1, .int .u64 a0_2]] rfl (by (try simp only [List.map_toArray, List.map_cons, List.map_nil]); first | done | rfl | (simp only [List.length_drop, List.length_take]; rfl)) ?_; (with_reducible refine (word_shape_inf.calls a0_0 a0_1 a0_2 t133 _ A11.out).mono ?_); rintro e w15 ⟨rfl, hb⟩; refine ⟨_, rfl, ?_⟩; have n0_ := A0_ (blk_below (bm_ BK132.out) hb); have n1_ := A0_ (below_step (by repeat (first | (with_reducible first | exact qm_ HB.out | apply qA_ | apply qN_ | apply qD_ | refine below_set ?_ GE132.out) | exact HB.out)) hb); clear BK132 HB; have BK132 := n0_; have HB := n1_; clear n0_ n1_; (try clear hb)))
     go_ret
     exact ⟨by first | rfl | (simp [errW_none, errW_some] <;> rfl) | (simp only [← hji7]; first | rfl | (simp [errW_none, errW_some] <;> rfl)) | (simp [*, errW_none, errW_some] <;> rfl), by repeat (first | (with_reducible first | exact qm_ HB.out | apply qA_ | apply qN_ | apply qD_ | refine below_set ?_ GE132.out) | exact HB.out)⟩
    ·rw [if_neg c12] at H
     have c12b0 : decide ((Go.bits .andNot .u64 a1 a0_2) < t133) = false := decide_eq_false c12
     clear c12
     replace H := Option.bind_eq_some_iff.mp H
     obtain ⟨t134, A160, H⟩ := H
     replace H : (if (Go.bits .andNot .u64 a1 a0_2) = t134 then (some 4) else (some 5)) = some r := H
     have A16 := A0_ A160
     clear A160
     by_cases c17 : (Go.bits .andNot .u64 a1 a0_2) = t134
     ·rw [if_pos c17] at H
      have c17b0 : ((Go.bits .andNot .u64 a1 a0_2) == t134) = true := beq_iff_eq.mpr c17
      have c17b1 : ((Go.bits .andNot .u64 a1 a0_2) != t134) = false := bne_eq_false_iff_eq.mpr c17
      clear c17
      obtain rfl := Option.some.inj H
      go_enter Try.func76, Try.ntmps76
      go_wp2_with (first | ((with_reducible refine gate_dst (N := 2) rfl ?_); refine box_event ?hg (N := 2) ?hd (cs := #[.int .i64 a0_0, .int .i64 a0_1, .int .u64 a0_2]) (t := 89) ?hr ?_; (case hd => rfl); (case hg => rfl); (case hr => first | (go_simp; done) | (go_simp; rfl)); intro gb132 hg w18 hbox hb; have n0_ := A0_ (below_step (qm_ HB.out) hb); have n1_ := A0_ (hbox); have n2_ := A0_ ((by rw [hg]; exact (below_size (qm_ HB.out)) : w.heap.size ≤ gb132)); have n3_ := A0_ ((by rw [hg]; exact (below_size (qm_ HB.out)) : w.heap.size ≤ gb132)); clear HB; have HB := n0_; have BK132 := n1_; have GW132 := n2_; have GE132 := n3_; clear n0_ n1_ n2_ n3_ hb hbox hg; have hcz19 := bc3_ BK132.out; have hfz19 := bf3_ BK132.out) | ((with_reducible refine gate_callee (f := 68) rfl ?_); refine goesL_ (some 22) rfl rfl Try.func68 (by kernel_rfl) rfl #[.agg #[.int .i64 a0_0, .int .i64 a0_1, .int .u64 a0_2]] rfl (by (try simp only [List.map_toArray, List.map_cons, List.map_nil]); first | done | rfl | (simp only [List.length_drop, List.length_take]; rfl)) ?_; (with_reducible refine (word_shape_inf.calls a0_0 a0_1 a0_2 t133 _ A11.out).mono ?_); rintro e w20 ⟨rfl, hb⟩; refine ⟨_, rfl, ?_⟩; have n0_ := A0_ (blk_below (bm_ BK132.out) hb); have n1_ := A0_ (below_step (by repeat (first | (with_reducible first | exact qm_ HB.out | apply qA_ | apply qN_ | apply qD_ | refine below_set ?_ GE132.out) | exact HB.out)) hb); clear BK132 HB; have BK132 := n0_; have HB := n1_; clear n0_ n1_; (try clear hb); have hcz21 := bc3_ BK132.out; have hfz21 := bf3_ BK132.out) | ((with_reducible refine gate_callee (f := 68) rfl ?_); refine goesL_ (some 27) rfl rfl Try.func68 (by kernel_rfl) rfl #[.agg #[.int .i64 a0_0, .int .i64 a0_1, .int .u64 a0_2]] rfl (by (try simp only [List.map_toArray, List.map_cons, List.map_nil]); first | done | rfl | (simp only [List.length_drop, List.length_take]; rfl)) ?_; (with_reducible refine (word_shape_inf.calls a0_0 a0_1 a0_2 t134 _ A16.out).mono ?_); rintro e w22 ⟨rfl, hb⟩; refine ⟨_, rfl, ?_⟩; have n0_ := A0_ (blk_below (bm_ BK132.out) hb); have n1_ := A0_ (below_step (by repeat (first | (with_reducible first | exact qm_ HB.out | apply qA_ | apply qN_ | apply qD_ | refine below_set ?_ GE132.out) | exact HB.out)) hb); clear BK132 HB; have BK132 := n0_; have HB := n1_; clear n0_ n1_; (try clear hb)))
      go_ret
      exact ⟨by first | rfl | (simp [errW_none, errW_some] <;> rfl) | (simp only [← hji7]; first | rfl | (simp [errW_none, errW_some] <;> rfl)) | (simp [*, errW_none, errW_some] <;> rfl), by repeat (first | (with_reducible first | exact qm_ HB.out | apply qA_ | apply qN_ | apply qD_ | refine below_set ?_ GE132.out) | exact HB.out)⟩
     ·rw [if_neg c17] at H
      have c17b0 : ((Go.bits .andNot .u64 a1 a0_2) == t134) = false := beq_eq_false_iff_ne.mpr c17
      have c17b1 : ((Go.bits .andNot .u64 a1 a0_2) != t134) = true := bne_iff_ne.mpr c17
      obtain rfl := Option.some.inj H
      go_enter Try.func76, Try.ntmps76
      go_wp2_with (first | ((with_reducible refine gate_dst (N := 2) rfl ?_); refine box_event ?hg (N := 2) ?hd (cs := #[.int .i64 a0_0, .int .i64 a0_1, .int .u64 a0_2]) (t := 89) ?hr ?_; (case hd => rfl); (case hg => rfl); (case hr => first | (go_simp; done) | (go_simp; rfl)); intro gb132 hg w23 hbox hb; have n0_ := A0_ (below_step (qm_ HB.out) hb); have n1_ := A0_ (hbox); have n2_ := A0_ ((by rw [hg]; exact (below_size (qm_ HB.out)) : w.heap.size ≤ gb132)); have n3_ := A0_ ((by rw [hg]; exact (below_size (qm_ HB.out)) : w.heap.size ≤ gb132)); clear HB; have HB := n0_; have BK132 := n1_; have GW132 := n2_; have GE132 := n3_; clear n0_ n1_ n2_ n3_ hb hbox hg; have hcz24 := bc3_ BK132.out; have hfz24 := bf3_ BK132.out) | ((with_reducible refine gate_callee (f := 68) rfl ?_); refine goesL_ (some 22) rfl rfl Try.func68 (by kernel_rfl) rfl #[.agg #[.int .i64 a0_0, .int .i64 a0_1, .int .u64 a0_2]] rfl (by (try simp only [List.map_toArray, List.map_cons, List.map_nil]); first | done | rfl | (simp only [List.length_drop, List.length_take]; rfl)) ?_; (with_reducible refine (word_shape_inf.calls a0_0 a0_1 a0_2 t133 _ A11.out).mono ?_); rintro e w25 ⟨rfl, hb⟩; refine ⟨_, rfl, ?_⟩; have n0_ := A0_ (blk_below (bm_ BK132.out) hb); have n1_ := A0_ (below_step (by repeat (first | (with_reducible first | exact qm_ HB.out | apply qA_ | apply qN_ | apply qD_ | refine below_set ?_ GE132.out) | exact HB.out)) hb); clear BK132 HB; have BK132 := n0_; have HB := n1_; clear n0_ n1_; (try clear hb); have hcz26 := bc3_ BK132.out; have hfz26 := bf3_ BK132.out) | ((with_reducible refine gate_callee (f := 68) rfl ?_); refine goesL_ (some 27) rfl rfl Try.func68 (by kernel_rfl) rfl #[.agg #[.int .i64 a0_0, .int .i64 a0_1, .int .u64 a0_2]] rfl (by (try simp only [List.map_toArray, List.map_cons, List.map_nil]); first | done | rfl | (simp only [List.length_drop, List.length_take]; rfl)) ?_; (with_reducible refine (word_shape_inf.calls a0_0 a0_1 a0_2 t134 _ A16.out).mono ?_); rintro e w27 ⟨rfl, hb⟩; refine ⟨_, rfl, ?_⟩; have n0_ := A0_ (blk_below (bm_ BK132.out) hb); have n1_ := A0_ (below_step (by repeat (first | (with_reducible first | exact qm_ HB.out | apply qA_ | apply qN_ | apply qD_ | refine below_set ?_ GE132.out) | exact HB.out)) hb); clear BK132 HB; have BK132 := n0_; have HB := n1_; clear n0_ n1_; (try clear hb)))
      go_ret
      exact ⟨by first | rfl | (simp [errW_none, errW_some] <;> rfl) | (simp only [← hji7]; first | rfl | (simp [errW_none, errW_some] <;> rfl)) | (simp [*, errW_none, errW_some] <;> rfl), by repeat (first | (with_reducible first | exact qm_ HB.out | apply qA_ | apply qN_ | apply qD_ | refine below_set ?_ GE132.out) | exact HB.out)⟩
  ·rw [if_neg c6] at H
   exact absurd H (by simp)
def word_Class.f (k : Nat) (a0 : Int) (a1 : Int) : Option (Int × Int) := (word_open.f k a0 (([a1] : List Int))).bind fun bt138 => (if bt138.2.2.2 = 0 then ((word_shape_class.f bt138.1 bt138.2.1 bt138.2.2.1 a1).bind fun t143 => (some (t143, 0))) else (some (0, bt138.2.2.2)))
set_option maxHeartbeats 2000000 in
set_option maxRecDepth 100000 in
theorem word_Class.calls (k : Nat) (a0 : Int) (a1 : Int) (r1 : Int) (r2 : Int) (w : World) (h : word_Class.f k a0 a1 = some (r1, r2)) :
  Calls Try.prog 56 #[.int .u8 a0, .int .u64 a1] w fun e w' => e = .returned (.tuple #[.int .u8 r1, .int .i64 r2]) ∧ Below w.heap.size w w' := by
 have hu89 := Try.underlying89
 have HB := A0_ (Below.refl w.heap.size w)
 have H : ((word_open.f k a0 (([a1] : List Int))).bind fun bt138 => (if bt138.2.2.2 = 0 then ((word_shape_class.f bt138.1 bt138.2.1 bt138.2.2.1 a1).bind fun t143 => (some (t143, 0))) else (some (0, bt138.2.2.2)))) = some (r1, r2) := h
 clear h
 obtain ⟨y135, hy135⟩ : ∃ y_ : List Int, y_ = (([a1] : List Int)) := ⟨_, rfl⟩
 replace H : ((word_open.f k a0 y135).bind fun bt138 => (if bt138.2.2.2 = 0 then ((word_shape_class.f bt138.1 bt138.2.1 bt138.2.2.1 a1).bind fun t143 => (some (t143, 0))) else (some (0, bt138.2.2.2)))) = some (r1, r2) := by first | (rw [hy135]; with_reducible exact H) | (have H2_ := (Option.bind_some _ _).symm.trans H; rw [hy135]; with_reducible exact H2_) | (have H2_ := (Option.bind_some _ _).symm.trans H; with_reducible exact H2_) | with_reducible exact H | (rw [hy135]; exact H) | exact H
 have Ny135 := A0_ hy135
 clear hy135
 replace H := Option.bind_eq_some_iff.mp H
 obtain ⟨⟨t138, t139, t140, t141⟩, A30, H⟩ := H
 replace H : (if t141 = 0 then ((word_shape_class.f t138 t139 t140 a1).bind fun t143 => (some (t143, 0))) else (some (0, t141))) = some (r1, r2) := H
 have A3 := A0_ A30
 clear A30
 by_cases c4 : t141 = 0
 ·rw [if_pos c4] at H
  have c4b0 : (t141 == 0) = true := beq_iff_eq.mpr c4
  have c4b1 : (t141 != 0) = false := bne_eq_false_iff_eq.mpr c4
  clear c4
  replace H := Option.bind_eq_some_iff.mp H
  obtain ⟨t143, A50, H⟩ := H
  replace H : (some (t143, 0)) = some (r1, r2) := H
  have A5 := A0_ A50
  clear A50
  simp only [Option.some.injEq, Prod.mk.injEq] at H
  obtain ⟨rfl, rfl⟩ := H
  go_enter Try.func56, Try.ntmps56
  go_wp2_with (first | ((with_reducible refine gate_dst (N := 11) rfl ?_); refine Kd.R_lit (Kd.int .u64) _ 23 ?hg (N := 11) ?hd (xs := ([a1] : List Int)) (inner := [.int .u64 a1]) (ok := fun _ => True) (okp := fun _ => True) ?hr ?hp (fun _ hk => hk) trivial (Below.refl _ _) (Nat.le_refl _) (by simp) ?_; (case hd => rfl); (case hg => rfl); (case hr => first | (go_simp; done) | (go_simp; rfl)); (case hp => exact (Reps.one (show Kd.M (Kd.int .u64) _ _ _ a1 [.int .u64 a1] from rfl) (Reps.none _ _))); intro v136 w6 ho7 hb hg_ hnew_; clear hg_ hnew_; (first | rw [← Ny135.out] at ho7 | (simp only [Int.reduceToNat] at ho7; rw [← Ny135.out] at ho7)); have n0_ := A0_ (Kd.R_lower ho7 (below_size (qm_ HB.out))); have n1_ := A0_ (below_step (qm_ HB.out) hb); clear HB; have HO137 := n0_; have HB := n1_; clear n0_ n1_ hb ho7; obtain ⟨Ao8, co8, eo8⟩ := Kd.R_slice HO137.out; subst eo8) | ((with_reducible refine gate_callee (f := 75) rfl ?_); refine goesL_ (some 12) rfl rfl Try.func75 (by kernel_rfl) rfl #[.int .u8 a0, .slice Ao8 y135.length co8] rfl (by (try simp only [List.map_toArray, List.map_cons, List.map_nil]); first | done | rfl | (simp only [List.length_drop, List.length_take]; rfl)) ?_; (with_reducible refine (word_open.calls k a0 _ _ y135 t138 t139 t140 t141 _ ?side1 ?side2 A3.out).mono ?_); (case side1 => repeat (first | exact (Kd.R_reads' HO137.out).2.2 | (with_reducible refine Kd.C_alloc ?_ _) | (with_reducible refine Kd.C_drewN ?_ _) | (with_reducible refine Kd.C_drew ?_))); (case side2 => exact (Kd.R_reads' HO137.out).2.1); rintro e w9 ⟨rfl, hb⟩; refine ⟨_, rfl, ?_⟩; have n0_ := A0_ (Kd.R_below (by exact rm_ HO137.out) hb); have n1_ := A0_ (below_step (qm_ HB.out) hb); clear HO137 HB; have HO137 := n0_; have HB := n1_; clear n0_ n1_; (try clear hb)) | ((with_reducible refine gate_dst (N := 6) rfl ?_); refine box_event ?hg (N := 6) ?hd (cs := #[.int .i64 0, .int .i64 0, .int .u64 0]) (t := 89) ?hr ?_; (case hd => rfl); (case hg => rfl); (case hr => first | (go_simp; done) | (go_simp; rfl)); intro gb142 hg w10 hbox hb; have n0_ := A0_ (Kd.R_below (by exact rm_ HO137.out) hb); have n1_ := A0_ (below_step (qm_ HB.out) hb); have n2_ := A0_ (hbox); have n3_ := A0_ ((by rw [hg]; exact (below_size (qm_ HB.out)) : w.heap.size ≤ gb142)); have n4_ := A0_ ((by rw [hg]; exact (below_size (qm_ HB.out)) : w.heap.size ≤ gb142)); clear HO137 HB; have HO137 := n0_; have HB := n1_; have BK142 := n2_; have GW142 := n3_; have GE142 := n4_; clear n0_ n1_ n2_ n3_ n4_ hb hbox hg; have hcz11 := bc3_ BK142.out; have hfz11 := bf3_ BK142.out) | ((with_reducible refine gate_callee (f := 76) rfl ?_); refine goesL_ (some 20) rfl rfl Try.func76 (by kernel_rfl) rfl #[.agg #[.int .i64 t138, .int .i64 t139, .int .u64 t140], .int .u64 a1] rfl (by (try simp only [List.map_toArray, List.map_cons, List.map_nil]); first | done | rfl | (simp only [List.length_drop, List.length_take]; rfl)) ?_; (with_reducible refine (word_shape_class.calls t138 t139 t140 a1 t143 _ A5.out).mono ?_); rintro e w12 ⟨rfl, hb⟩; refine ⟨_, rfl, ?_⟩; have n0_ := A0_ (Kd.R_below (by (with_reducible repeat (first | apply Kd.R_alloc | apply Kd.R_drewN | apply Kd.R_drew)); exact (Kd.R_mono (Kd.R_far (p := ⟨gb142, 2, none⟩) (Kd.R_far (p := ⟨gb142, 1, none⟩) (Kd.R_far (p := ⟨gb142, 0, none⟩) (Kd.R_types HO137.out BK142.out (by decide)) (fun _ hk => hk.2) (.int .i64 t138)) (fun _ hk => hk.2) (.int .i64 t139)) (fun _ hk => hk.2) (.int .u64 t140)) (fun _ h_ => h_.1))) hb); have n1_ := A0_ (blk_below (g := gb142) (o := .cells #[.int .i64 t138, .int .i64 t139, .int .u64 t140] 89 (0, 0)) (by (with_reducible repeat first | apply bN_ | apply bD_ | apply bA_); refine blk_put (cs := #[.int .i64 t138, .int .i64 t139, .int .u64 0]) ?_ 2 _ rfl; (with_reducible repeat first | apply bN_ | apply bD_ | apply bA_); refine blk_put (cs := #[.int .i64 t138, .int .i64 0, .int .u64 0]) ?_ 1 _ rfl; (with_reducible repeat first | apply bN_ | apply bD_ | apply bA_); refine blk_put (cs := #[.int .i64 0, .int .i64 0, .int .u64 0]) ?_ 0 _ rfl; (with_reducible repeat first | apply bN_ | apply bD_ | apply bA_); exact BK142.out) hb); have n2_ := A0_ (below_step (by repeat (first | (with_reducible first | exact qm_ HB.out | apply qA_ | apply qN_ | apply qD_ | refine below_set ?_ GE142.out) | exact HB.out)) hb); clear HO137 BK142 HB; have HO137 := n0_; have BK142 := n1_; have HB := n2_; clear n0_ n1_ n2_; (try clear hb)))
  go_ret2
  exact ⟨by first | rfl | (simp [errW_none, errW_some] <;> rfl) | (simp [*, errW_none, errW_some] <;> rfl), by repeat (first | (with_reducible first | exact qm_ HB.out | apply qA_ | apply qN_ | apply qD_ | refine below_set ?_ GE142.out) | exact HB.out)⟩
 ·rw [if_neg c4] at H
  have c4b0 : (t141 == 0) = false := beq_eq_false_iff_ne.mpr c4
  have c4b1 : (t141 != 0) = true := bne_iff_ne.mpr c4
  simp only [Option.some.injEq, Prod.mk.injEq] at H
  obtain ⟨rfl, rfl⟩ := H
  go_enter Try.func56, Try.ntmps56
  go_wp2_with (first | ((with_reducible refine gate_dst (N := 11) rfl ?_); refine Kd.R_lit (Kd.int .u64) _ 23 ?hg (N := 11) ?hd (xs := ([a1] : List Int)) (inner := [.int .u64 a1]) (ok := fun _ => True) (okp := fun _ => True) ?hr ?hp (fun _ hk => hk) trivial (Below.refl _ _) (Nat.le_refl _) (by simp) ?_; (case hd => rfl); (case hg => rfl); (case hr => first | (go_simp; done) | (go_simp; rfl)); (case hp => exact (Reps.one (show Kd.M (Kd.int .u64) _ _ _ a1 [.int .u64 a1] from rfl) (Reps.none _ _))); intro v136 w13 ho14 hb hg_ hnew_; clear hg_ hnew_; (first | rw [← Ny135.out] at ho14 | (simp only [Int.reduceToNat] at ho14; rw [← Ny135.out] at ho14)); have n0_ := A0_ (Kd.R_lower ho14 (below_size (qm_ HB.out))); have n1_ := A0_ (below_step (qm_ HB.out) hb); clear HB; have HO137 := n0_; have HB := n1_; clear n0_ n1_ hb ho14; obtain ⟨Ao15, co15, eo15⟩ := Kd.R_slice HO137.out; subst eo15) | ((with_reducible refine gate_callee (f := 75) rfl ?_); refine goesL_ (some 12) rfl rfl Try.func75 (by kernel_rfl) rfl #[.int .u8 a0, .slice Ao15 y135.length co15] rfl (by (try simp only [List.map_toArray, List.map_cons, List.map_nil]); first | done | rfl | (simp only [List.length_drop, List.length_take]; rfl)) ?_; (with_reducible refine (word_open.calls k a0 _ _ y135 t138 t139 t140 t141 _ ?side1 ?side2 A3.out).mono ?_); (case side1 => repeat (first | exact (Kd.R_reads' HO137.out).2.2 | (with_reducible refine Kd.C_alloc ?_ _) | (with_reducible refine Kd.C_drewN ?_ _) | (with_reducible refine Kd.C_drew ?_))); (case side2 => exact (Kd.R_reads' HO137.out).2.1); rintro e w16 ⟨rfl, hb⟩; refine ⟨_, rfl, ?_⟩; have n0_ := A0_ (Kd.R_below (by exact rm_ HO137.out) hb); have n1_ := A0_ (below_step (qm_ HB.out) hb); clear HO137 HB; have HO137 := n0_; have HB := n1_; clear n0_ n1_; (try clear hb)) | ((with_reducible refine gate_dst (N := 6) rfl ?_); refine box_event ?hg (N := 6) ?hd (cs := #[.int .i64 0, .int .i64 0, .int .u64 0]) (t := 89) ?hr ?_; (case hd => rfl); (case hg => rfl); (case hr => first | (go_simp; done) | (go_simp; rfl)); intro gb142 hg w17 hbox hb; have n0_ := A0_ (Kd.R_below (by exact rm_ HO137.out) hb); have n1_ := A0_ (below_step (qm_ HB.out) hb); have n2_ := A0_ (hbox); have n3_ := A0_ ((by rw [hg]; exact (below_size (qm_ HB.out)) : w.heap.size ≤ gb142)); have n4_ := A0_ ((by rw [hg]; exact (below_size (qm_ HB.out)) : w.heap.size ≤ gb142)); clear HO137 HB; have HO137 := n0_; have HB := n1_; have BK142 := n2_; have GW142 := n3_; have GE142 := n4_; clear n0_ n1_ n2_ n3_ n4_ hb hbox hg; have hcz18 := bc3_ BK142.out; have hfz18 := bf3_ BK142.out))
  go_ret2
  exact ⟨by first | rfl | (simp [errW_none, errW_some] <;> rfl) | (simp [*, errW_none, errW_some] <;> rfl), by repeat (first | (with_reducible first | exact qm_ HB.out | apply qA_ | apply qN_ | apply qD_ | refine below_set ?_ GE142.out) | exact HB.out)⟩
end Go.Proofs.Ytnjdaoeebhbmfaa.PA
end

section
namespace Go.Proofs.Ytnjdaoeebhbmfaa.PA
open Go.RowKit Go.Proofs.YtnjdaoeebhbmfaaW.PrintWords Go.Proofs.YtnjdaoeebhbmfaaW.PrintLast Go.Proofs.YtnjdaoeebhbmfaaW.PrintMore
attribute [local go_sem] max2_int min2_int max_two min_two max_three min_three max_four min_four   -- for this text's walks alone
set_option linter.unusedVariables false
set_option linter.unusedSimpArgs false
def rank_isNaN.f (k : Nat) (a0 : Int) (a1 : Int) : Option (Bool) := (word_Class.f k a0 a1).bind fun bt144 => (some (bt144.1 == 5))
set_option maxHeartbeats 2000000 in
set_option maxRecDepth 100000 in
theorem rank_isNaN.calls (k : Nat) (a0 : Int) (a1 : Int) (r : Bool) (w : World) (h : rank_isNaN.f k a0 a1 = some r) :
  Calls Try.prog 35 #[.int .u8 a0, .int .u64 a1] w fun e w' => e = .returned (.bool r) ∧ Below w.heap.size w w' := by
 have HB := A0_ (Below.refl w.heap.size w)
 have H : ((word_Class.f k a0 a1).bind fun bt144 => (some (bt144.1 == 5))) = some r := h
 clear h
 replace H := Option.bind_eq_some_iff.mp H
 obtain ⟨⟨t144, t145⟩, A30, H⟩ := H
 replace H : (some (t144 == 5)) = some r := H
 have A3 := A0_ A30
 clear A30
 obtain rfl := Option.some.inj H
 go_enter Try.func35, Try.ntmps35
 go_wp2_with (first | ((with_reducible refine gate_callee (f := 56) rfl ?_); refine goesL_ (some 10) rfl rfl Try.func56 (by kernel_rfl) rfl #[.int .u8 a0, .int .u64 a1] rfl (by (try simp only [List.map_toArray, List.map_cons, List.map_nil]); first | done | rfl | (simp only [List.length_drop, List.length_take]; rfl)) ?_; (with_reducible refine (word_Class.calls k a0 a1 t144 t145 _ A3.out).mono ?_); rintro e w4 ⟨rfl, hb⟩; refine ⟨_, rfl, ?_⟩; have n0_ := A0_ (below_step (qm_ HB.out) hb); clear HB; have HB := n0_; clear n0_; (try clear hb)))
 go_ret
 exact ⟨by first | rfl | (simp [errW_none, errW_some] <;> rfl) | (simp [*, errW_none, errW_some] <;> rfl), qm_ HB.out⟩
def cmp_isNaN_int64.f (a0 : Int) : Option (Bool) := some (a0 != a0)
set_option maxHeartbeats 2000000 in
set_option maxRecDepth 100000 in
theorem cmp_isNaN_int64.calls (a0 : Int) (r : Bool) (w : World) (h : cmp_isNaN_int64.f a0 = some r) :
  Calls Try.prog 57 #[.int .i64 a0] w fun e w' => e = .returned (.bool r) ∧ Drawn0 w w' := by
 have H : (some (a0 != a0)) = some r := h
 clear h
 obtain rfl := Option.some.inj H
 go_enter Try.func57, Try.ntmps57
 go_wp2
 go_ret
 exact ⟨by first | rfl | (simp; done) | (simp [*]; done), by repeat (first | exact Drawn0.refl _ | apply Drawn0.step)⟩
def cmp_Compare_int64.f (a0 : Int) (a1 : Int) : Option (Int) := (cmp_isNaN_int64.f a0).bind fun t146 => ((cmp_isNaN_int64.f a1).bind fun t147 => (if t146 = true then (if t147 = true then (some 0) else (some (-1))) else (if t147 = true then (some 1) else (if a0 < a1 then (some (-1)) else (if a0 > a1 then (some 1) else (some 0))))))
set_option maxHeartbeats 2000000 in
set_option maxRecDepth 100000 in
theorem cmp_Compare_int64.calls (a0 : Int) (a1 : Int) (r : Int) (w : World) (h : cmp_Compare_int64.f a0 a1 = some r) :
  Calls Try.prog 36 #[.int .i64 a0, .int .i64 a1] w fun e w' => e = .returned (.int .i64 r) ∧ Drawn0 w w' := by
 have H : ((cmp_isNaN_int64.f a0).bind fun t146 => ((cmp_isNaN_int64.f a1).bind fun t147 => (if t146 = true then (if t147 = true then (some 0) else (some (-1))) else (if t147 = true then (some 1) else (if a0 < a1 then (some (-1)) else (if a0 > a1 then (some 1) else (some 0))))))) = some r := h
 clear h
 replace H := Option.bind_eq_some_iff.mp H
 obtain ⟨t146, A30, H⟩ := H
 replace H : ((cmp_isNaN_int64.f a1).bind fun t147 => (if t146 = true then (if t147 = true then (some 0) else (some (-1))) else (if t147 = true then (some 1) else (if a0 < a1 then (some (-1)) else (if a0 > a1 then (some 1) else (some 0)))))) = some r := H
 have A3 := A0_ A30
 clear A30
 replace H := Option.bind_eq_some_iff.mp H
 obtain ⟨t147, A40, H⟩ := H
 replace H : (if t146 = true then (if t147 = true then (some 0) else (some (-1))) else (if t147 = true then (some 1) else (if a0 < a1 then (some (-1)) else (if a0 > a1 then (some 1) else (some 0))))) = some r := H
 have A4 := A0_ A40
 clear A40
 by_cases c5 : t146 = true
 ·subst c5
  have H1 : (if t147 = true then (some 0) else (some (-1))) = some r := by rw [if_pos rfl] at H; exact H
  clear H
  have H := H1
  clear H1
  by_cases c6 : t147 = true
  ·subst c6
   have H1 : (some 0) = some r := by rw [if_pos rfl] at H; exact H
   clear H
   have H := H1
   clear H1
   obtain rfl := Option.some.inj H
   go_enter Try.func36, Try.ntmps36
   go_wp2_with (first | ((with_reducible refine gate_callee (f := 57) rfl ?_); refine goesL_ (some 8) rfl rfl Try.func57 (by kernel_rfl) rfl #[.int .i64 a0] rfl (by (try simp only [List.map_toArray, List.map_cons, List.map_nil]); first | done | rfl | (simp only [List.length_drop, List.length_take]; rfl)) ?_; (with_reducible refine (cmp_isNaN_int64.calls a0 true _ A3.out).mono ?_); rintro e w' ⟨rfl, ⟨nd, rfl⟩⟩; refine ⟨_, rfl, ?_⟩) | ((with_reducible refine gate_callee (f := 57) rfl ?_); refine goesL_ (some 10) rfl rfl Try.func57 (by kernel_rfl) rfl #[.int .i64 a1] rfl (by (try simp only [List.map_toArray, List.map_cons, List.map_nil]); first | done | rfl | (simp only [List.length_drop, List.length_take]; rfl)) ?_; (with_reducible refine (cmp_isNaN_int64.calls a1 true _ A4.out).mono ?_); rintro e w' ⟨rfl, ⟨nd, rfl⟩⟩; refine ⟨_, rfl, ?_⟩))
   go_ret
   exact ⟨by first | rfl | (simp; done) | (simp [*]; done), by repeat (first | exact Drawn0.refl _ | apply Drawn0.step)⟩
  ·replace c6 := Bool.eq_false_iff.mpr c6
   subst c6
   have H1 : (some (-1)) = some r := by rw [if_neg (show ¬ (false = true) by decide)] at H; exact H
   clear H
   have H := H1
   clear H1
   obtain rfl := Option.some.inj H
   go_enter Try.func36, Try.ntmps36
   go_wp2_with (first | ((with_reducible refine gate_callee (f := 57) rfl ?_); refine goesL_ (some 8) rfl rfl Try.func57 (by kernel_rfl) rfl #[.int .i64 a0] rfl (by (try simp only [List.map_toArray, List.map_cons, List.map_nil]); first | done | rfl | (simp only [List.length_drop, List.length_take]; rfl)) ?_; (with_reducible refine (cmp_isNaN_int64.calls a0 true _ A3.out).mono ?_); rintro e w' ⟨rfl, ⟨nd, rfl⟩⟩; refine ⟨_, rfl, ?_⟩) | ((with_reducible refine gate_callee (f := 57) rfl ?_); refine goesL_ (some 10) rfl rfl Try.func57 (by kernel_rfl) rfl #[.int .i64 a1] rfl (by (try simp only [List.map_toArray, List.map_cons, List.map_nil]); first | done | rfl | (simp only [List.length_drop, List.length_take]; rfl)) ?_; (with_reducible refine (cmp_isNaN_int64.calls a1 false _ A4.out).mono ?_); rintro e w' ⟨rfl, ⟨nd, rfl⟩⟩; refine ⟨_, rfl, ?_⟩))
   go_ret
   exact ⟨by first | rfl | (simp; done) | (simp [*]; done), by repeat (first | exact Drawn0.refl _ | apply Drawn0.step)⟩
 ·replace c5 := Bool.eq_false_iff.mpr c5
  subst c5
  have H1 : (if t147 = true then (some 1) else (if a0 < a1 then (some (-1)) else (if a0 > a1 then (some 1) else (some 0)))) = some r := by rw [if_neg (show ¬ (false = true) by decide)] at H; exact H
  clear H
  have H := H1
  clear H1
  by_cases c7 : t147 = true
  ·subst c7
   have H1 : (some 1) = some r := by rw [if_pos rfl] at H; exact H
   clear H
   have H := H1
   clear H1
   obtain rfl := Option.some.inj H
   go_enter Try.func36, Try.ntmps36
   go_wp2_with (first | ((with_reducible refine gate_callee (f := 57) rfl ?_); refine goesL_ (some 8) rfl rfl Try.func57 (by kernel_rfl) rfl #[.int .i64 a0] rfl (by (try simp only [List.map_toArray, List.map_cons, List.map_nil]); first | done | rfl | (simp only [List.length_drop, List.length_take]; rfl)) ?_; (with_reducible refine (cmp_isNaN_int64.calls a0 false _ A3.out).mono ?_); rintro e w' ⟨rfl, ⟨nd, rfl⟩⟩; refine ⟨_, rfl, ?_⟩) | ((with_reducible refine gate_callee (f := 57) rfl ?_); refine goesL_ (some 10) rfl rfl Try.func57 (by kernel_rfl) rfl #[.int .i64 a1] rfl (by (try simp only [List.map_toArray, List.map_cons, List.map_nil]); first | done | rfl | (simp only [List.length_drop, List.length_take]; rfl)) ?_; (with_reducible refine (cmp_isNaN_int64.calls a1 true _ A4.out).mono ?_); rintro e w' ⟨rfl, ⟨nd, rfl⟩⟩; refine ⟨_, rfl, ?_⟩))
   go_ret
   exact ⟨by first | rfl | (simp; done) | (simp [*]; done), by repeat (first | exact Drawn0.refl _ | apply Drawn0.step)⟩
  ·replace c7 := Bool.eq_false_iff.mpr c7
   subst c7
   have H1 : (if a0 < a1 then (some (-1)) else (if a0 > a1 then (some 1) else (some 0))) = some r := by rw [if_neg (show ¬ (false = true) by decide)] at H; exact H
   clear H
   have H := H1
   clear H1
   by_cases c8 : a0 < a1
   ·rw [if_pos c8] at H
    have c8b0 : decide (a0 < a1) = true := decide_eq_true c8
    clear c8
    obtain rfl := Option.some.inj H
    go_enter Try.func36, Try.ntmps36
    go_wp2_with (first | ((with_reducible refine gate_callee (f := 57) rfl ?_); refine goesL_ (some 8) rfl rfl Try.func57 (by kernel_rfl) rfl #[.int .i64 a0] rfl (by (try simp only [List.map_toArray, List.map_cons, List.map_nil]); first | done | rfl | (simp only [List.length_drop, List.length_take]; rfl)) ?_; (with_reducible refine (cmp_isNaN_int64.calls a0 false _ A3.out).mono ?_); rintro e w' ⟨rfl, ⟨nd, rfl⟩⟩; refine ⟨_, rfl, ?_⟩) | ((with_reducible refine gate_callee (f := 57) rfl ?_); refine goesL_ (some 10) rfl rfl Try.func57 (by kernel_rfl) rfl #[.int .i64 a1] rfl (by (try simp only [List.map_toArray, List.map_cons, List.map_nil]); first | done | rfl | (simp only [List.length_drop, List.length_take]; rfl)) ?_; (with_reducible refine (cmp_isNaN_int64.calls a1 false _ A4.out).mono ?_); rintro e w' ⟨rfl, ⟨nd, rfl⟩⟩; refine ⟨_, rfl, ?_⟩))
    go_ret
    exact ⟨by first | rfl | (simp; done) | (simp [*]; done), by repeat (first | exact Drawn0.refl _ | apply Drawn0.step)⟩
   ·rw [if_neg c8] at H
    have c8b0 : decide (a0 < a1) = false := decide_eq_false c8
    clear c8
    by_cases c9 : a0 > a1
    ·rw [if_pos c9] at H
     have c9b0 : decide (a1 < a0) = true := decide_eq_true c9
     clear c9
     obtain rfl := Option.some.inj H
     go_enter Try.func36, Try.ntmps36
     go_wp2_with (first | ((with_reducible refine gate_callee (f := 57) rfl ?_); refine goesL_ (some 8) rfl rfl Try.func57 (by kernel_rfl) rfl #[.int .i64 a0] rfl (by (try simp only [List.map_toArray, List.map_cons, List.map_nil]); first | done | rfl | (simp only [List.length_drop, List.length_take]; rfl)) ?_; (with_reducible refine (cmp_isNaN_int64.calls a0 false _ A3.out).mono ?_); rintro e w' ⟨rfl, ⟨nd, rfl⟩⟩; refine ⟨_, rfl, ?_⟩) | ((with_reducible refine gate_callee (f := 57) rfl ?_); refine goesL_ (some 10) rfl rfl Try.func57 (by kernel_rfl) rfl #[.int .i64 a1] rfl (by (try simp only [List.map_toArray, List.map_cons, List.map_nil]); first | done | rfl | (simp only [List.length_drop, List.length_take]; rfl)) ?_; (with_reducible refine (cmp_isNaN_int64.calls a1 false _ A4.out).mono ?_); rintro e w' ⟨rfl, ⟨nd, rfl⟩⟩; refine ⟨_, rfl, ?_⟩))
     go_ret
     exact ⟨by first | rfl | (simp; done) | (simp [*]; done), by repeat (first | exact Drawn0.refl _ | apply Drawn0.step)⟩
    ·rw [if_neg c9] at H
     have c9b0 : decide (a1 < a0) = false := decide_eq_false c9
     clear c9
     obtain rfl := Option.some.inj H
     go_enter Try.func36, Try.ntmps36
     go_wp2_with (first | ((with_reducible refine gate_callee (f := 57) rfl ?_); refine goesL_ (some 8) rfl rfl Try.func57 (by kernel_rfl) rfl #[.int .i64 a0] rfl (by (try simp only [List.map_toArray, List.map_cons, List.map_nil]); first | done | rfl | (simp only [List.length_drop, List.length_take]; rfl)) ?_; (with_reducible refine (cmp_isNaN_int64.calls a0 false _ A3.out).mono ?_); rintro e w' ⟨rfl, ⟨nd, rfl⟩⟩; refine ⟨_, rfl, ?_⟩) | ((with_reducible refine gate_callee (f := 57) rfl ?_); refine goesL_ (some 10) rfl rfl Try.func57 (by kernel_rfl) rfl #[.int .i64 a1] rfl (by (try simp only [List.map_toArray, List.map_cons, List.map_nil]); first | done | rfl | (simp only [List.length_drop, List.length_take]; rfl)) ?_; (with_reducible refine (cmp_isNaN_int64.calls a1 false _ A4.out).mono ?_); rintro e w' ⟨rfl, ⟨nd, rfl⟩⟩; refine ⟨_, rfl, ?_⟩))
     go_ret
     exact ⟨by first | rfl | (simp; done) | (simp [*]; done), by repeat (first | exact Drawn0.refl _ | apply Drawn0.step)⟩
def word_turned.f (k : Nat) (a0 : Int) (a1 : Int) (a2 : Int → Int → Int → Option (Int)) : Option (Int × Int) := (word_open.f k a0 (([a1] : List Int))).bind fun bt151 => (if bt151.2.2.2 = 0 then ((word_shape_class.f bt151.1 bt151.2.1 bt151.2.2.1 a1).bind fun t156 => (if t156 = 5 then ((word_shape_none.f bt151.1 bt151.2.1 bt151.2.2.1).bind fun t157 => (some (t157, 0))) else ((a2 bt151.1 bt151.2.1 bt151.2.2.1).bind fun t158 => (some (t158, 0))))) else (some (0, bt151.2.2.2)))
set_option maxHeartbeats 2000000 in
set_option maxRecDepth 100000 in
theorem word_turned.calls (k : Nat) (a0 : Int) (a1 : Int) (a2 : Int → Int → Int → Option (Int)) (r1 : Int) (r2 : Int) (w : World) (fg2 : Nat) (fn2 : Func) (fc2 : List Value) (FV2 : Aside0 (Try.prog.funcs[fg2]? = some fn2 ∧ (fn2.name == "runtime.NumGoroutine") = false ∧ fn2.body.isSome = true ∧ ∀ (s0_ : Int) (s1_ : Int) (s2_ : Int) (q0_ : Int) (w_ : World), Below w.heap.size w w_ → a2 s0_ s1_ s2_ = some q0_ → Calls Try.prog fg2 (List.toArray ([.agg #[.int .i64 s0_, .int .i64 s1_, .int .u64 s2_]] ++ fc2)) w_ fun e w' => e = .returned (.int .u64 q0_) ∧ Below w_.heap.size w_ w')) (h : word_turned.f k a0 a1 a2 = some (r1, r2)) :
  Calls Try.prog 69 #[.int .u8 a0, .int .u64 a1, .func (.func fg2) #[] fc2.toArray] w fun e w' => e = .returned (.tuple #[.int .u64 r1, .int .i64 r2]) ∧ Below w.heap.size w w' := by
 have hu89 := Try.underlying89
 have HB := A0_ (Below.refl w.heap.size w)
 have H : ((word_open.f k a0 (([a1] : List Int))).bind fun bt151 => (if bt151.2.2.2 = 0 then ((word_shape_class.f bt151.1 bt151.2.1 bt151.2.2.1 a1).bind fun t156 => (if t156 = 5 then ((word_shape_none.f bt151.1 bt151.2.1 bt151.2.2.1).bind fun t157 => (some (t157, 0))) else ((a2 bt151.1 bt151.2.1 bt151.2.2.1).bind fun t158 => (some (t158, 0))))) else (some (0, bt151.2.2.2)))) = some (r1, r2) := h
 clear h
 obtain ⟨y148, hy148⟩ : ∃ y_ : List Int, y_ = (([a1] : List Int)) := ⟨_, rfl⟩
 replace H : ((word_open.f k a0 y148).bind fun bt151 => (if bt151.2.2.2 = 0 then ((word_shape_class.f bt151.1 bt151.2.1 bt151.2.2.1 a1).bind fun t156 => (if t156 = 5 then ((word_shape_none.f bt151.1 bt151.2.1 bt151.2.2.1).bind fun t157 => (some (t157, 0))) else ((a2 bt151.1 bt151.2.1 bt151.2.2.1).bind fun t158 => (some (t158, 0))))) else (some (0, bt151.2.2.2)))) = some (r1, r2) := by first | (rw [hy148]; with_reducible exact H) | (have H2_ := (Option.bind_some _ _).symm.trans H; rw [hy148]; with_reducible exact H2_) | (have H2_ := (Option.bind_some _ _).symm.trans H; with_reducible exact H2_) | with_reducible exact H | (rw [hy148]; exact H) | exact H
 have Ny148 := A0_ hy148
 clear hy148
 replace H := Option.bind_eq_some_iff.mp H
 obtain ⟨⟨t151, t152, t153, t154⟩, A40, H⟩ := H
 replace H : (if t154 = 0 then ((word_shape_class.f t151 t152 t153 a1).bind fun t156 => (if t156 = 5 then ((word_shape_none.f t151 t152 t153).bind fun t157 => (some (t157, 0))) else ((a2 t151 t152 t153).bind fun t158 => (some (t158, 0))))) else (some (0, t154))) = some (r1, r2) := H
 have A4 := A0_ A40
 clear A40
 by_cases c5 : t154 = 0
 ·rw [if_pos c5] at H
  have c5b0 : (t154 == 0) = true := beq_iff_eq.mpr c5
  have c5b1 : (t154 != 0) = false := bne_eq_false_iff_eq.mpr c5
  clear c5
  replace H := Option.bind_eq_some_iff.mp H
  obtain ⟨t156, A60, H⟩ := H
  replace H : (if t156 = 5 then ((word_shape_none.f t151 t152 t153).bind fun t157 => (some (t157, 0))) else ((a2 t151 t152 t153).bind fun t158 => (some (t158, 0)))) = some (r1, r2) := H
  have A6 := A0_ A60
  clear A60
  by_cases c7 : t156 = 5
  ·rw [if_pos c7] at H
   have c7b0 : (t156 == 5) = true := beq_iff_eq.mpr c7
   have c7b1 : (t156 != 5) = false := bne_eq_false_iff_eq.mpr c7
   clear c7
   replace H := Option.bind_eq_some_iff.mp H
   obtain ⟨t157, A80, H⟩ := H
   replace H : (some (t157, 0)) = some (r1, r2) := H
   have A8 := A0_ A80
   clear A80
   simp only [Option.some.injEq, Prod.mk.injEq] at H
   obtain ⟨rfl, rfl⟩ := H
   go_enter Try.func69, Try.ntmps69
   go_wp2_with (first | ((with_reducible refine gate_dst (N := 13) rfl ?_); refine Kd.R_lit (Kd.int .u64) _ 23 ?hg (N := 13) ?hd (xs := ([a1] : List Int)) (inner := [.int .u64 a1]) (ok := fun _ => True) (okp := fun _ => True) ?hr ?hp (fun _ hk => hk) trivial (Below.refl _ _) (Nat.le_refl _) (by simp) ?_; (case hd => rfl); (case hg => rfl); (case hr => first | (go_simp; done) | (go_simp; rfl)); (case hp => exact (Reps.one (show Kd.M (Kd.int .u64) _ _ _ a1 [.int .u64 a1] from rfl) (Reps.none _ _))); intro v149 w9 ho10 hb hg_ hnew_; clear hg_ hnew_; (first | rw [← Ny148.out] at ho10 | (simp only [Int.reduceToNat] at ho10; rw [← Ny148.out] at ho10)); have n0_ := A0_ (Kd.R_lower ho10 (below_size (qm_ HB.out))); have n1_ := A0_ (below_step (qm_ HB.out) hb); clear HB; have HO150 := n0_; have HB := n1_; clear n0_ n1_ hb ho10; obtain ⟨Ao11, co11, eo11⟩ := Kd.R_slice HO150.out; subst eo11) | ((with_reducible refine gate_callee (f := 75) rfl ?_); refine goesL_ (some 14) rfl rfl Try.func75 (by kernel_rfl) rfl #[.int .u8 a0, .slice Ao11 y148.length co11] rfl (by (try simp only [List.map_toArray, List.map_cons, List.map_nil]); first | done | rfl | (simp only [List.length_drop, List.length_take]; rfl)) ?_; (with_reducible refine (word_open.calls k a0 _ _ y148 t151 t152 t153 t154 _ ?side1 ?side2 A4.out).mono ?_); (case side1 => repeat (first | exact (Kd.R_reads' HO150.out).2.2 | (with_reducible refine Kd.C_alloc ?_ _) | (with_reducible refine Kd.C_drewN ?_ _) | (with_reducible refine Kd.C_drew ?_))); (case side2 => exact (Kd.R_reads' HO150.out).2.1); rintro e w12 ⟨rfl, hb⟩; refine ⟨_, rfl, ?_⟩; have n0_ := A0_ (Kd.R_below (by exact rm_ HO150.out) hb); have n1_ := A0_ (below_step (qm_ HB.out) hb); clear HO150 HB; have HO150 := n0_; have HB := n1_; clear n0_ n1_; (try clear hb)) | ((with_reducible refine gate_dst (N := 8) rfl ?_); refine box_event ?hg (N := 8) ?hd (cs := #[.int .i64 0, .int .i64 0, .int .u64 0]) (t := 89) ?hr ?_; (case hd => rfl); (case hg => rfl); (case hr => first | (go_simp; done) | (go_simp; rfl)); intro gb155 hg w13 hbox hb; have n0_ := A0_ (Kd.R_below (by exact rm_ HO150.out) hb); have n1_ := A0_ (below_step (qm_ HB.out) hb); have n2_ := A0_ (hbox); have n3_ := A0_ ((by rw [hg]; exact (below_size (qm_ HB.out)) : w.heap.size ≤ gb155)); have n4_ := A0_ ((by rw [hg]; exact (below_size (qm_ HB.out)) : w.heap.size ≤ gb155)); clear HO150 HB; have HO150 := n0_; have HB := n1_; have BK155 := n2_; have GW155 := n3_; have GE155 := n4_; clear n0_ n1_ n2_ n3_ n4_ hb hbox hg; have hcz14 := bc3_ BK155.out; have hfz14 := bf3_ BK155.out) | ((with_reducible refine gate_callee (f := 76) rfl ?_); refine goesL_ (some 22) rfl rfl Try.func76 (by kernel_rfl) rfl #[.agg #[.int .i64 t151, .int .i64 t152, .int .u64 t153], .int .u64 a1] rfl (by (try simp only [List.map_toArray, List.map_cons, List.map_nil]); first | done | rfl | (simp only [List.length_drop, List.length_take]; rfl)) ?_; (with_reducible refine (word_shape_class.calls t151 t152 t153 a1 t156 _ A6.out).mono ?_); rintro e w15 ⟨rfl, hb⟩; refine ⟨_, rfl, ?_⟩; have n0_ := A0_ (Kd.R_below (by (with_reducible repeat (first | apply Kd.R_alloc | apply Kd.R_drewN | apply Kd.R_drew)); exact (Kd.R_mono (Kd.R_far (p := ⟨gb155, 2, none⟩) (Kd.R_far (p := ⟨gb155, 1, none⟩) (Kd.R_far (p := ⟨gb155, 0, none⟩) (Kd.R_types HO150.out BK155.out (by decide)) (fun _ hk => hk.2) (.int .i64 t151)) (fun _ hk => hk.2) (.int .i64 t152)) (fun _ hk => hk.2) (.int .u64 t153)) (fun _ h_ => h_.1))) hb); have n1_ := A0_ (blk_below (g := gb155) (o := .cells #[.int .i64 t151, .int .i64 t152, .int .u64 t153] 89 (0, 0)) (by (with_reducible repeat first | apply bN_ | apply bD_ | apply bA_); refine blk_put (cs := #[.int .i64 t151, .int .i64 t152, .int .u64 0]) ?_ 2 _ rfl; (with_reducible repeat first | apply bN_ | apply bD_ | apply bA_); refine blk_put (cs := #[.int .i64 t151, .int .i64 0, .int .u64 0]) ?_ 1 _ rfl; (with_reducible repeat first | apply bN_ | apply bD_ | apply bA_); refine blk_put (cs := #[.int .i64 0, .int .i64 0, .int .u64 0]) ?_ 0 _ rfl; (with_reducible repeat first | apply bN_ | apply bD_ | apply bA_); exact BK155.out) hb); have n2_ := A0_ (below_step (by repeat (first | (with_reducible first | exact qm_ HB.out | apply qA_ | apply qN_ | apply qD_ | refine below_set ?_ GE155.out) | exact HB.out)) hb); clear HO150 BK155 HB; have HO150 := n0_; have BK155 := n1_; have HB := n2_; clear n0_ n1_ n2_; (try clear hb); have hcz16 := bc3_ BK155.out; have hfz16 := bf3_ BK155.out) | ((with_reducible refine gate_callee (f := 74) rfl ?_); refine goesL_ (some 25) rfl rfl Try.func74 (by kernel_rfl) rfl #[.agg #[.int .i64 t151, .int .i64 t152, .int .u64 t153]] rfl (by (try simp only [List.map_toArray, List.map_cons, List.map_nil]); first | done | rfl | (simp only [List.length_drop, List.length_take]; rfl)) ?_; (with_reducible refine (word_shape_none.calls t151 t152 t153 t157 _ A8.out).mono ?_); rintro e w17 ⟨rfl, hb⟩; refine ⟨_, rfl, ?_⟩; have n0_ := A0_ (Kd.R_below (by exact rm_ HO150.out) hb); have n1_ := A0_ (blk_below (bm_ BK155.out) hb); have n2_ := A0_ (below_step (by repeat (first | (with_reducible first | exact qm_ HB.out | apply qA_ | apply qN_ | apply qD_ | refine below_set ?_ GE155.out) | exact HB.out)) hb); clear HO150 BK155 HB; have HO150 := n0_; have BK155 := n1_; have HB := n2_; clear n0_ n1_ n2_; (try clear hb)))
   go_ret2
   exact ⟨by first | rfl | (simp [errW_none, errW_some] <;> rfl) | (simp [*, errW_none, errW_some] <;> rfl), by repeat (first | (with_reducible first | exact qm_ HB.out | apply qA_ | apply qN_ | apply qD_ | refine below_set ?_ GE155.out) | exact HB.out)⟩
  ·rw [if_neg c7] at H
   have c7b0 : (t156 == 5) = false := beq_eq_false_iff_ne.mpr c7
   have c7b1 : (t156 != 5) = true := bne_iff_ne.mpr c7
   replace H := Option.bind_eq_some_iff.mp H
   obtain ⟨t158, A180, H⟩ := H
   replace H : (some (t158, 0)) = some (r1, r2) := H
   have A18 := A0_ A180
   clear A180
   simp only [Option.some.injEq, Prod.mk.injEq] at H
   obtain ⟨rfl, rfl⟩ := H
   go_enter Try.func69, Try.ntmps69
   go_wp2_with (first | ((with_reducible refine gate_dst (N := 13) rfl ?_); refine Kd.R_lit (Kd.int .u64) _ 23 ?hg (N := 13) ?hd (xs := ([a1] : List Int)) (inner := [.int .u64 a1]) (ok := fun _ => True) (okp := fun _ => True) ?hr ?hp (fun _ hk => hk) trivial (Below.refl _ _) (Nat.le_refl _) (by simp) ?_; (case hd => rfl); (case hg => rfl); (case hr => first | (go_simp; done) | (go_simp; rfl)); (case hp => exact (Reps.one (show Kd.M (Kd.int .u64) _ _ _ a1 [.int .u64 a1] from rfl) (Reps.none _ _))); intro v149 w19 ho20 hb hg_ hnew_; clear hg_ hnew_; (first | rw [← Ny148.out] at ho20 | (simp only [Int.reduceToNat] at ho20; rw [← Ny148.out] at ho20)); have n0_ := A0_ (Kd.R_lower ho20 (below_size (qm_ HB.out))); have n1_ := A0_ (below_step (qm_ HB.out) hb); clear HB; have HO150 := n0_; have HB := n1_; clear n0_ n1_ hb ho20; obtain ⟨Ao21, co21, eo21⟩ := Kd.R_slice HO150.out; subst eo21) | ((with_reducible refine gate_callee (f := 75) rfl ?_); refine goesL_ (some 14) rfl rfl Try.func75 (by kernel_rfl) rfl #[.int .u8 a0, .slice Ao21 y148.length co21] rfl (by (try simp only [List.map_toArray, List.map_cons, List.map_nil]); first | done | rfl | (simp only [List.length_drop, List.length_take]; rfl)) ?_; (with_reducible refine (word_open.calls k a0 _ _ y148 t151 t152 t153 t154 _ ?side1 ?side2 A4.out).mono ?_); (case side1 => repeat (first | exact (Kd.R_reads' HO150.out).2.2 | (with_reducible refine Kd.C_alloc ?_ _) | (with_reducible refine Kd.C_drewN ?_ _) | (with_reducible refine Kd.C_drew ?_))); (case side2 => exact (Kd.R_reads' HO150.out).2.1); rintro e w22 ⟨rfl, hb⟩; refine ⟨_, rfl, ?_⟩; have n0_ := A0_ (Kd.R_below (by exact rm_ HO150.out) hb); have n1_ := A0_ (below_step (qm_ HB.out) hb); clear HO150 HB; have HO150 := n0_; have HB := n1_; clear n0_ n1_; (try clear hb)) | ((with_reducible refine gate_dst (N := 8) rfl ?_); refine box_event ?hg (N := 8) ?hd (cs := #[.int .i64 0, .int .i64 0, .int .u64 0]) (t := 89) ?hr ?_; (case hd => rfl); (case hg => rfl); (case hr => first | (go_simp; done) | (go_simp; rfl)); intro gb155 hg w23 hbox hb; have n0_ := A0_ (Kd.R_below (by exact rm_ HO150.out) hb); have n1_ := A0_ (below_step (qm_ HB.out) hb); have n2_ := A0_ (hbox); have n3_ := A0_ ((by rw [hg]; exact (below_size (qm_ HB.out)) : w.heap.size ≤ gb155)); have n4_ := A0_ ((by rw [hg]; exact (below_size (qm_ HB.out)) : w.heap.size ≤ gb155)); clear HO150 HB; have HO150 := n0_; have HB := n1_; have BK155 := n2_; have GW155 := n3_; have GE155 := n4_; clear n0_ n1_ n2_ n3_ n4_ hb hbox hg; have hcz24 := bc3_ BK155.out; have hfz24 := bf3_ BK155.out) | ((with_reducible refine gate_callee (f := 76) rfl ?_); refine goesL_ (some 22) rfl rfl Try.func76 (by kernel_rfl) rfl #[.agg #[.int .i64 t151, .int .i64 t152, .int .u64 t153], .int .u64 a1] rfl (by (try simp only [List.map_toArray, List.map_cons, List.map_nil]); first | done | rfl | (simp only [List.length_drop, List.length_take]; rfl)) ?_; (with_reducible refine (word_shape_class.calls t151 t152 t153 a1 t156 _ A6.out).mono ?_); rintro e w25 ⟨rfl, hb⟩; refine ⟨_, rfl, ?_⟩; have n0_ := A0_ (Kd.R_below (by (with_reducible repeat (first | apply Kd.R_alloc | apply Kd.R_drewN | apply Kd.R_drew)); exact (Kd.R_mono (Kd.R_far (p := ⟨gb155, 2, none⟩) (Kd.R_far (p := ⟨gb155, 1, none⟩) (Kd.R_far (p := ⟨gb155, 0, none⟩) (Kd.R_types HO150.out BK155.out (by decide)) (fun _ hk => hk.2) (.int .i64 t151)) (fun _ hk => hk.2) (.int .i64 t152)) (fun _ hk => hk.2) (.int .u64 t153)) (fun _ h_ => h_.1))) hb); have n1_ := A0_ (blk_below (g := gb155) (o := .cells #[.int .i64 t151, .int .i64 t152, .int .u64 t153] 89 (0, 0)) (by (with_reducible repeat first | apply bN_ | apply bD_ | apply bA_); refine blk_put (cs := #[.int .i64 t151, .int .i64 t152, .int .u64 0]) ?_ 2 _ rfl; (with_reducible repeat first | apply bN_ | apply bD_ | apply bA_); refine blk_put (cs := #[.int .i64 t151, .int .i64 0, .int .u64 0]) ?_ 1 _ rfl; (with_reducible repeat first | apply bN_ | apply bD_ | apply bA_); refine blk_put (cs := #[.int .i64 0, .int .i64 0, .int .u64 0]) ?_ 0 _ rfl; (with_reducible repeat first | apply bN_ | apply bD_ | apply bA_); exact BK155.out) hb); have n2_ := A0_ (below_step (by repeat (first | (with_reducible first | exact qm_ HB.out | apply qA_ | apply qN_ | apply qD_ | refine below_set ?_ GE155.out) | exact HB.out)) hb); clear HO150 BK155 HB; have HO150 := n0_; have BK155 := n1_; have HB := n2_; clear n0_ n1_ n2_; (try clear hb); have hcz26 := bc3_ BK155.out; have hfz26 := bf3_ BK155.out) | ((with_reducible refine gate_value rfl ?_); refine goesV_ (some 28) rfl rfl FV2.out.1 FV2.out.2.1 FV2.out.2.2.1 [.agg #[.int .i64 t151, .int .i64 t152, .int .u64 t153]] fc2 rfl rfl (by (try simp only [List.map_toArray, List.map_cons, List.map_nil]); first | done | rfl) ?_; (refine (FV2.out.2.2.2 t151 t152 t153 t158 _ (by repeat (first | (with_reducible first | exact qm_ HB.out | apply qA_ | apply qN_ | apply qD_ | refine below_set ?_ GE155.out) | exact HB.out)) A18.out).mono ?_); rintro e w27 ⟨rfl, hb⟩; refine ⟨_, rfl, ?_⟩; have n0_ := A0_ (Kd.R_below (by exact rm_ HO150.out) hb); have n1_ := A0_ (blk_below (bm_ BK155.out) hb); have n2_ := A0_ (below_step (by repeat (first | (with_reducible first | exact qm_ HB.out | apply qA_ | apply qN_ | apply qD_ | refine below_set ?_ GE155.out) | exact HB.out)) hb); clear HO150 BK155 HB; have HO150 := n0_; have BK155 := n1_; have HB := n2_; clear n0_ n1_ n2_; (try clear hb)))
   go_ret2
   exact ⟨by first | rfl | (simp [errW_none, errW_some] <;> rfl) | (simp [*, errW_none, errW_some] <;> rfl), by repeat (first | (with_reducible first | exact qm_ HB.out | apply qA_ | apply qN_ | apply qD_ | refine below_set ?_ GE155.out) | exact HB.out)⟩
 ·rw [if_neg c5] at H
  have c5b0 : (t154 == 0) = false := beq_eq_false_iff_ne.mpr c5
  have c5b1 : (t154 != 0) = true := bne_iff_ne.mpr c5
  simp only [Option.some.injEq, Prod.mk.injEq] at H
  obtain ⟨rfl, rfl⟩ := H
  go_enter Try.func69, Try.ntmps69
  go_wp2_with (first | ((with_reducible refine gate_dst (N := 13) rfl ?_); refine Kd.R_lit (Kd.int .u64) _ 23 ?hg (N := 13) ?hd (xs := ([a1] : List Int)) (inner := [.int .u64 a1]) (ok := fun _ => True) (okp := fun _ => True) ?hr ?hp (fun _ hk => hk) trivial (Below.refl _ _) (Nat.le_refl _) (by simp) ?_; (case hd => rfl); (case hg => rfl); (case hr => first | (go_simp; done) | (go_simp; rfl)); (case hp => exact (Reps.one (show Kd.M (Kd.int .u64) _ _ _ a1 [.int .u64 a1] from rfl) (Reps.none _ _))); intro v149 w28 ho29 hb hg_ hnew_; clear hg_ hnew_; (first | rw [← Ny148.out] at ho29 | (simp only [Int.reduceToNat] at ho29; rw [← Ny148.out] at ho29)); have n0_ := A0_ (Kd.R_lower ho29 (below_size (qm_ HB.out))); have n1_ := A0_ (below_step (qm_ HB.out) hb); clear HB; have HO150 := n0_; have HB := n1_; clear n0_ n1_ hb ho29; obtain ⟨Ao30, co30, eo30⟩ := Kd.R_slice HO150.out; subst eo30) | ((with_reducible refine gate_callee (f := 75) rfl ?_); refine goesL_ (some 14) rfl rfl Try.func75 (by kernel_rfl) rfl #[.int .u8 a0, .slice Ao30 y148.length co30] rfl (by (try simp only [List.map_toArray, List.map_cons, List.map_nil]); first | done | rfl | (simp only [List.length_drop, List.length_take]; rfl)) ?_; (with_reducible refine (word_open.calls k a0 _ _ y148 t151 t152 t153 t154 _ ?side1 ?side2 A4.out).mono ?_); (case side1 => repeat (first | exact (Kd.R_reads' HO150.out).2.2 | (with_reducible refine Kd.C_alloc ?_ _) | (with_reducible refine Kd.C_drewN ?_ _) | (with_reducible refine Kd.C_drew ?_))); (case side2 => exact (Kd.R_reads' HO150.out).2.1); rintro e w31 ⟨rfl, hb⟩; refine ⟨_, rfl, ?_⟩; have n0_ := A0_ (Kd.R_below (by exact rm_ HO150.out) hb); have n1_ := A0_ (below_step (qm_ HB.out) hb); clear HO150 HB; have HO150 := n0_; have HB := n1_; clear n0_ n1_; (try clear hb)) | ((with_reducible refine gate_dst (N := 8) rfl ?_); refine box_event ?hg (N := 8) ?hd (cs := #[.int .i64 0, .int .i64 0, .int .u64 0]) (t := 89) ?hr ?_; (case hd => rfl); (case hg => rfl); (case hr => first | (go_simp; done) | (go_simp; rfl)); intro gb155 hg w32 hbox hb; have n0_ := A0_ (Kd.R_below (by exact rm_ HO150.out) hb); have n1_ := A0_ (below_step (qm_ HB.out) hb); have n2_ := A0_ (hbox); have n3_ := A0_ ((by rw [hg]; exact (below_size (qm_ HB.out)) : w.heap.size ≤ gb155)); have n4_ := A0_ ((by rw [hg]; exact (below_size (qm_ HB.out)) : w.heap.size ≤ gb155)); clear HO150 HB; have HO150 := n0_; have HB := n1_; have BK155 := n2_; have GW155 := n3_; have GE155 := n4_; clear n0_ n1_ n2_ n3_ n4_ hb hbox hg; have hcz33 := bc3_ BK155.out; have hfz33 := bf3_ BK155.out))
  go_ret2
  exact ⟨by first | rfl | (simp [errW_none, errW_some] <;> rfl) | (simp [*, errW_none, errW_some] <;> rfl), by repeat (first | (with_reducible first | exact qm_ HB.out | apply qA_ | apply qN_ | apply qD_ | refine below_set ?_ GE155.out) | exact HB.out)⟩
def word_Abs_1.f (a0 a1 a2 c0 : Int) : Option Int := some (Go.bits .andNot .u64 c0 a2)
set_option maxRecDepth 100000 in
theorem word_Abs_1.calls (a0 a1 a2 c0 : Int) (b0 : Nat) (r : Int) (w : World) (hc0 : w.cell? ⟨b0, 0, none⟩ = some (.int .u64 c0)) (h : word_Abs_1.f a0 a1 a2 c0 = some r) :
  Calls Try.prog 77 #[.agg #[.int .i64 a0, .int .i64 a1, .int .u64 a2], .pointer (some ⟨b0, 0, none⟩)] w fun e w' => e = .returned (.int .u64 r) ∧ Below w.heap.size w w' := by
 obtain rfl := Option.some.inj h
 have hlt : b0 < w.heap.size := World.block_lt_of_cell? w (a := ⟨b0, 0, none⟩) hc0
 have hc1 : ∀ o, (w.alloc o).cell? ⟨b0, 0, none⟩ = some (.int .u64 c0) := fun o => (World.cell?_alloc_lt (a := ⟨b0, 0, none⟩) _ _ hlt).trans hc0
 clear hc0
 go_enter Try.func77, Try.ntmps77
 go_wp2
 go_ret
 exact ⟨rfl, below_alloc (Below.refl _ _) _⟩
def word_Abs.f (k : Nat) (a0 : Int) (a1 : Int) : Option (Int × Int) := (word_turned.f k a0 a1 (fun s0_ s1_ s2_ => word_Abs_1.f s0_ s1_ s2_ (a1))).bind fun bt160 => (some (bt160.1, bt160.2))
set_option maxHeartbeats 2000000 in
set_option maxRecDepth 100000 in
theorem word_Abs.calls (k : Nat) (a0 : Int) (a1 : Int) (r1 : Int) (r2 : Int) (w : World) (h : word_Abs.f k a0 a1 = some (r1, r2)) :
  Calls Try.prog 58 #[.int .u8 a0, .int .u64 a1] w fun e w' => e = .returned (.tuple #[.int .u64 r1, .int .i64 r2]) ∧ Below w.heap.size w w' := by
 have HB := A0_ (Below.refl w.heap.size w)
 have H : ((word_turned.f k a0 a1 (fun s0_ s1_ s2_ => word_Abs_1.f s0_ s1_ s2_ (a1))).bind fun bt160 => (some (bt160.1, bt160.2))) = some (r1, r2) := h
 clear h
 replace H := Option.bind_eq_some_iff.mp H
 obtain ⟨⟨t160, t161⟩, A30, H⟩ := H
 replace H : (some (t160, t161)) = some (r1, r2) := H
 have A3 := A0_ A30
 clear A30
 simp only [Option.some.injEq, Prod.mk.injEq] at H
 obtain ⟨rfl, rfl⟩ := H
 go_enter Try.func58, Try.ntmps58
 go_wp2_with (first | ((with_reducible refine gate_dst (N := 3) rfl ?_); refine box_event ?hg (N := 3) ?hd (cs := #[.int .u64 a1]) (t := 23) ?hr ?_; (case hd => rfl); (case hg => rfl); (case hr => first | (go_simp; done) | (go_simp; rfl)); intro gb159 hg w4 hbox hb; have n0_ := A0_ (below_step (qm_ HB.out) hb); have n1_ := A0_ (hbox); have n2_ := A0_ ((by rw [hg]; exact (below_size (qm_ HB.out)) : w.heap.size ≤ gb159)); have n3_ := A0_ ((by rw [hg]; exact (below_size (qm_ HB.out)) : w.heap.size ≤ gb159)); clear HB; have HB := n0_; have BK159 := n1_; have GW159 := n2_; have GE159 := n3_; clear n0_ n1_ n2_ n3_ hb hbox hg; have hcz5_0 : w4.cell? ⟨gb159, 0, none⟩ = some (.int .u64 a1) := (blk_cell BK159.out 0).trans rfl; have hfz5_0 := blk_frozen BK159.out 0) | ((with_reducible refine gate_callee (f := 69) rfl ?_); refine goesL_ (some 9) rfl rfl Try.func69 (by kernel_rfl) rfl #[.int .u8 a0, .int .u64 a1, .func (.func 77) #[] #[.pointer (some ⟨gb159, 0, none⟩)]] rfl (by (try simp only [List.map_toArray, List.map_cons, List.map_nil]); first | done | rfl | (simp only [List.length_drop, List.length_take]; rfl)) ?_; (refine (word_turned.calls (fg2 := 77) (fn2 := Try.f77) (fc2 := [.pointer (some ⟨gb159, 0, none⟩)]) (FV2 := A0_ ⟨Try.func77, by kernel_rfl, rfl, fun s0_ s1_ s2_ q0_ w_ hbw_ hh_ => word_Abs_1.calls s0_ s1_ s2_ (a1) gb159 q0_  w_ (by exact (blk_cell (blk_below (bm_ BK159.out) hbw_) 0).trans rfl) hh_⟩) k a0 a1 (fun s0_ s1_ s2_ => word_Abs_1.f s0_ s1_ s2_ (a1)) t160 t161 _ A3.out).mono ?_); rintro e w6 ⟨rfl, hb⟩; refine ⟨_, rfl, ?_⟩; have n0_ := A0_ (blk_below (bm_ BK159.out) hb); have n1_ := A0_ (below_step (by repeat (first | (with_reducible first | exact qm_ HB.out | apply qA_ | apply qN_ | apply qD_ | refine below_set ?_ GE159.out) | exact HB.out)) hb); clear BK159 HB; have BK159 := n0_; have HB := n1_; clear n0_ n1_; (try clear hb)))
 go_ret2
 exact ⟨by first | rfl | (simp [errW_none, errW_some] <;> rfl) | (simp [*, errW_none, errW_some] <;> rfl), by repeat (first | (with_reducible first | exact qm_ HB.out | apply qA_ | apply qN_ | apply qD_ | refine below_set ?_ GE159.out) | exact HB.out)⟩
end Go.Proofs.Ytnjdaoeebhbmfaa.PA
end
