/- Steps of Go functions that the law RankSorts uses, told as plain Lean functions, each with the proof that its call comes to what it tells; words on memory; plain facts. No condition beyond those that each text names. -/
import Derived.Test.YtnjdaoeebhbmfaaProg
import Derived.Below
import Derived.Deep.Draws
import Derived.Deep.AppendLies
import Derived.Maps.AppendAt
import Derived.OwnWalk
import Derived.Laws.BytesArg
import Derived.Laws.MakeOwn
import Derived.Laws.OwnMore
import Derived.Deep.OwnRows
import Derived.Tactics
import Derived.Lib.ConvBytes
import Derived.Laws.Slices
import Derived.WalkKit
import Derived.KernelRfl
import Derived.RowKit3
import Derived.Deep.LoopGhost
import Derived.Deep.QuietTactic
import Derived.BigQuiet
import Derived.WideLaws
import Derived.Deep.DeepCutAuto
import Derived.Deep.CutBlock
import Derived.Deep.RegionHeld3
import Derived.Laws.Rows
import Derived.Lib.AppendStr
import Derived.ArgAppend
import Derived.Laws.IdiomCopy
import Derived.OrdersHeld
import Derived.Laws.BitsLemmas
import Derived.RowKit
import Derived.Laws.StructEq
import Derived.Laws.BitsAllLaws
import Derived.OpenShut
import Derived.Shelf.SlSortCmp.NoneTotal
import Derived.WalkMore
import Derived.Test.YtnjdaoeebhbmfaaSRankSorts0
import Derived.Test.YtnjdaoeebhbmfaaSRankSorts1
import Derived.Test.YtnjdaoeebhbmfaaSRankSorts3
import Derived.Test.YtnjdaoeebhbmfaaSRankSorts4
import Derived.Test.YtnjdaoeebhbmfaaSRankSorts5
import Derived.Test.YtnjdaoeebhbmfaaSRankSorts6
import Derived.Test.YtnjdaoeebhbmfaaSRankSorts7
import Derived.Test.YtnjdaoeebhbmfaaSRankSorts8
import Derived.Test.YtnjdaoeebhbmfaaSRankSorts9
import Derived.Test.YtnjdaoeebhbmfaaSRankSorts10
import Derived.Test.YtnjdaoeebhbmfaaSRankSorts11
import Derived.Test.YtnjdaoeebhbmfaaSRankSorts12
import Derived.Test.YtnjdaoeebhbmfaaSRankSorts13
import Derived.Test.YtnjdaoeebhbmfaaSRankSorts14
import Derived.Test.YtnjdaoeebhbmfaaSRankSorts15
import Derived.Test.YtnjdaoeebhbmfaaSRankSorts16
import Derived.Test.YtnjdaoeebhbmfaaSRankSorts17
section
namespace Go.Proofs.Ytnjdaoeebhbmfaa.PA
open Go.RowKit Go.Proofs.YtnjdaoeebhbmfaaW.PrintWords Go.Proofs.YtnjdaoeebhbmfaaW.PrintLast Go.Proofs.YtnjdaoeebhbmfaaW.PrintMore
attribute [local go_sem] max2_int min2_int max_two min_two max_three min_three max_four min_four   -- for this text's walks alone
open Go.Proofs.Ytnjdaoeebhbmfaa.Wd
set_option linter.unusedVariables false
set_option linter.unusedSimpArgs false
section
def rank_Sort.l0 : Nat → List Int → List Int → Int → Int → Int → Option (List Int × Int)
 | 0, _, _, _, _, _ => none
 | k + 1, x8, x30, x31, x32, x246000 => if x32 < x31 then (if 0 ≤ x32 then (if x32 < (x30.length : Int) then ((word_Canon.f k x246000 (rd x30 x32)).bind fun bt252 => (if x8.length < 17592186044416 then (rank_Sort.l0 k (x8 ++ [bt252.1]) x30 x31 (wrap64 (x32 + 1)) x246000) else (none))) else (none)) else (none)) else (if okl x246000 x8 = true then (some (sortw x246000 x8, 0)) else none)
def rank_Sort.f (k : Nat) (a0 : Int) (l1 : List Int) : Option (List Int × Int) := (rank_open.f k a0 ([] : List Int)).bind fun t246 => (if t246 = 0 then (if (l1.length : Int) > 4096 then (some (([] : List Int), 3)) else ((rank_open.f k a0 l1).bind fun t247 => (if t247 = 0 then (if 0 ≤ (l1.length : Int) then (if ((l1.length : Int) : Int).toNat ≤ 35184372088832 then (rank_Sort.l0 k (List.replicate 0 0) l1 (l1.length : Int) 0 a0) else (none)) else (none)) else (some (([] : List Int), t247))))) else (some (([] : List Int), t246)))
set_option maxHeartbeats 2000000 in
set_option maxRecDepth 100000 in
theorem rank_Sort.calls (k : Nat) (a0 : Int) (A1 : Option Addr) (c1 : Nat) (l1 : List Int) (r1 : List Int) (r2 : Int) (w : World) (hr1 : Kd.C (Kd.int .u64) w A1 l1.length l1) (hc1 : l1.length ≤ c1) (h : rank_Sort.f k a0 l1 = some (r1, r2)) :
  Calls Try.prog 30 #[.int .u8 a0, .slice A1 l1.length c1] w fun e w' => ∃ v0_ : Value, e = .returned (.tuple #[v0_, .int .i64 r2]) ∧ Kd.R (Kd.int .u64) 23 w' w.heap.size (fun _ => True) v0_ r1 ∧ Below w.heap.size w w' := by
 have HR1 := A0_ hr1
 have HC1 := A0_ hc1
 clear hr1 hc1
 have HB := A0_ (Below.refl w.heap.size w)
 have H : ((rank_open.f k a0 ([] : List Int)).bind fun t246 => (if t246 = 0 then (if (l1.length : Int) > 4096 then (some (([] : List Int), 3)) else ((rank_open.f k a0 l1).bind fun t247 => (if t247 = 0 then (if 0 ≤ (l1.length : Int) then (if ((l1.length : Int) : Int).toNat ≤ 35184372088832 then (rank_Sort.l0 k (List.replicate 0 0) l1 (l1.length : Int) 0 a0) else (none)) else (none)) else (some (([] : List Int), t247))))) else (some (([] : List Int), t246)))) = some (r1, r2) := h
 clear h
 replace H := Option.bind_eq_some_iff.mp H
 obtain ⟨t246, A30, H⟩ := H
 replace H : (if t246 = 0 then (if (l1.length : Int) > 4096 then (some (([] : List Int), 3)) else ((rank_open.f k a0 l1).bind fun t247 => (if t247 = 0 then (if 0 ≤ (l1.length : Int) then (if ((l1.length : Int) : Int).toNat ≤ 35184372088832 then (rank_Sort.l0 k (List.replicate 0 0) l1 (l1.length : Int) 0 a0) else (none)) else (none)) else (some (([] : List Int), t247))))) else (some (([] : List Int), t246))) = some (r1, r2) := H
 have A3 := A0_ A30
 clear A30
 by_cases c4 : t246 = 0
 ·rw [if_pos c4] at H
  have c4b0 : (t246 == 0) = true := beq_iff_eq.mpr c4
  have c4b1 : (t246 != 0) = false := bne_eq_false_iff_eq.mpr c4
  clear c4
  by_cases c5 : (l1.length : Int) > 4096
  ·rw [if_pos c5] at H
   have c5b0 : decide (4096 < (l1.length : Int)) = true := decide_eq_true c5
   have c5b1 : decide (4096 < l1.length) = true := decide_eq_true (by omega)
   clear c5
   simp only [Option.some.injEq, Prod.mk.injEq] at H
   obtain ⟨rfl, rfl⟩ := H
   go_enter Try.func30, Try.ntmps30
   go_wp2_with (first | ((with_reducible refine gate_dst (N := 2) rfl ?_); refine box_event ?hg (N := 2) ?hd (cs := #[.int .u8 a0]) (t := 22) ?hr ?_; (case hd => rfl); (case hg => rfl); (case hr => first | (go_simp; done) | (go_simp; rfl)); intro gb245 hg w6 hbox hb; have n0_ := A0_ (below_step (qm_ HB.out) hb); have n1_ := A0_ (hbox); have n2_ := A0_ ((by rw [hg]; exact (below_size (qm_ HB.out)) : w.heap.size ≤ gb245)); have n3_ := A0_ ((by rw [hg]; exact (below_size (qm_ HB.out)) : w.heap.size ≤ gb245)); clear HB; have HB := n0_; have BK245 := n1_; have GW245 := n2_; have GE245 := n3_; clear n0_ n1_ n2_ n3_ hb hbox hg; have hcz7_0 : w6.cell? ⟨gb245, 0, none⟩ = some (.int .u8 a0) := (blk_cell BK245.out 0).trans rfl; have hfz7_0 := blk_frozen BK245.out 0) | ((with_reducible refine gate_callee (f := 34) rfl ?_); refine goesL_ (some 14) rfl rfl Try.func34 (by kernel_rfl) rfl #[.int .u8 a0, .slice none 0 0] rfl (by (try simp only [List.map_toArray, List.map_cons, List.map_nil]); first | done | rfl | (simp only [List.length_drop, List.length_take]; rfl)) ?_; (refine (rank_open.calls k a0 _ _ ([] : List Int) t246 _ ?side1 ?side2 A3.out).mono ?_); (case side1 => exact Kd.C_nil _ _); (case side2 => exact Nat.le_refl _); rintro e w8 ⟨rfl, hb⟩; refine ⟨_, rfl, ?_⟩; have n0_ := A0_ (blk_below (bm_ BK245.out) hb); have n1_ := A0_ (below_step (by repeat (first | (with_reducible first | exact qm_ HB.out | apply qA_ | apply qN_ | apply qD_ | refine below_set ?_ GE245.out) | exact HB.out)) hb); clear BK245 HB; have BK245 := n0_; have HB := n1_; clear n0_ n1_; (try clear hb)))
   go_ret2
   exact ⟨_, by first | rfl | (simp [errW_none, errW_some] <;> rfl) | (simp [*, errW_none, errW_some] <;> rfl), by first | exact Kd.R_nil _ _ _ _ _ | exact Kd.N_nil _ _ _ _ _ | exact Kd.V_nil _ _ _ _ _ | exact Kd.Q_nil _ _ _ _ _ | exact Kd.S_nil _ _ _ _ _, by repeat (first | (with_reducible first | exact qm_ HB.out | apply qA_ | apply qN_ | apply qD_ | refine below_set ?_ GE245.out) | exact HB.out)⟩
  ·rw [if_neg c5] at H
   have c5b0 : decide (4096 < (l1.length : Int)) = false := decide_eq_false c5
   have c5b1 : decide (4096 < l1.length) = false := decide_eq_false (by omega)
   clear c5
   replace H := Option.bind_eq_some_iff.mp H
   obtain ⟨t247, A90, H⟩ := H
   replace H : (if t247 = 0 then (if 0 ≤ (l1.length : Int) then (if ((l1.length : Int) : Int).toNat ≤ 35184372088832 then (rank_Sort.l0 k (List.replicate 0 0) l1 (l1.length : Int) 0 a0) else (none)) else (none)) else (some (([] : List Int), t247))) = some (r1, r2) := H
   have A9 := A0_ A90
   clear A90
   by_cases c10 : t247 = 0
   ·rw [if_pos c10] at H
    have c10b0 : (t247 == 0) = true := beq_iff_eq.mpr c10
    have c10b1 : (t247 != 0) = false := bne_eq_false_iff_eq.mpr c10
    clear c10
    by_cases c11 : 0 ≤ (l1.length : Int)
    ·rw [if_pos c11] at H
     have c11b0 := eq_true c11
     have c11b1 : decide (0 ≤ (l1.length : Int)) = true := decide_eq_true c11
     clear c11
     by_cases c12 : ((l1.length : Int) : Int).toNat ≤ 35184372088832
     ·rw [if_pos c12] at H
      have c12b0 := eq_true c12
      have c12b1 : decide (((l1.length : Int) : Int).toNat ≤ 35184372088832) = true := decide_eq_true c12
      clear c12
      obtain ⟨y248, hy248⟩ : ∃ y_ : List Int, y_ = (List.replicate 0 0) := ⟨_, rfl⟩
      replace H : (rank_Sort.l0 k y248 l1 (l1.length : Int) 0 a0) = some (r1, r2) := by first | (rw [hy248]; with_reducible exact H) | (have H2_ := (Option.bind_some _ _).symm.trans H; rw [hy248]; with_reducible exact H2_) | (have H2_ := (Option.bind_some _ _).symm.trans H; with_reducible exact H2_) | with_reducible exact H | (rw [hy248]; exact H) | exact H
      have Ny248 := A0_ hy248
      clear hy248
      have H' := A0_ H
      clear H
      go_enter Try.func30, Try.ntmps30
      go_wp2_with (first | ((with_reducible refine gate_dst (N := 2) rfl ?_); refine box_event ?hg (N := 2) ?hd (cs := #[.int .u8 a0]) (t := 22) ?hr ?_; (case hd => rfl); (case hg => rfl); (case hr => first | (go_simp; done) | (go_simp; rfl)); intro gb245 hg w13 hbox hb; have n0_ := A0_ (below_step (qm_ HB.out) hb); have n1_ := A0_ (hbox); have n2_ := A0_ ((by rw [hg]; exact (below_size (qm_ HB.out)) : w.heap.size ≤ gb245)); have n3_ := A0_ ((by rw [hg]; exact (below_size (qm_ HB.out)) : w.heap.size ≤ gb245)); clear HB; have HB := n0_; have BK245 := n1_; have GW245 := n2_; have GE245 := n3_; clear n0_ n1_ n2_ n3_ hb hbox hg; have hcz14_0 : w13.cell? ⟨gb245, 0, none⟩ = some (.int .u8 a0) := (blk_cell BK245.out 0).trans rfl; have hfz14_0 := blk_frozen BK245.out 0) | ((with_reducible refine gate_callee (f := 34) rfl ?_); refine goesL_ (some 14) rfl rfl Try.func34 (by kernel_rfl) rfl #[.int .u8 a0, .slice none 0 0] rfl (by (try simp only [List.map_toArray, List.map_cons, List.map_nil]); first | done | rfl | (simp only [List.length_drop, List.length_take]; rfl)) ?_; (refine (rank_open.calls k a0 _ _ ([] : List Int) t246 _ ?side1 ?side2 A3.out).mono ?_); (case side1 => exact Kd.C_nil _ _); (case side2 => exact Nat.le_refl _); rintro e w15 ⟨rfl, hb⟩; refine ⟨_, rfl, ?_⟩; have n0_ := A0_ (blk_below (bm_ BK245.out) hb); have n1_ := A0_ (below_step (by repeat (first | (with_reducible first | exact qm_ HB.out | apply qA_ | apply qN_ | apply qD_ | refine below_set ?_ GE245.out) | exact HB.out)) hb); clear BK245 HB; have BK245 := n0_; have HB := n1_; clear n0_ n1_; (try clear hb); have hcz16_0 : w15.cell? ⟨gb245, 0, none⟩ = some (.int .u8 a0) := (blk_cell BK245.out 0).trans rfl; have hfz16_0 := blk_frozen BK245.out 0) | ((with_reducible refine gate_callee (f := 34) rfl ?_); refine goesL_ (some 23) rfl rfl Try.func34 (by kernel_rfl) rfl #[.int .u8 a0, .slice A1 l1.length c1] rfl (by (try simp only [List.map_toArray, List.map_cons, List.map_nil]); first | done | rfl | (simp only [List.length_drop, List.length_take]; rfl)) ?_; (with_reducible refine (rank_open.calls k a0 _ _ l1 t247 _ ?side1 ?side2 A9.out).mono ?_); (case side1 => repeat (first | exact (Kd.C_below HR1.out HB.out) | (with_reducible refine Kd.C_alloc ?_ _) | (with_reducible refine Kd.C_drewN ?_ _) | (with_reducible refine Kd.C_drew ?_))); (case side2 => exact HC1.out); rintro e w17 ⟨rfl, hb⟩; refine ⟨_, rfl, ?_⟩; have n0_ := A0_ (blk_below (bm_ BK245.out) hb); have n1_ := A0_ (below_step (by repeat (first | (with_reducible first | exact qm_ HB.out | apply qA_ | apply qN_ | apply qD_ | refine below_set ?_ GE245.out) | exact HB.out)) hb); clear BK245 HB; have BK245 := n0_; have HB := n1_; clear n0_ n1_; (try clear hb)) | ((with_reducible refine gate_dst (N := 29) rfl ?_); refine Kd.R_makec (Kd.int .u64) _ 23 rfl (N := 29) rfl 50 _ _ rfl 0 (l1.length : Int) rfl rfl Try.underlying50 (.int .u64 0) 8 info23 rfl (by decide) (by omega) 0 (ok := fun _ => True) (okp := fun _ => True) rfl (fun _ hk => hk) trivial (by omega) (of_decide_eq_true (by first | (with_reducible assumption) | assumption)) (Nat.le_trans (Nat.mul_le_mul_right _ (of_decide_eq_true (by first | (with_reducible assumption) | assumption) : ((l1.length : Int) : Int).toNat ≤ 35184372088832)) (by omega)) (Below.refl _ _) (Nat.le_refl _) ?_; intro v249 w18 ho19 hb hg_ hnew_; clear hg_ hnew_; (first | rw [← Ny248.out] at ho19 | (simp only [Int.reduceToNat] at ho19; rw [← Ny248.out] at ho19)); have n0_ := A0_ (Kd.R_lower ho19 (below_size (by repeat (first | (with_reducible first | exact qm_ HB.out | apply qA_ | apply qN_ | apply qD_ | refine below_set ?_ GE245.out) | exact HB.out)))); have n1_ := A0_ (blk_below (bm_ BK245.out) hb); have n2_ := A0_ (below_step (by repeat (first | (with_reducible first | exact qm_ HB.out | apply qA_ | apply qN_ | apply qD_ | refine below_set ?_ GE245.out) | exact HB.out)) hb); clear BK245 HB; have HO250 := n0_; have BK245 := n1_; have HB := n2_; clear n0_ n1_ n2_ hb ho19))
      go_loopg [8, 32] k (fun kq v8 v32 w' => ∃ (x8_1 : List Int) (x32_1 : Int), v32 = .int .i64 x32_1 ∧ Aside0 (rank_Sort.l0 kq x8_1 l1 (l1.length : Int) x32_1 a0 = some (r1, r2)) ∧ Aside0 (kq ≤ k) ∧ Aside0 (Kd.R (Kd.int .u64) 23 w' w.heap.size (fun _ => True) v8 x8_1) ∧ Aside0 (w'.heap[gb245]? = some (.cells #[.int .u8 a0] 22 (0, 0))) ∧ Aside0 (Below w.heap.size w w'))
      case atStart => exact ⟨(y248), (0), (by first | rfl | (simp; done) | (simp [*]; done)), H', ⟨Nat.le_refl _⟩, ⟨by exact rm_ HO250.out⟩, ⟨bm_ BK245.out⟩, ⟨by repeat (first | (with_reducible first | exact qm_ HB.out | apply qA_ | apply qN_ | apply qD_ | refine below_set ?_ GE245.out) | exact HB.out)⟩⟩
      case round =>
       clear H'
       try clear c1
       try clear p2
       try clear c3
       try clear c4
       try clear c4b0
       try clear c4b1
       try clear c5
       try clear c5b0
       try clear c5b1
       try clear c10
       try clear c10b0
       try clear c10b1
       try clear c11
       try clear c11b0
       try clear c11b1
       try clear c12
       try clear c12b0
       try clear c12b1
       try clear hcz14_0
       try clear hcz16_0
       try clear hcz7_0
       try clear hfz14_0
       try clear hfz16_0
       try clear hfz7_0
       obtain ⟨x8_1, x32_1, rfl, HA, HK1, HO_8, BK245, HB⟩ := hrel
       cases gk with
       | zero => exact absurd HA.out (by simp [rank_Sort.l0])
       | succ k1 =>
        have H := HA.out
        clear HA
        simp only [rank_Sort.l0] at H
        by_cases c20 : x32_1 < (l1.length : Int)
        ·rw [if_pos c20] at H
         have c20b0 : decide (x32_1 < (l1.length : Int)) = true := decide_eq_true c20
         clear c20
         by_cases c21 : 0 ≤ x32_1
         ·rw [if_pos c21] at H
          have c21b0 : decide (0 ≤ x32_1) = true := decide_eq_true c21
          clear c21
          by_cases c22 : x32_1 < (l1.length : Int)
          ·rw [if_pos c22] at H
           have c22b0 : decide (x32_1 < (l1.length : Int)) = true := decide_eq_true c22
           clear c22
           replace H := Option.bind_eq_some_iff.mp H
           obtain ⟨⟨t252, t253⟩, A230, H⟩ := H
           replace H : (if x8_1.length < 17592186044416 then (rank_Sort.l0 k1 (x8_1 ++ [t252]) l1 (l1.length : Int) (wrap64 (x32_1 + 1)) a0) else (none)) = some (r1, r2) := H
           have A23 := A0_ A230
           clear A230
           by_cases c24 : x8_1.length < 17592186044416
           ·rw [if_pos c24] at H
            have LMc24 := A0_ c24
            clear c24
            obtain ⟨y254, hy254⟩ : ∃ y_ : List Int, y_ = (x8_1 ++ [t252]) := ⟨_, rfl⟩
            replace H : (rank_Sort.l0 k1 y254 l1 (l1.length : Int) (wrap64 (x32_1 + 1)) a0) = some (r1, r2) := by first | (rw [hy254]; with_reducible exact H) | (have H2_ := (Option.bind_some _ _).symm.trans H; rw [hy254]; with_reducible exact H2_) | (have H2_ := (Option.bind_some _ _).symm.trans H; with_reducible exact H2_) | with_reducible exact H | (rw [hy254]; exact H) | exact H
            have Ny254 := A0_ hy254
            clear hy254
            have H' := A0_ H
            clear H
            have p251 : 0 ≤ (x32_1 : Int) := of_decide_eq_true (by first | (with_reducible assumption) | assumption)
            have q251 : x32_1 < (l1.length : Int) := of_decide_eq_true (by first | (with_reducible assumption) | assumption)
            obtain ⟨ad251, e251, hx251_0⟩ := Kd.at_int HR1.out x32_1 p251 q251
            cases e251
            replace hx251_0 := (HB.out.cell (World.block_lt_of_cell? w _ hx251_0)).trans hx251_0
            replace p251 := eq_true p251
            replace q251 := eq_true q251
            have hcz25_0 : wr.cell? ⟨gb245, 0, none⟩ = some (.int .u8 a0) := (blk_cell BK245.out 0).trans rfl
            have hfz25_0 := blk_frozen BK245.out 0
            go_wp2_with (first | ((with_reducible refine gate_callee (f := 51) rfl ?_); refine goesL_ (some 39) rfl rfl Try.func51 (by kernel_rfl) rfl #[.int .u8 a0, .int .u64 (rd l1 x32_1)] rfl (by (try simp only [List.map_toArray, List.map_cons, List.map_nil]); first | done | rfl | (simp only [List.length_drop, List.length_take]; rfl)) ?_; (with_reducible refine (word_Canon.calls k1 a0 (rd l1 x32_1) t252 t253 _ A23.out).mono ?_); rintro e w26 ⟨rfl, hb⟩; refine ⟨_, rfl, ?_⟩; have n0_ := A0_ (Kd.R_below (by exact rm_ HO_8.out) hb); have n1_ := A0_ (blk_below (bm_ BK245.out) hb); have n2_ := A0_ (below_step (by repeat (first | (with_reducible first | exact qm_ HB.out | apply qA_ | apply qN_ | apply qD_ | refine below_set ?_ GE245.out) | exact HB.out)) hb); clear HO_8 BK245 HB; have HO_8 := n0_; have BK245 := n1_; have HB := n2_; clear n0_ n1_ n2_; (try clear hb)) | ((with_reducible refine gate_builtin (b := .append) (xs := #[.tmp 42, .tmp 44]) rfl ?_); at_builtin; refine Kd.R_append (Kd.int .u64) (w0 := w) w.heap.size rfl (.tmp 42) (.tmp 44) 50 23 (.int .u64 0) 8 rfl Try.underlying50 info23 rfl (by decide) (by omega) u8 x8_1 t252 [.int .u64 t252] (fun _ => True) (fun _ => False) rfl rfl ?aP (fun _ hk => hk.elim) ?aF ?aO ?aB ?aS ?aL ?_; (case aP => exact rfl); (case aB => exact (by repeat (first | (with_reducible first | exact qm_ HB.out | apply qA_ | apply qN_ | apply qD_ | refine below_set ?_ GE245.out) | exact HB.out))); (case aF => exact (fun _ _ => trivial)); (case aO => exact (by exact rm_ HO_8.out)); (case aS => exact (below_size (by repeat (first | (with_reducible first | exact qm_ HB.out | apply qA_ | apply qN_ | apply qD_ | refine below_set ?_ GE245.out) | exact HB.out)))); (case aL => have := LMc24.out; omega); intro v255 w27 ho hb hg hat; rw [← Ny254.out] at ho; have n0_ := A0_ (blk_grown (bm_ BK245.out) hg (Kd.R_ne HO_8.out BK245.out (by decide))); have n1_ := A0_ (hb); have n2_ := A0_ (ho); clear BK245 HB HO_8; have BK245 := n0_; have HB := n1_; have HO256 := n2_; clear n0_ n1_ n2_ ho hb hg hat))
            go_roundg k1
            case measure => have := HK1.out; omega
            case rel => exact ⟨(y254), (wrap64 (x32_1 + 1)), (by first | rfl | (simp; done) | (simp [*]; done)), H', ⟨by have := HK1.out; omega⟩, ⟨by exact rm_ HO256.out⟩, ⟨bm_ BK245.out⟩, ⟨by repeat (first | (with_reducible first | exact qm_ HB.out | apply qA_ | apply qN_ | apply qD_ | refine below_set ?_ GE245.out) | exact HB.out)⟩⟩
           ·rw [if_neg c24] at H
            exact absurd H (by simp)
          ·rw [if_neg c22] at H
           exact absurd H (by simp)
         ·rw [if_neg c21] at H
          exact absurd H (by simp)
        ·rw [if_neg c20] at H
         have c20b0 : decide (x32_1 < (l1.length : Int)) = false := decide_eq_false c20
         clear c20
         by_cases c26 : (okl a0 x8_1) = true
         ·rw [if_pos c26] at H
          simp only [Option.some.injEq, Prod.mk.injEq] at H
          obtain ⟨rfl, rfl⟩ := H
          have C26 := A0_ c26
          clear c26
          go_wp2_with (first | (go_at_call 52; refine (sort_step (by exact rm_ HO_8.out) (bm_ BK245.out) C26.out (below_size (qm_ HB.out))).mono ?_; rintro e w27 ⟨rfl, hR_, hB_, hb⟩; have n0_ := A0_ hR_; have n1_ := A0_ hB_; have n2_ := A0_ (Below.trans (qm_ HB.out) hb); clear HO_8 BK245 HB hR_ hB_ hb; have HO_8 := n0_; have BK245 := n1_; have HB := n2_; clear n0_ n1_ n2_))
          go_ret2
          exact ⟨_, by first | rfl | (simp [errW_none, errW_some] <;> rfl) | (simp [*, errW_none, errW_some] <;> rfl), by (with_reducible repeat (first | apply Kd.R_alloc | apply Kd.R_drewN | apply Kd.R_drew)); exact HO_8.out, by repeat (first | (with_reducible first | exact qm_ HB.out | apply qA_ | apply qN_ | apply qD_ | refine below_set ?_ GE245.out) | exact HB.out)⟩
         ·rw [if_neg c26] at H
          exact absurd H (by simp)
     ·rw [if_neg c12] at H
      exact absurd H (by simp)
    ·rw [if_neg c11] at H
     exact absurd H (by simp)
   ·rw [if_neg c10] at H
    have c10b0 : (t247 == 0) = false := beq_eq_false_iff_ne.mpr c10
    have c10b1 : (t247 != 0) = true := bne_iff_ne.mpr c10
    simp only [Option.some.injEq, Prod.mk.injEq] at H
    obtain ⟨rfl, rfl⟩ := H
    go_enter Try.func30, Try.ntmps30
    go_wp2_with (first | ((with_reducible refine gate_dst (N := 2) rfl ?_); refine box_event ?hg (N := 2) ?hd (cs := #[.int .u8 a0]) (t := 22) ?hr ?_; (case hd => rfl); (case hg => rfl); (case hr => first | (go_simp; done) | (go_simp; rfl)); intro gb245 hg w28 hbox hb; have n0_ := A0_ (below_step (qm_ HB.out) hb); have n1_ := A0_ (hbox); have n2_ := A0_ ((by rw [hg]; exact (below_size (qm_ HB.out)) : w.heap.size ≤ gb245)); have n3_ := A0_ ((by rw [hg]; exact (below_size (qm_ HB.out)) : w.heap.size ≤ gb245)); clear HB; have HB := n0_; have BK245 := n1_; have GW245 := n2_; have GE245 := n3_; clear n0_ n1_ n2_ n3_ hb hbox hg; have hcz29_0 : w28.cell? ⟨gb245, 0, none⟩ = some (.int .u8 a0) := (blk_cell BK245.out 0).trans rfl; have hfz29_0 := blk_frozen BK245.out 0) | ((with_reducible refine gate_callee (f := 34) rfl ?_); refine goesL_ (some 14) rfl rfl Try.func34 (by kernel_rfl) rfl #[.int .u8 a0, .slice none 0 0] rfl (by (try simp only [List.map_toArray, List.map_cons, List.map_nil]); first | done | rfl | (simp only [List.length_drop, List.length_take]; rfl)) ?_; (refine (rank_open.calls k a0 _ _ ([] : List Int) t246 _ ?side1 ?side2 A3.out).mono ?_); (case side1 => exact Kd.C_nil _ _); (case side2 => exact Nat.le_refl _); rintro e w30 ⟨rfl, hb⟩; refine ⟨_, rfl, ?_⟩; have n0_ := A0_ (blk_below (bm_ BK245.out) hb); have n1_ := A0_ (below_step (by repeat (first | (with_reducible first | exact qm_ HB.out | apply qA_ | apply qN_ | apply qD_ | refine below_set ?_ GE245.out) | exact HB.out)) hb); clear BK245 HB; have BK245 := n0_; have HB := n1_; clear n0_ n1_; (try clear hb); have hcz31_0 : w30.cell? ⟨gb245, 0, none⟩ = some (.int .u8 a0) := (blk_cell BK245.out 0).trans rfl; have hfz31_0 := blk_frozen BK245.out 0) | ((with_reducible refine gate_callee (f := 34) rfl ?_); refine goesL_ (some 23) rfl rfl Try.func34 (by kernel_rfl) rfl #[.int .u8 a0, .slice A1 l1.length c1] rfl (by (try simp only [List.map_toArray, List.map_cons, List.map_nil]); first | done | rfl | (simp only [List.length_drop, List.length_take]; rfl)) ?_; (with_reducible refine (rank_open.calls k a0 _ _ l1 t247 _ ?side1 ?side2 A9.out).mono ?_); (case side1 => repeat (first | exact (Kd.C_below HR1.out HB.out) | (with_reducible refine Kd.C_alloc ?_ _) | (with_reducible refine Kd.C_drewN ?_ _) | (with_reducible refine Kd.C_drew ?_))); (case side2 => exact HC1.out); rintro e w32 ⟨rfl, hb⟩; refine ⟨_, rfl, ?_⟩; have n0_ := A0_ (blk_below (bm_ BK245.out) hb); have n1_ := A0_ (below_step (by repeat (first | (with_reducible first | exact qm_ HB.out | apply qA_ | apply qN_ | apply qD_ | refine below_set ?_ GE245.out) | exact HB.out)) hb); clear BK245 HB; have BK245 := n0_; have HB := n1_; clear n0_ n1_; (try clear hb)))
    go_ret2
    exact ⟨_, by first | rfl | (simp [errW_none, errW_some] <;> rfl) | (simp [*, errW_none, errW_some] <;> rfl), by first | exact Kd.R_nil _ _ _ _ _ | exact Kd.N_nil _ _ _ _ _ | exact Kd.V_nil _ _ _ _ _ | exact Kd.Q_nil _ _ _ _ _ | exact Kd.S_nil _ _ _ _ _, by repeat (first | (with_reducible first | exact qm_ HB.out | apply qA_ | apply qN_ | apply qD_ | refine below_set ?_ GE245.out) | exact HB.out)⟩
 ·rw [if_neg c4] at H
  have c4b0 : (t246 == 0) = false := beq_eq_false_iff_ne.mpr c4
  have c4b1 : (t246 != 0) = true := bne_iff_ne.mpr c4
  simp only [Option.some.injEq, Prod.mk.injEq] at H
  obtain ⟨rfl, rfl⟩ := H
  go_enter Try.func30, Try.ntmps30
  go_wp2_with (first | ((with_reducible refine gate_dst (N := 2) rfl ?_); refine box_event ?hg (N := 2) ?hd (cs := #[.int .u8 a0]) (t := 22) ?hr ?_; (case hd => rfl); (case hg => rfl); (case hr => first | (go_simp; done) | (go_simp; rfl)); intro gb245 hg w33 hbox hb; have n0_ := A0_ (below_step (qm_ HB.out) hb); have n1_ := A0_ (hbox); have n2_ := A0_ ((by rw [hg]; exact (below_size (qm_ HB.out)) : w.heap.size ≤ gb245)); have n3_ := A0_ ((by rw [hg]; exact (below_size (qm_ HB.out)) : w.heap.size ≤ gb245)); clear HB; have HB := n0_; have BK245 := n1_; have GW245 := n2_; have GE245 := n3_; clear n0_ n1_ n2_ n3_ hb hbox hg; have hcz34_0 : w33.cell? ⟨gb245, 0, none⟩ = some (.int .u8 a0) := (blk_cell BK245.out 0).trans rfl; have hfz34_0 := blk_frozen BK245.out 0) | ((with_reducible refine gate_callee (f := 34) rfl ?_); refine goesL_ (some 14) rfl rfl Try.func34 (by kernel_rfl) rfl #[.int .u8 a0, .slice none 0 0] rfl (by (try simp only [List.map_toArray, List.map_cons, List.map_nil]); first | done | rfl | (simp only [List.length_drop, List.length_take]; rfl)) ?_; (refine (rank_open.calls k a0 _ _ ([] : List Int) t246 _ ?side1 ?side2 A3.out).mono ?_); (case side1 => exact Kd.C_nil _ _); (case side2 => exact Nat.le_refl _); rintro e w35 ⟨rfl, hb⟩; refine ⟨_, rfl, ?_⟩; have n0_ := A0_ (blk_below (bm_ BK245.out) hb); have n1_ := A0_ (below_step (by repeat (first | (with_reducible first | exact qm_ HB.out | apply qA_ | apply qN_ | apply qD_ | refine below_set ?_ GE245.out) | exact HB.out)) hb); clear BK245 HB; have BK245 := n0_; have HB := n1_; clear n0_ n1_; (try clear hb)))
  go_ret2
  exact ⟨_, by first | rfl | (simp [errW_none, errW_some] <;> rfl) | (simp [*, errW_none, errW_some] <;> rfl), by first | exact Kd.R_nil _ _ _ _ _ | exact Kd.N_nil _ _ _ _ _ | exact Kd.V_nil _ _ _ _ _ | exact Kd.Q_nil _ _ _ _ _ | exact Kd.S_nil _ _ _ _ _, by repeat (first | (with_reducible first | exact qm_ HB.out | apply qA_ | apply qN_ | apply qD_ | refine below_set ?_ GE245.out) | exact HB.out)⟩
end
section
end
section
mutual
def cutplanelaw07_RankSorts.j0 : Nat → Int → List Int → Bool → Option (Bool)
 | 0, _, _, _ => none
 | k + 1, x0, x1, x18 => if x18 = true then ((cutplanelaw07_known.f k).bind fun t476 => (some t476)) else ((some (([] : List Int) : List Int)).bind fun y477 => (if y477.length + x1.length < 17592186044416 then ((some (y477 ++ x1 : List Int)).bind fun y480 => ((rank_Sort.f k x0 y480).bind fun bt483 => ((cutplanelaw07_same.f k y480 x1).bind fun t487 => (if t487 = true then ((cutplaneref07_Opens.f k x0 x1).bind fun t488 => (if (x1.length : Int) > 4096 then ((cutplaneref03_Is.f x0).bind fun t489 => (cutplanelaw07_RankSorts.j1 k x0 x1 y480 bt483.1 bt483.2 t488 t489)) else (cutplanelaw07_RankSorts.j1 k x0 x1 y480 bt483.1 bt483.2 t488 false))) else (none))))) else (none)))
def cutplanelaw07_RankSorts.j1 : Nat → Int → List Int → List Int → List Int → Int → Int → Bool → Option (Bool)
 | 0, _, _, _, _, _, _, _ => none
 | k + 1, x0, x1, x5, x6, x7, x8, x42 => if x42 = true then (cutplanelaw07_RankSorts.j2 k x0 x1 x5 x6 x7 3) else (cutplanelaw07_RankSorts.j2 k x0 x1 x5 x6 x7 x8)
def cutplanelaw07_RankSorts.j2 : Nat → Int → List Int → List Int → List Int → Int → Int → Option (Bool)
 | 0, _, _, _, _, _, _ => none
 | k + 1, x0, x1, x5, x6, x7, x8 => if x8 = 0 then ((cutplaneref07_Sort.f k x0 x1).bind fun t491 => ((cutplanelaw07_same.f k x6 t491).bind fun t494 => (if t494 = true then (cutplanelaw07_RankSorts.j3 k x1 x5 x6 (x7 == 0)) else (cutplanelaw07_RankSorts.j3 k x1 x5 x6 false)))) else (if (x6.length : Int) = 0 then (if x7 = x8 then ((cutplanelaw07_known.f k).bind fun t490 => (some t490)) else (none)) else (none))
def cutplanelaw07_RankSorts.j3 : Nat → List Int → List Int → List Int → Bool → Option (Bool)
 | 0, _, _, _, _ => none
 | k + 1, x1, x5, x6, x9 => cutplanelaw07_RankSorts.l0 k x1 x5 x6 x9 0
def cutplanelaw07_RankSorts.l0 : Nat → List Int → List Int → List Int → Bool → Int → Option (Bool)
 | 0, _, _, _, _, _ => none
 | k + 1, x1, x5, x6, x9, x10 => if x10 < (x6.length : Int) then (if 0 ≤ x10 then (cutplanelaw07_RankSorts.l0 k x1 x5 (x6.set (x10 : Int).toNat 7) x9 (wrap64 (x10 + 1))) else (none)) else (if x9 = true then ((cutplanelaw07_same.f k x5 x1).bind fun t496 => (if t496 = true then ((cutplanelaw07_known.f k).bind fun t497 => (some t497)) else (none))) else (none))
end
def cutplanelaw07_RankSorts.f (k : Nat) (a0 : Int) (l1 : List Int) : Option (Bool) := if (l1.length : Int) > 200 then (cutplanelaw07_RankSorts.j0 k a0 l1 (decide ((l1.length : Int) ≤ 4096))) else (cutplanelaw07_RankSorts.j0 k a0 l1 false)
set_option maxHeartbeats 2000000 in
set_option maxRecDepth 100000 in
theorem cutplanelaw07_RankSorts.calls (k : Nat) (a0 : Int) (A1 : Option Addr) (c1 : Nat) (l1 : List Int) (r : Bool) (w : World) (hr1 : Kd.C (Kd.int .u64) w A1 l1.length l1) (hc1 : l1.length ≤ c1) (h : cutplanelaw07_RankSorts.f k a0 l1 = some r) :
  Calls Try.prog 9 #[.int .u8 a0, .slice A1 l1.length c1] w fun e w' => e = .returned (.bool r) ∧ Below w.heap.size w w' := by
 have HR1 := A0_ hr1
 have HC1 := A0_ hc1
 clear hr1 hc1
 have HB := A0_ (Below.refl w.heap.size w)
 have H : (if (l1.length : Int) > 200 then (cutplanelaw07_RankSorts.j0 k a0 l1 (decide ((l1.length : Int) ≤ 4096))) else (cutplanelaw07_RankSorts.j0 k a0 l1 false)) = some r := h
 clear h
 have HC3 := A0_ H
 clear H
 go_enter Try.func9, Try.ntmps9
 go_upto_region 1 with (fail)
 go_cut [18] (fun v18 wc => ∃ (kq : Nat) (x18_2 : Bool), v18 = .bool x18_2 ∧ Aside0 (cutplanelaw07_RankSorts.j0 kq a0 l1 x18_2 = some r) ∧ Aside0 (kq ≤ k) ∧ Aside0 (Below w.heap.size w wc))
 case first =>
  have H := HC3.out
  clear HC3
  by_cases c4 : (l1.length : Int) > 200
  ·rw [if_pos c4] at H
   have c4b0 : decide (200 < (l1.length : Int)) = true := decide_eq_true c4
   have c4b1 : decide (200 < l1.length) = true := decide_eq_true (by omega)
   clear c4
   (first | rw [c4b0] | (simp only [i64_w, i32_w]; rw [c4b0]) | skip)
   have H' := A0_ H
   clear H
   go_wp2
   go_meet
   case rel => exact ⟨_, (decide ((l1.length : Int) ≤ 4096)), (by first | rfl | (simp; done) | (simp [*]; done)), H', ⟨by first | omega | exact Nat.le_refl _⟩, ⟨qm_ HB.out⟩⟩
  ·rw [if_neg c4] at H
   have c4b0 : decide (200 < (l1.length : Int)) = false := decide_eq_false c4
   have c4b1 : decide (200 < l1.length) = false := decide_eq_false (by omega)
   clear c4
   (first | rw [c4b0] | (simp only [i64_w, i32_w]; rw [c4b0]) | skip)
   have H' := A0_ H
   clear H
   go_wp2
   go_meet
   case rel => exact ⟨_, (false), (by first | rfl | (simp; done) | (simp [*]; done)), H', ⟨by first | omega | exact Nat.le_refl _⟩, ⟨qm_ HB.out⟩⟩
 case rest =>
  clear HC3
  try clear c1
  try clear p2
  try clear c4
  try clear c4b0
  try clear c4b1
  obtain ⟨kq, x18_2, rfl, HA, HJ2, HB⟩ := hcut
  cases kq with
  | zero => exact absurd HA.out (by simp [cutplanelaw07_RankSorts.j0])
  | succ kj2 =>
   have H := HA.out
   clear HA
   simp only [cutplanelaw07_RankSorts.j0] at H
   by_cases c5 : x18_2 = true
   ·subst c5
    have H1 : ((cutplanelaw07_known.f kj2).bind fun t476 => (some t476)) = some r := by rw [if_pos rfl] at H; exact H
    clear H
    have H := H1
    clear H1
    replace H := Option.bind_eq_some_iff.mp H
    obtain ⟨t476, A60, H⟩ := H
    replace H : (some t476) = some r := H
    have A6 := A0_ A60
    clear A60
    obtain rfl := Option.some.inj H
    go_wp2_with (first | ((with_reducible refine gate_callee (f := 14) rfl ?_); refine goesL_ (some 19) rfl rfl Try.func14 (by kernel_rfl) rfl #[] rfl (by (try simp only [List.map_toArray, List.map_cons, List.map_nil]); first | done | rfl | (simp only [List.length_drop, List.length_take]; rfl)) ?_; (with_reducible refine (cutplanelaw07_known.calls kj2  t476 _ A6.out).mono ?_); rintro e w7 ⟨rfl, hb⟩; refine ⟨_, rfl, ?_⟩; have n0_ := A0_ (below_step (qm_ HB.out) hb); clear HB; have HB := n0_; clear n0_; (try clear hb)))
    go_ret
    exact ⟨by first | rfl | (simp [errW_none, errW_some] <;> rfl) | (simp [*, errW_none, errW_some] <;> rfl), qm_ HB.out⟩
   ·replace c5 := Bool.eq_false_iff.mpr c5
    subst c5
    have H1 : ((some (([] : List Int) : List Int)).bind fun y477 => (if y477.length + l1.length < 17592186044416 then ((some (y477 ++ l1 : List Int)).bind fun y480 => ((rank_Sort.f kj2 a0 y480).bind fun bt483 => ((cutplanelaw07_same.f kj2 y480 l1).bind fun t487 => (if t487 = true then ((cutplaneref07_Opens.f kj2 a0 l1).bind fun t488 => (if (l1.length : Int) > 4096 then ((cutplaneref03_Is.f a0).bind fun t489 => (cutplanelaw07_RankSorts.j1 kj2 a0 l1 y480 bt483.1 bt483.2 t488 t489)) else (cutplanelaw07_RankSorts.j1 kj2 a0 l1 y480 bt483.1 bt483.2 t488 false))) else (none))))) else (none))) = some r := by rw [if_neg (show ¬ (false = true) by decide)] at H; exact H
    clear H
    have H := H1
    clear H1
    obtain ⟨y477, hy477⟩ : ∃ y_ : List Int, y_ = (([] : List Int)) := ⟨_, rfl⟩
    replace H : (if y477.length + l1.length < 17592186044416 then ((some (y477 ++ l1 : List Int)).bind fun y480 => ((rank_Sort.f kj2 a0 y480).bind fun bt483 => ((cutplanelaw07_same.f kj2 y480 l1).bind fun t487 => (if t487 = true then ((cutplaneref07_Opens.f kj2 a0 l1).bind fun t488 => (if (l1.length : Int) > 4096 then ((cutplaneref03_Is.f a0).bind fun t489 => (cutplanelaw07_RankSorts.j1 kj2 a0 l1 y480 bt483.1 bt483.2 t488 t489)) else (cutplanelaw07_RankSorts.j1 kj2 a0 l1 y480 bt483.1 bt483.2 t488 false))) else (none))))) else (none)) = some r := by first | (rw [hy477]; with_reducible exact H) | (have H2_ := (Option.bind_some _ _).symm.trans H; rw [hy477]; with_reducible exact H2_) | (have H2_ := (Option.bind_some _ _).symm.trans H; with_reducible exact H2_) | with_reducible exact H | (rw [hy477]; exact H) | exact H
    have Ny477 := A0_ hy477
    clear hy477
    by_cases c8 : y477.length + l1.length < 17592186044416
    ·rw [if_pos c8] at H
     have LMc8 := A0_ c8
     clear c8
     obtain ⟨y480, hy480⟩ : ∃ y_ : List Int, y_ = (y477 ++ l1) := ⟨_, rfl⟩
     replace H : ((rank_Sort.f kj2 a0 y480).bind fun bt483 => ((cutplanelaw07_same.f kj2 y480 l1).bind fun t487 => (if t487 = true then ((cutplaneref07_Opens.f kj2 a0 l1).bind fun t488 => (if (l1.length : Int) > 4096 then ((cutplaneref03_Is.f a0).bind fun t489 => (cutplanelaw07_RankSorts.j1 kj2 a0 l1 y480 bt483.1 bt483.2 t488 t489)) else (cutplanelaw07_RankSorts.j1 kj2 a0 l1 y480 bt483.1 bt483.2 t488 false))) else (none)))) = some r := by first | (rw [hy480]; with_reducible exact H) | (have H2_ := (Option.bind_some _ _).symm.trans H; rw [hy480]; with_reducible exact H2_) | (have H2_ := (Option.bind_some _ _).symm.trans H; with_reducible exact H2_) | with_reducible exact H | (rw [hy480]; exact H) | exact H
     have Ny480 := A0_ hy480
     clear hy480
     replace H := Option.bind_eq_some_iff.mp H
     obtain ⟨⟨t483, t484⟩, A90, H⟩ := H
     replace H : ((cutplanelaw07_same.f kj2 y480 l1).bind fun t487 => (if t487 = true then ((cutplaneref07_Opens.f kj2 a0 l1).bind fun t488 => (if (l1.length : Int) > 4096 then ((cutplaneref03_Is.f a0).bind fun t489 => (cutplanelaw07_RankSorts.j1 kj2 a0 l1 y480 t483 t484 t488 t489)) else (cutplanelaw07_RankSorts.j1 kj2 a0 l1 y480 t483 t484 t488 false))) else (none))) = some r := H
     have A9 := A0_ A90
     clear A90
     replace H := Option.bind_eq_some_iff.mp H
     obtain ⟨t487, A100, H⟩ := H
     replace H : (if t487 = true then ((cutplaneref07_Opens.f kj2 a0 l1).bind fun t488 => (if (l1.length : Int) > 4096 then ((cutplaneref03_Is.f a0).bind fun t489 => (cutplanelaw07_RankSorts.j1 kj2 a0 l1 y480 t483 t484 t488 t489)) else (cutplanelaw07_RankSorts.j1 kj2 a0 l1 y480 t483 t484 t488 false))) else (none)) = some r := H
     have A10 := A0_ A100
     clear A100
     by_cases c11 : t487 = true
     ·subst c11
      have H1 : ((cutplaneref07_Opens.f kj2 a0 l1).bind fun t488 => (if (l1.length : Int) > 4096 then ((cutplaneref03_Is.f a0).bind fun t489 => (cutplanelaw07_RankSorts.j1 kj2 a0 l1 y480 t483 t484 t488 t489)) else (cutplanelaw07_RankSorts.j1 kj2 a0 l1 y480 t483 t484 t488 false))) = some r := by rw [if_pos rfl] at H; exact H
      clear H
      have H := H1
      clear H1
      replace H := Option.bind_eq_some_iff.mp H
      obtain ⟨t488, A120, H⟩ := H
      replace H : (if (l1.length : Int) > 4096 then ((cutplaneref03_Is.f a0).bind fun t489 => (cutplanelaw07_RankSorts.j1 kj2 a0 l1 y480 t483 t484 t488 t489)) else (cutplanelaw07_RankSorts.j1 kj2 a0 l1 y480 t483 t484 t488 false)) = some r := H
      have A12 := A0_ A120
      clear A120
      have HC13 := A0_ H
      clear H
      go_upto_region 8 with (first | ((with_reducible refine gate_dst (N := 20) rfl ?_); refine Kd.R_lit (Kd.int .u64) _ 23 ?hg (N := 20) ?hd (xs := ([] : List Int)) (inner := []) (ok := fun _ => True) (okp := fun _ => True) ?hr ?hp (fun _ hk => hk) trivial (Below.refl _ _) (Nat.le_refl _) (by simp) ?_; (case hd => rfl); (case hg => rfl); (case hr => first | (go_simp; done) | (go_simp; rfl)); (case hp => exact (Reps.none _ _)); intro v478 w14 ho15 hb hg_ hnew_; clear hg_ hnew_; (first | rw [← Ny477.out] at ho15 | (simp only [Int.reduceToNat] at ho15; rw [← Ny477.out] at ho15)); have n0_ := A0_ (Kd.R_lower ho15 (below_size (qm_ HB.out))); have n1_ := A0_ (below_step (qm_ HB.out) hb); clear HB; have HO479 := n0_; have HB := n1_; clear n0_ n1_ hb ho15) | ((with_reducible refine gate_builtin (b := .append) (xs := #[.tmp 20, .tmp 21]) rfl ?_); at_builtin; refine Kd.R_append_rows (Kd.int .u64) (w0 := w) w.heap.size rfl (.tmp 20) (.tmp 21) 50 23 (.int .u64 0) 8 rfl Try.underlying50 info23 rfl (by decide) (by omega) v478 y477 l1 _ _ _ (fun _ => True) (fun _ => False) rfl rfl ?aO ?aR (fun _ _ h => h) (fun _ h => h.elim) ?aF ?aB ?aS ?aL ?_; (case aR => repeat (first | exact (Kd.C_below HR1.out HB.out) | (with_reducible refine Kd.C_alloc ?_ _) | (with_reducible refine Kd.C_drewN ?_ _) | (with_reducible refine Kd.C_drew ?_))); (case aB => exact (qm_ HB.out)); (case aF => exact (fun _ _ => trivial)); (case aO => exact (by exact rm_ HO479.out)); (case aS => exact (below_size (qm_ HB.out))); (case aL => have := LMc8.out; omega); intro v481 w16 ho hb hg hat; rw [← Ny480.out] at ho; have n0_ := A0_ (hb); have n1_ := A0_ (ho); clear HB HO479; have HB := n0_; have HO482 := n1_; clear n0_ n1_ ho hb hg hat; obtain ⟨Ao17, co17, eo17⟩ := Kd.R_slice HO482.out; subst eo17) | ((with_reducible refine gate_callee (f := 30) rfl ?_); refine goesL_ (some 26) rfl rfl Try.func30 (by kernel_rfl) rfl #[.int .u8 a0, .slice Ao17 y480.length co17] rfl (by (try simp only [List.map_toArray, List.map_cons, List.map_nil]); first | done | rfl | (simp only [List.length_drop, List.length_take]; rfl)) ?_; (with_reducible refine (rank_Sort.calls kj2 a0 _ _ y480 t483 t484 _ ?side1 ?side2 A9.out).mono ?_); (case side1 => repeat (first | exact (Kd.R_reads' HO482.out).2.2 | (with_reducible refine Kd.C_alloc ?_ _) | (with_reducible refine Kd.C_drewN ?_ _) | (with_reducible refine Kd.C_drew ?_))); (case side2 => exact (Kd.R_reads' HO482.out).2.1); rintro e w18 ⟨v485, rfl, ho0, hb⟩; refine ⟨_, rfl, ?_⟩; have n0_ := A0_ (Kd.R_elder' (by exact rm_ HO482.out) (Kd.R_base ho0) hb); have n1_ := A0_ (Kd.R_lower (Kd.R_new' ho0 (Kd.R_lt (by exact rm_ HO482.out))) (below_size (qm_ HB.out))); have n2_ := A0_ (below_step (qm_ HB.out) hb); clear HO482 HB; have HO482 := n0_; have HO486 := n1_; have HB := n2_; clear n0_ n1_ n2_; (try clear hb); (try clear ho0)) | ((with_reducible refine gate_callee (f := 31) rfl ?_); refine goesL_ (some 31) rfl rfl Try.func31 (by kernel_rfl) rfl #[.slice Ao17 y480.length co17, .slice A1 l1.length c1] rfl (by (try simp only [List.map_toArray, List.map_cons, List.map_nil]); first | done | rfl | (simp only [List.length_drop, List.length_take]; rfl)) ?_; (with_reducible refine (cutplanelaw07_same.calls kj2 _ _ y480 _ _ l1 true _ ?side1 ?side2 ?side3 ?side4 A10.out).mono ?_); (case side1 => repeat (first | exact (Kd.R_reads' HO482.out).2.2 | (with_reducible refine Kd.C_alloc ?_ _) | (with_reducible refine Kd.C_drewN ?_ _) | (with_reducible refine Kd.C_drew ?_))); (case side2 => exact (Kd.R_reads' HO482.out).2.1); (case side3 => repeat (first | exact (Kd.C_below HR1.out HB.out) | (with_reducible refine Kd.C_alloc ?_ _) | (with_reducible refine Kd.C_drewN ?_ _) | (with_reducible refine Kd.C_drew ?_))); (case side4 => exact HC1.out); rintro e w' ⟨rfl, ⟨nd, rfl⟩⟩; refine ⟨_, rfl, ?_⟩) | ((with_reducible refine gate_callee (f := 13) rfl ?_); refine goesL_ (some 35) rfl rfl Try.func13 (by kernel_rfl) rfl #[.int .u8 a0, .slice A1 l1.length c1] rfl (by (try simp only [List.map_toArray, List.map_cons, List.map_nil]); first | done | rfl | (simp only [List.length_drop, List.length_take]; rfl)) ?_; (with_reducible refine (cutplaneref07_Opens.calls kj2 a0 _ _ l1 t488 _ ?side1 ?side2 A12.out).mono ?_); (case side1 => repeat (first | exact (Kd.C_below HR1.out (qm_ HB.out)) | (with_reducible refine Kd.C_alloc ?_ _) | (with_reducible refine Kd.C_drewN ?_ _) | (with_reducible refine Kd.C_drew ?_))); (case side2 => exact HC1.out); rintro e w' ⟨rfl, ⟨nd, rfl⟩⟩; refine ⟨_, rfl, ?_⟩))
      (try simp only [Act.put, sp_])
      go_cut [42] (fun v42 wc => ∃ (kq : Nat) (x42_12 : Bool), v42 = .bool x42_12 ∧ Aside0 (cutplanelaw07_RankSorts.j1 kq a0 l1 y480 t483 t484 t488 x42_12 = some r) ∧ Aside0 (kq ≤ kj2) ∧ Aside0 (Kd.R (Kd.int .u64) 23 wc w.heap.size (fun k_ => some k_ ≠ (v485 : Value).ownBlock) (.slice Ao17 y480.length co17) y480) ∧ Aside0 (Kd.R (Kd.int .u64) 23 wc w.heap.size (fun k_ => some k_ ≠ ((.slice Ao17 y480.length co17) : Value).ownBlock) v485 t483) ∧ Aside0 (Below w.heap.size w wc))
      case first =>
       have H := HC13.out
       clear HC13
       by_cases c19 : (l1.length : Int) > 4096
       ·rw [if_pos c19] at H
        have c19b0 : decide (4096 < (l1.length : Int)) = true := decide_eq_true c19
        have c19b1 : decide (4096 < l1.length) = true := decide_eq_true (by omega)
        clear c19
        (first | rw [c19b0] | (simp only [i64_w, i32_w]; rw [c19b0]) | skip)
        replace H := Option.bind_eq_some_iff.mp H
        obtain ⟨t489, A200, H⟩ := H
        replace H : (cutplanelaw07_RankSorts.j1 kj2 a0 l1 y480 t483 t484 t488 t489) = some r := H
        have A20 := A0_ A200
        clear A200
        have H' := A0_ H
        clear H
        go_wp2_with (first | (go_at_call 32; (with_reducible refine (cutplaneref03_Is.calls a0 t489 _ A20.out).mono ?_); rintro e w' ⟨rfl, ⟨nd, rfl⟩⟩))
        go_meet
        case rel => exact ⟨_, (t489), (by first | rfl | (simp; done) | (simp [*]; done)), H', ⟨by have := HJ2.out; first | omega | exact Nat.le_refl _⟩, ⟨by (with_reducible repeat (first | apply Kd.R_alloc | apply Kd.R_drewN | apply Kd.R_drew)); exact Kd.R_mono HO482.out (fun _ hk => hk.2)⟩, ⟨by (with_reducible repeat (first | apply Kd.R_alloc | apply Kd.R_drewN | apply Kd.R_drew)); exact Kd.R_mono HO486.out (fun _ hk => hk.2)⟩, ⟨qm_ HB.out⟩⟩
       ·rw [if_neg c19] at H
        have c19b0 : decide (4096 < (l1.length : Int)) = false := decide_eq_false c19
        have c19b1 : decide (4096 < l1.length) = false := decide_eq_false (by omega)
        clear c19
        (first | rw [c19b0] | (simp only [i64_w, i32_w]; rw [c19b0]) | skip)
        have H' := A0_ H
        clear H
        go_wp2
        go_meet
        case rel => exact ⟨_, (false), (by first | rfl | (simp; done) | (simp [*]; done)), H', ⟨by have := HJ2.out; first | omega | exact Nat.le_refl _⟩, ⟨by (with_reducible repeat (first | apply Kd.R_alloc | apply Kd.R_drewN | apply Kd.R_drew)); exact Kd.R_mono HO482.out (fun _ hk => hk.2)⟩, ⟨by (with_reducible repeat (first | apply Kd.R_alloc | apply Kd.R_drewN | apply Kd.R_drew)); exact Kd.R_mono HO486.out (fun _ hk => hk.2)⟩, ⟨qm_ HB.out⟩⟩
      case rest =>
       clear HC13
       try clear c1
       try clear p2
       try clear c3
       try clear c4
       try clear c4b0
       try clear c4b1
       try clear c5
       try clear c8
       try clear c9
       try clear c11
       try clear c13
       try clear c14
       try clear c19
       try clear c19b0
       try clear c19b1
       try clear p2
       obtain ⟨kq, x42_12, rfl, HA, HJ12, HO_5, HO_6, HB⟩ := hcut
       cases kq with
       | zero => exact absurd HA.out (by simp [cutplanelaw07_RankSorts.j1])
       | succ kj12 =>
        have H := HA.out
        clear HA
        simp only [cutplanelaw07_RankSorts.j1] at H
        have HC21 := A0_ H
        clear H
        go_upto_if 42 with (fail)
        go_cut [8] (fun v8 wc => ∃ (kq : Nat) (x8_20 : Int), v8 = .int .i64 x8_20 ∧ Aside0 (cutplanelaw07_RankSorts.j2 kq a0 l1 y480 t483 t484 x8_20 = some r) ∧ Aside0 (kq ≤ kj12) ∧ Aside0 (Kd.R (Kd.int .u64) 23 wc w.heap.size (fun k_ => some k_ ≠ (v485 : Value).ownBlock) (.slice Ao17 y480.length co17) y480) ∧ Aside0 (Kd.R (Kd.int .u64) 23 wc w.heap.size (fun k_ => some k_ ≠ ((.slice Ao17 y480.length co17) : Value).ownBlock) v485 t483) ∧ Aside0 (Below w.heap.size w wc))
        case first =>
         have H := HC21.out
         clear HC21
         by_cases c22 : x42_12 = true
         ·subst c22
          have H1 : (cutplanelaw07_RankSorts.j2 kj12 a0 l1 y480 t483 t484 3) = some r := by rw [if_pos rfl] at H; exact H
          clear H
          have H := H1
          clear H1
          have H' := A0_ H
          clear H
          go_wp2
          go_meet
          case rel => exact ⟨_, (3), (by first | rfl | (simp; done) | (simp [*]; done)), H', ⟨by have := HJ2.out; have := HJ12.out; first | omega | exact Nat.le_refl _⟩, ⟨by exact rm_ HO_5.out⟩, ⟨by exact rm_ HO_6.out⟩, ⟨qm_ HB.out⟩⟩
         ·replace c22 := Bool.eq_false_iff.mpr c22
          subst c22
          have H1 : (cutplanelaw07_RankSorts.j2 kj12 a0 l1 y480 t483 t484 t488) = some r := by rw [if_neg (show ¬ (false = true) by decide)] at H; exact H
          clear H
          have H := H1
          clear H1
          have H' := A0_ H
          clear H
          go_wp2
          go_meet
          case rel => exact ⟨_, (t488), (by first | rfl | (simp; done) | (simp [*]; done)), H', ⟨by have := HJ2.out; have := HJ12.out; first | omega | exact Nat.le_refl _⟩, ⟨by exact rm_ HO_5.out⟩, ⟨by exact rm_ HO_6.out⟩, ⟨qm_ HB.out⟩⟩
        case rest =>
         clear HC21
         try clear c1
         try clear c2
         try clear p2
         try clear c3
         try clear c4
         try clear c4b0
         try clear c4b1
         try clear c5
         try clear c8
         try clear c9
         try clear c11
         try clear c13
         try clear c14
         try clear c19
         try clear c19b0
         try clear c19b1
         try clear c22
         try clear p2
         obtain ⟨kq, x8_20, rfl, HA, HJ20, HO_5, HO_6, HB⟩ := hcut
         cases kq with
         | zero => exact absurd HA.out (by simp [cutplanelaw07_RankSorts.j2])
         | succ kj20 =>
          have H := HA.out
          clear HA
          simp only [cutplanelaw07_RankSorts.j2] at H
          by_cases c23 : x8_20 = 0
          ·rw [if_pos c23] at H
           have c23b0 : (x8_20 == 0) = true := beq_iff_eq.mpr c23
           have c23b1 : (x8_20 != 0) = false := bne_eq_false_iff_eq.mpr c23
           clear c23
           have HC24 := A0_ H
           clear H
           go_upto_region 12 with (fail)
           go_cut [9] (fun v9 wc => ∃ (kq : Nat) (x9_23 : Bool), v9 = .bool x9_23 ∧ Aside0 (cutplanelaw07_RankSorts.j3 kq l1 y480 t483 x9_23 = some r) ∧ Aside0 (kq ≤ kj20) ∧ Aside0 (Kd.R (Kd.int .u64) 23 wc w.heap.size (fun k_ => some k_ ≠ (v485 : Value).ownBlock) (.slice Ao17 y480.length co17) y480) ∧ Aside0 (Kd.R (Kd.int .u64) 23 wc w.heap.size (fun k_ => some k_ ≠ ((.slice Ao17 y480.length co17) : Value).ownBlock) v485 t483) ∧ Aside0 (Below w.heap.size w wc))
           case first =>
            have H := HC24.out
            clear HC24
            replace H := Option.bind_eq_some_iff.mp H
            obtain ⟨t491, A250, H⟩ := H
            replace H : ((cutplanelaw07_same.f kj20 t483 t491).bind fun t494 => (if t494 = true then (cutplanelaw07_RankSorts.j3 kj20 l1 y480 t483 (t484 == 0)) else (cutplanelaw07_RankSorts.j3 kj20 l1 y480 t483 false))) = some r := H
            have A25 := A0_ A250
            clear A250
            replace H := Option.bind_eq_some_iff.mp H
            obtain ⟨t494, A260, H⟩ := H
            replace H : (if t494 = true then (cutplanelaw07_RankSorts.j3 kj20 l1 y480 t483 (t484 == 0)) else (cutplanelaw07_RankSorts.j3 kj20 l1 y480 t483 false)) = some r := H
            have A26 := A0_ A260
            clear A260
            by_cases c27 : t494 = true
            ·subst c27
             have H1 : (cutplanelaw07_RankSorts.j3 kj20 l1 y480 t483 (t484 == 0)) = some r := by rw [if_pos rfl] at H; exact H
             clear H
             have H := H1
             clear H1
             have H' := A0_ H
             clear H
             go_wp2_with (first | ((with_reducible refine gate_callee (f := 33) rfl ?_); refine goesL_ (some 59) rfl rfl Try.func33 (by kernel_rfl) rfl #[.int .u8 a0, .slice A1 l1.length c1] rfl (by (try simp only [List.map_toArray, List.map_cons, List.map_nil]); first | done | rfl | (simp only [List.length_drop, List.length_take]; rfl)) ?_; (with_reducible refine (cutplaneref07_Sort.calls kj20 a0 _ _ l1 t491 _ ?side1 ?side2 A25.out).mono ?_); (case side1 => repeat (first | exact (Kd.C_below HR1.out HB.out) | (with_reducible refine Kd.C_alloc ?_ _) | (with_reducible refine Kd.C_drewN ?_ _) | (with_reducible refine Kd.C_drew ?_))); (case side2 => exact HC1.out); rintro e w28 ⟨v492, rfl, ho0, hb⟩; refine ⟨_, rfl, ?_⟩; have n0_ := A0_ (Kd.R_elder' (by exact rm_ HO_5.out) (Kd.R_base ho0) hb); have n1_ := A0_ (Kd.R_elder' (by exact rm_ HO_6.out) (Kd.R_base ho0) hb); have n2_ := A0_ (Kd.R_lower (Kd.R_new' (Kd.R_new' ho0 (Kd.R_lt (by exact rm_ HO_5.out))) (Kd.R_lt (by exact rm_ HO_6.out))) (below_size (qm_ HB.out))); have n3_ := A0_ (below_step (qm_ HB.out) hb); clear HO_5 HO_6 HB; have HO_5 := n0_; have HO_6 := n1_; have HO493 := n2_; have HB := n3_; clear n0_ n1_ n2_ n3_; (try clear hb); (try clear ho0); obtain ⟨Ao29, co29, eo29⟩ := Kd.R_slice HO_6.out; subst eo29; obtain ⟨Ao30, co30, eo30⟩ := Kd.R_slice HO493.out; subst eo30) | ((with_reducible refine gate_callee (f := 31) rfl ?_); refine goesL_ (some 60) rfl rfl Try.func31 (by kernel_rfl) rfl #[.slice Ao29 t483.length co29, .slice Ao30 t491.length co30] rfl (by (try simp only [List.map_toArray, List.map_cons, List.map_nil]); first | done | rfl | (simp only [List.length_drop, List.length_take]; rfl)) ?_; (with_reducible refine (cutplanelaw07_same.calls kj20 _ _ t483 _ _ t491 true _ ?side1 ?side2 ?side3 ?side4 A26.out).mono ?_); (case side1 => repeat (first | exact (Kd.R_reads' HO_6.out).2.2 | (with_reducible refine Kd.C_alloc ?_ _) | (with_reducible refine Kd.C_drewN ?_ _) | (with_reducible refine Kd.C_drew ?_))); (case side2 => exact (Kd.R_reads' HO_6.out).2.1); (case side3 => repeat (first | exact (Kd.R_reads' HO493.out).2.2 | (with_reducible refine Kd.C_alloc ?_ _) | (with_reducible refine Kd.C_drewN ?_ _) | (with_reducible refine Kd.C_drew ?_))); (case side4 => exact (Kd.R_reads' HO493.out).2.1); rintro e w' ⟨rfl, ⟨nd, rfl⟩⟩; refine ⟨_, rfl, ?_⟩))
             go_meet
             case rel => exact ⟨_, ((t484 == 0)), (by first | rfl | (simp; done) | (simp [*]; done)), H', ⟨by have := HJ2.out; have := HJ12.out; have := HJ20.out; first | omega | exact Nat.le_refl _⟩, ⟨by (with_reducible repeat (first | apply Kd.R_alloc | apply Kd.R_drewN | apply Kd.R_drew)); exact Kd.R_mono HO_5.out (fun _ hk => hk.1)⟩, ⟨by (with_reducible repeat (first | apply Kd.R_alloc | apply Kd.R_drewN | apply Kd.R_drew)); exact Kd.R_mono HO_6.out (fun _ hk => hk.1)⟩, ⟨qm_ HB.out⟩⟩
            ·replace c27 := Bool.eq_false_iff.mpr c27
             subst c27
             have H1 : (cutplanelaw07_RankSorts.j3 kj20 l1 y480 t483 false) = some r := by rw [if_neg (show ¬ (false = true) by decide)] at H; exact H
             clear H
             have H := H1
             clear H1
             have H' := A0_ H
             clear H
             go_wp2_with (first | ((with_reducible refine gate_callee (f := 33) rfl ?_); refine goesL_ (some 59) rfl rfl Try.func33 (by kernel_rfl) rfl #[.int .u8 a0, .slice A1 l1.length c1] rfl (by (try simp only [List.map_toArray, List.map_cons, List.map_nil]); first | done | rfl | (simp only [List.length_drop, List.length_take]; rfl)) ?_; (with_reducible refine (cutplaneref07_Sort.calls kj20 a0 _ _ l1 t491 _ ?side1 ?side2 A25.out).mono ?_); (case side1 => repeat (first | exact (Kd.C_below HR1.out HB.out) | (with_reducible refine Kd.C_alloc ?_ _) | (with_reducible refine Kd.C_drewN ?_ _) | (with_reducible refine Kd.C_drew ?_))); (case side2 => exact HC1.out); rintro e w31 ⟨v492, rfl, ho0, hb⟩; refine ⟨_, rfl, ?_⟩; have n0_ := A0_ (Kd.R_elder' (by exact rm_ HO_5.out) (Kd.R_base ho0) hb); have n1_ := A0_ (Kd.R_elder' (by exact rm_ HO_6.out) (Kd.R_base ho0) hb); have n2_ := A0_ (Kd.R_lower (Kd.R_new' (Kd.R_new' ho0 (Kd.R_lt (by exact rm_ HO_5.out))) (Kd.R_lt (by exact rm_ HO_6.out))) (below_size (qm_ HB.out))); have n3_ := A0_ (below_step (qm_ HB.out) hb); clear HO_5 HO_6 HB; have HO_5 := n0_; have HO_6 := n1_; have HO493 := n2_; have HB := n3_; clear n0_ n1_ n2_ n3_; (try clear hb); (try clear ho0); obtain ⟨Ao32, co32, eo32⟩ := Kd.R_slice HO_6.out; subst eo32; obtain ⟨Ao33, co33, eo33⟩ := Kd.R_slice HO493.out; subst eo33) | ((with_reducible refine gate_callee (f := 31) rfl ?_); refine goesL_ (some 60) rfl rfl Try.func31 (by kernel_rfl) rfl #[.slice Ao32 t483.length co32, .slice Ao33 t491.length co33] rfl (by (try simp only [List.map_toArray, List.map_cons, List.map_nil]); first | done | rfl | (simp only [List.length_drop, List.length_take]; rfl)) ?_; (with_reducible refine (cutplanelaw07_same.calls kj20 _ _ t483 _ _ t491 false _ ?side1 ?side2 ?side3 ?side4 A26.out).mono ?_); (case side1 => repeat (first | exact (Kd.R_reads' HO_6.out).2.2 | (with_reducible refine Kd.C_alloc ?_ _) | (with_reducible refine Kd.C_drewN ?_ _) | (with_reducible refine Kd.C_drew ?_))); (case side2 => exact (Kd.R_reads' HO_6.out).2.1); (case side3 => repeat (first | exact (Kd.R_reads' HO493.out).2.2 | (with_reducible refine Kd.C_alloc ?_ _) | (with_reducible refine Kd.C_drewN ?_ _) | (with_reducible refine Kd.C_drew ?_))); (case side4 => exact (Kd.R_reads' HO493.out).2.1); rintro e w' ⟨rfl, ⟨nd, rfl⟩⟩; refine ⟨_, rfl, ?_⟩))
             go_meet
             case rel => exact ⟨_, (false), (by first | rfl | (simp; done) | (simp [*]; done)), H', ⟨by have := HJ2.out; have := HJ12.out; have := HJ20.out; first | omega | exact Nat.le_refl _⟩, ⟨by (with_reducible repeat (first | apply Kd.R_alloc | apply Kd.R_drewN | apply Kd.R_drew)); exact Kd.R_mono HO_5.out (fun _ hk => hk.1)⟩, ⟨by (with_reducible repeat (first | apply Kd.R_alloc | apply Kd.R_drewN | apply Kd.R_drew)); exact Kd.R_mono HO_6.out (fun _ hk => hk.1)⟩, ⟨qm_ HB.out⟩⟩
           case rest =>
            clear HC24
            try clear c1
            try clear c2
            try clear p2
            try clear c3
            try clear c4
            try clear c4b0
            try clear c4b1
            try clear c5
            try clear c8
            try clear c9
            try clear c11
            try clear c13
            try clear c14
            try clear c19
            try clear c19b0
            try clear c19b1
            try clear c22
            try clear c23
            try clear c23b0
            try clear c23b1
            try clear c27
            try clear c30
            try clear c31
            try clear c33
            try clear p2
            obtain ⟨kq, x9_23, rfl, HA, HJ23, HO_5, HO_6, HB⟩ := hcut
            cases kq with
            | zero => exact absurd HA.out (by simp [cutplanelaw07_RankSorts.j3])
            | succ kj23 =>
             have H := HA.out
             clear HA
             simp only [cutplanelaw07_RankSorts.j3] at H
             have H' := A0_ H
             clear H
             go_wp2
             go_loopg [10] kj23 (fun kq v10 w' => ∃ (x6_5 : List Int) (x10_5 : Int), v10 = .int .i64 x10_5 ∧ Aside0 (cutplanelaw07_RankSorts.l0 kq l1 y480 x6_5 x9_23 x10_5 = some r) ∧ Aside0 (kq ≤ kj23) ∧ Aside0 (Kd.R (Kd.int .u64) 23 w' w.heap.size (fun k_ => some k_ ≠ (v485 : Value).ownBlock) (.slice Ao17 y480.length co17) y480) ∧ Aside0 (Kd.R (Kd.int .u64) 23 w' w.heap.size (fun k_ => some k_ ≠ ((.slice Ao17 y480.length co17) : Value).ownBlock) v485 x6_5) ∧ Aside0 (Below w.heap.size w w'))
             case atStart => exact ⟨(t483), (0), (by first | rfl | (simp; done) | (simp [*]; done)), H', ⟨Nat.le_refl _⟩, ⟨by exact rm_ HO_5.out⟩, ⟨by exact rm_ HO_6.out⟩, ⟨qm_ HB.out⟩⟩
             case round =>
              clear H'
              try clear c1
              try clear c2
              try clear p2
              try clear c3
              try clear c4
              try clear c4b0
              try clear c4b1
              try clear c5
              try clear c8
              try clear c9
              try clear c11
              try clear c13
              try clear c14
              try clear c19
              try clear c19b0
              try clear c19b1
              try clear c22
              try clear c23
              try clear c23b0
              try clear c23b1
              try clear c27
              try clear c30
              try clear c31
              try clear c33
              try clear p2
              obtain ⟨x6_5, x10_5, rfl, HA, HK5, HO_5, HO_6, HB⟩ := hrel
              cases gk with
              | zero => exact absurd HA.out (by simp [cutplanelaw07_RankSorts.l0])
              | succ k5 =>
               have H := HA.out
               clear HA
               simp only [cutplanelaw07_RankSorts.l0] at H
               by_cases c34 : x10_5 < (x6_5.length : Int)
               ·rw [if_pos c34] at H
                have c34b0 : decide (x10_5 < (x6_5.length : Int)) = true := decide_eq_true c34
                clear c34
                by_cases c35 : 0 ≤ x10_5
                ·rw [if_pos c35] at H
                 have c35b0 : decide (0 ≤ x10_5) = true := decide_eq_true c35
                 clear c35
                 obtain ⟨y495, hy495⟩ : ∃ y_ : List Int, y_ = (x6_5.set (x10_5 : Int).toNat 7) := ⟨_, rfl⟩
                 replace H : (cutplanelaw07_RankSorts.l0 k5 l1 y480 y495 x9_23 (wrap64 (x10_5 + 1))) = some r := by first | (rw [hy495]; with_reducible exact H) | (have H2_ := (Option.bind_some _ _).symm.trans H; rw [hy495]; with_reducible exact H2_) | (have H2_ := (Option.bind_some _ _).symm.trans H; with_reducible exact H2_) | with_reducible exact H | (rw [hy495]; exact H) | exact H
                 have Ny495 := A0_ hy495
                 clear hy495
                 have H' := A0_ H
                 clear H
                 obtain ⟨Ao37, co37, eo37⟩ := Kd.R_slice HO_6.out
                 subst eo37
                 have p36 : 0 ≤ (x10_5 : Int) := of_decide_eq_true (by first | (with_reducible assumption) | assumption)
                 have q36 : (x10_5 : Int) < ((x6_5.length : Int) : Int) := of_decide_eq_true (by first | (with_reducible assumption) | assumption)
                 obtain ⟨go36, co36, eo36, gb36, gl36, cl36, HG36⟩ := Kd.R_form HO_6.out (by omega)
                 (first | cases eo36 | (injection eo36 with ea_ en_ ec_; (first | subst ea_ | (injection ea_ with ea_; subst ea_)); subst ec_; clear en_))
                 have GB36 := A0_ gb36
                 have GG36 := A0_ HG36
                 clear gb36 gl36 HG36
                 obtain ⟨hx36_0, hf36_0⟩ := Kd.R_celln 0 HO_6.out (x10_5 : Int) p36 q36
                 replace p36 := eq_true p36
                 replace q36 := eq_true q36
                 have HP38 := Kd.R_putg HO_6.out (x10_5 : Int) 7
                 go_wp2_with (first | ((with_reducible refine gate_store (t := 23) (p := 73) rfl ?_); refine store_event (t := 23) (p := 73) (v := ?vo_w39) (w1 := (wr.setCell ⟨go36, (x10_5 : Int).toNat, none⟩ (.int .u64 7))) ?hg ?ho ?hn ?hr ?_; (case ho => rfl); (case hg => rfl); (case hn => rfl); (case hr => first | (go_simp; done) | (go_simp; rfl)); intro w39 hw; have hg : wr.grownBy w39 (some go36) := (by rw [hw]; exact HP38.2); have hp_ : Kd.R (Kd.int .u64) 23 w39 w.heap.size (fun k_ => some k_ ≠ (.slice Ao17 y480.length co17 : Value).ownBlock) (.slice (some ⟨go36, 0, none⟩) x6_5.length co37) y495 := (by rw [hw, Ny495.out]; exact HP38.1); clear HP38; have n0_ := A0_ (Kd.R_after (v := (.slice (some ⟨go36, 0, none⟩) x6_5.length co37)) (v1 := (.slice (some ⟨go36, 0, none⟩) x6_5.length co37)) (ok := (fun _ => True)) (by (with_reducible repeat (first | apply Kd.R_alloc | apply Kd.R_drewN | apply Kd.R_drew)); exact Kd.R_mono HO_5.out (fun _ hk => ⟨trivial, hk⟩)) hg (.inl rfl)); have n1_ := A0_ (hp_); have n2_ := A0_ ((by rw [hw]; exact below_set (HB.out) GB36.out : Below w.heap.size w w39)); clear HO_5 HO_6 HB; have HO_5 := n0_; have HO_6 := n1_; have HB := n2_; clear n0_ n1_ n2_ hg hw hp_))
                 go_roundg k5
                 case measure => have := HJ2.out; have := HJ12.out; have := HJ20.out; have := HJ23.out; have := HK5.out; omega
                 case rel => exact ⟨(y495), (wrap64 (x10_5 + 1)), (by first | rfl | (simp; done) | (simp [*]; done)), H', ⟨by have := HJ2.out; have := HJ12.out; have := HJ20.out; have := HJ23.out; have := HK5.out; omega⟩, ⟨by (with_reducible repeat (first | apply Kd.R_alloc | apply Kd.R_drewN | apply Kd.R_drew)); exact Kd.R_mono HO_5.out (fun _ hk => hk.2)⟩, ⟨by exact rm_ HO_6.out⟩, ⟨qm_ HB.out⟩⟩
                ·rw [if_neg c35] at H
                 exact absurd H (by simp)
               ·rw [if_neg c34] at H
                have c34b0 : decide (x10_5 < (x6_5.length : Int)) = false := decide_eq_false c34
                clear c34
                by_cases c40 : x9_23 = true
                ·subst c40
                 have H1 : ((cutplanelaw07_same.f k5 y480 l1).bind fun t496 => (if t496 = true then ((cutplanelaw07_known.f k5).bind fun t497 => (some t497)) else (none))) = some r := by rw [if_pos rfl] at H; exact H
                 clear H
                 have H := H1
                 clear H1
                 replace H := Option.bind_eq_some_iff.mp H
                 obtain ⟨t496, A410, H⟩ := H
                 replace H : (if t496 = true then ((cutplanelaw07_known.f k5).bind fun t497 => (some t497)) else (none)) = some r := H
                 have A41 := A0_ A410
                 clear A410
                 by_cases c42 : t496 = true
                 ·subst c42
                  have H1 : ((cutplanelaw07_known.f k5).bind fun t497 => (some t497)) = some r := by rw [if_pos rfl] at H; exact H
                  clear H
                  have H := H1
                  clear H1
                  replace H := Option.bind_eq_some_iff.mp H
                  obtain ⟨t497, A430, H⟩ := H
                  replace H : (some t497) = some r := H
                  have A43 := A0_ A430
                  clear A430
                  obtain rfl := Option.some.inj H
                  obtain ⟨Ao44, co44, eo44⟩ := Kd.R_slice HO_6.out
                  subst eo44
                  go_wp2_with (first | (go_at_call 31; (with_reducible refine (cutplanelaw07_same.calls k5 _ _ y480 _ _ l1 true _ ?side1 ?side2 ?side3 ?side4 A41.out).mono ?_); (case side1 => repeat (first | exact (Kd.R_reads' HO_5.out).2.2 | (with_reducible refine Kd.C_alloc ?_ _) | (with_reducible refine Kd.C_drewN ?_ _) | (with_reducible refine Kd.C_drew ?_))); (case side2 => exact (Kd.R_reads' HO_5.out).2.1); (case side3 => repeat (first | exact (Kd.C_below HR1.out HB.out) | (with_reducible refine Kd.C_alloc ?_ _) | (with_reducible refine Kd.C_drewN ?_ _) | (with_reducible refine Kd.C_drew ?_))); (case side4 => exact HC1.out); rintro e w' ⟨rfl, ⟨nd, rfl⟩⟩) | (go_at_call 14; (with_reducible refine (cutplanelaw07_known.calls k5  t497 _ A43.out).mono ?_); rintro e w45 ⟨rfl, hb⟩; have n0_ := A0_ (Kd.R_below (by exact rm_ HO_5.out) hb); have n1_ := A0_ (Kd.R_below (by exact rm_ HO_6.out) hb); have n2_ := A0_ (below_step (qm_ HB.out) hb); clear HO_5 HO_6 HB; have HO_5 := n0_; have HO_6 := n1_; have HB := n2_; clear n0_ n1_ n2_; (try clear hb)))
                  go_ret
                  exact ⟨by first | rfl | (simp [errW_none, errW_some] <;> rfl) | (simp [*, errW_none, errW_some] <;> rfl), qm_ HB.out⟩
                 ·replace c42 := Bool.eq_false_iff.mpr c42
                  subst c42
                  have H1 : (none) = some r := by rw [if_neg (show ¬ (false = true) by decide)] at H; exact H
                  clear H
                  have H := H1
                  clear H1
                  exact absurd H (by simp)
                ·replace c40 := Bool.eq_false_iff.mpr c40
                 subst c40
                 have H1 : (none) = some r := by rw [if_neg (show ¬ (false = true) by decide)] at H; exact H
                 clear H
                 have H := H1
                 clear H1
                 exact absurd H (by simp)
          ·rw [if_neg c23] at H
           have c23b0 : (x8_20 == 0) = false := beq_eq_false_iff_ne.mpr c23
           have c23b1 : (x8_20 != 0) = true := bne_iff_ne.mpr c23
           by_cases c46 : (t483.length : Int) = 0
           ·rw [if_pos c46] at H
            have c46b0 : ((t483.length : Int) == 0) = true := beq_iff_eq.mpr c46
            have c46b1 : ((t483.length : Int) != 0) = false := bne_eq_false_iff_eq.mpr c46
            clear c46
            by_cases c47 : t484 = x8_20
            ·rw [if_pos c47] at H
             have c47b0 : (t484 == x8_20) = true := beq_iff_eq.mpr c47
             have c47b1 : (t484 != x8_20) = false := bne_eq_false_iff_eq.mpr c47
             clear c47
             replace H := Option.bind_eq_some_iff.mp H
             obtain ⟨t490, A480, H⟩ := H
             replace H : (some t490) = some r := H
             have A48 := A0_ A480
             clear A480
             obtain rfl := Option.some.inj H
             obtain ⟨Ao49, co49, eo49⟩ := Kd.R_slice HO_6.out
             subst eo49
             go_wp2_with (first | (go_at_call 14; (with_reducible refine (cutplanelaw07_known.calls kj20  t490 _ A48.out).mono ?_); rintro e w50 ⟨rfl, hb⟩; have n0_ := A0_ (Kd.R_below (by exact rm_ HO_5.out) hb); have n1_ := A0_ (Kd.R_below (by exact rm_ HO_6.out) hb); have n2_ := A0_ (below_step (qm_ HB.out) hb); clear HO_5 HO_6 HB; have HO_5 := n0_; have HO_6 := n1_; have HB := n2_; clear n0_ n1_ n2_; (try clear hb)))
             go_ret
             exact ⟨by first | rfl | (simp [errW_none, errW_some] <;> rfl) | (simp [*, errW_none, errW_some] <;> rfl), qm_ HB.out⟩
            ·rw [if_neg c47] at H
             exact absurd H (by simp)
           ·rw [if_neg c46] at H
            exact absurd H (by simp)
     ·replace c11 := Bool.eq_false_iff.mpr c11
      subst c11
      have H1 : (none) = some r := by rw [if_neg (show ¬ (false = true) by decide)] at H; exact H
      clear H
      have H := H1
      clear H1
      exact absurd H (by simp)
    ·rw [if_neg c8] at H
     exact absurd H (by simp)
/-- THE ONE PURE STATEMENT of cutplanelaw07_RankSorts: yours. -/
def cutplanelaw07_RankSorts.Pure : Prop := ∀ (a0 : Int) (l1 : List Int), (Lit.int .u8 a0).wf = true → l1.length ≤ maxLen → l1.length * 8 ≤ 140737488351232 → (∀ x ∈ l1, (Lit.int .u64 x).wf = true) → ∃ k, cutplanelaw07_RankSorts.f k a0 l1 = some true
theorem cutplanelaw07_RankSorts.walk (P : cutplanelaw07_RankSorts.Pure) (a0 : Int) (a1 : Option Addr) (len1 cap1 : Nat) (z1 : List Int) (w : World) (w0 : (Lit.int .u8 a0).wf = true) (w1 : (a1 = none ∧ len1 = 0 ∧ cap1 = 0 ∧ z1 = []) ∨ ∃ x, a1 = some x ∧ len1 ≤ cap1 ∧ cap1 ≤ maxLen ∧ z1.length = cap1 ∧ (∀ i, i < z1.length → w.cell? (x.add i) = some (.int .u64 (z1.getD i 0))) ∧ ∀ n ∈ z1, (Lit.int .u64 n).wf = true) (y1 : len1 * 8 ≤ 140737488351232) :
  Calls Try.prog 9 #[.int .u8 a0, .slice a1 len1 cap1] w fun e w' => e = .returned (.bool true) ∧ Below w.heap.size w w' := by
 obtain ⟨l1, rfl, hr1, hm1, hw1, hc1⟩ := ReadsInt.ofRowC w1
 obtain ⟨k, h⟩ := P a0 l1 w0 hm1 y1 hw1
 refine (cutplanelaw07_RankSorts.calls k a0 _ _ l1 true w (Kd.C_of_reads (d := (0 : Int)) (h1 := fun _ => rfl) hr1) hc1 h).mono ?_
 rintro e w' ⟨rfl, hd⟩
 exact ⟨rfl, hd⟩
end
end Go.Proofs.Ytnjdaoeebhbmfaa.PA
end
