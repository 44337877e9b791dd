/- Steps of Go functions that the law SpecialQuotients uses, told as plain Lean functions, each with the proof that its call comes to what it tells; words on memory; plain facts. No condition beyond those that each text names. -/
import Derived.Test.YtlgapmhjaaajfaaGreatProg
import Derived.WalkMore
import Derived.Laws.BitsAllLaws
import Derived.OpenShut
import Derived.Test.YtlgapmhjaaajfaaGreatSSpecialQuotients0
import Derived.Test.YtlgapmhjaaajfaaGreatSSpecialQuotients1
import Derived.Test.YtlgapmhjaaajfaaGreatSSpecialQuotients2
import Derived.Test.YtlgapmhjaaajfaaGreatSSpecialQuotients3
import Derived.Test.YtlgapmhjaaajfaaGreatSSpecialQuotients4
import Derived.Test.YtlgapmhjaaajfaaGreatSSpecialQuotients5
import Derived.Test.YtlgapmhjaaajfaaGreatSSpecialQuotients6
import Derived.Test.YtlgapmhjaaajfaaGreatSSpecialQuotients7
import Derived.Test.YtlgapmhjaaajfaaGreatSSpecialQuotients8
import Derived.Test.YtlgapmhjaaajfaaGreatSSpecialQuotients9
import Derived.Test.YtlgapmhjaaajfaaGreatSSpecialQuotients10
import Derived.Test.YtlgapmhjaaajfaaGreatSSpecialQuotients11
import Derived.Test.YtlgapmhjaaajfaaGreatSSpecialQuotients12
import Derived.Test.YtlgapmhjaaajfaaGreatSSpecialQuotients13
set_option maxHeartbeats 16000000
set_option maxRecDepth 100000
section
namespace Go.Proofs.YtlgapmhjaaajfaaGreat.PA
open Go.RowKit Go.Proofs.YtlgapmhjaaajfaaGreatW.PrintWords Go.Proofs.YtlgapmhjaaajfaaGreatW.PrintLast Go.Proofs.YtlgapmhjaaajfaaGreatW.PrintMore
attribute [local go_sem] max2_int min2_int max_two min_two max_three min_three max_four min_four   -- for this text's walks alone
set_option linter.unusedVariables false
set_option linter.unusedSimpArgs false
attribute [local go_sem high] eqA29
def cutplanelaw11_SpecialQuotients.f (k : Nat) (a0 : Int) (a1 : Int) (a2_0 : Int) (a2_1 : Int) (a3_0 : Int) (a3_1 : Int) : Option (Bool) := (special_Div.f k a0 a1 a2_0 a2_1 a3_0 a3_1).bind fun bt828 => ((cutplanelaw11_opens.f k a0 a1 (([(⟨a2_0, a2_1⟩ : S26), (⟨a3_0, a3_1⟩ : S26)] : List (S26)))).bind fun t838 => (if t838 = 0 then ((cutplaneref11_Div.f k a0 a1 a2_0 a2_1 a3_0 a3_1).bind fun bt839 => (if ((bt828.1 == bt839.1 && (bt828.2.1 == bt839.2.1)) && (bt828.2.2.1 == bt839.2.2.1 && (bt828.2.2.2.1 == bt839.2.2.2.1))) = true then (if (bt828.2.2.2.2.1 == bt839.2.2.2.2) = true then (if bt828.2.2.2.2.2 = 0 then ((cutplanelaw11_known.f k).bind fun t845 => (some t845)) else (none)) else (none)) else (none))) else (if ((bt828.1 == 0 && (bt828.2.1 == 0)) && (bt828.2.2.1 == 0 && (bt828.2.2.2.1 == 0))) = true then (if bt828.2.2.2.2.1 = true then (none) else (if bt828.2.2.2.2.2 = t838 then ((cutplanelaw11_known.f k).bind fun t846 => (some t846)) else (none))) else (none))))
theorem cutplanelaw11_SpecialQuotients.calls (k : Nat) (a0 : Int) (a1 : Int) (a2_0 : Int) (a2_1 : Int) (a3_0 : Int) (a3_1 : Int) (r : Bool) (w : World) (h : cutplanelaw11_SpecialQuotients.f k a0 a1 a2_0 a2_1 a3_0 a3_1 = some r) :
  Calls Tryz.prog 3 #[.int .u8 a0, .int .u8 a1, .agg #[.int .u64 a2_0, .int .u64 a2_1], .agg #[.int .u64 a3_0, .int .u64 a3_1]] w fun e w' => e = .returned (.bool r) ∧ Below w.heap.size w w' := by
 have hu26 := Tryz.underlying26
 have hu29 := Tryz.underlying29
 have HB := A0_ (Below.refl w.heap.size w)
 have H := h
 clear h
 unfold cutplanelaw11_SpecialQuotients.f at H
 obtain ⟨⟨t828, t829, t830, t831, t832, t833⟩, A5, H⟩ := bs_ H
 try dsimp -simprocs only at H
 obtain ⟨y835, hy835⟩ : ∃ y_ : List (S26), y_ = (([(⟨a2_0, a2_1⟩ : S26), (⟨a3_0, a3_1⟩ : S26)] : List (S26))) := ⟨_, rfl⟩
 replace H : ((cutplanelaw11_opens.f k a0 a1 y835).bind fun t838 => (if t838 = 0 then ((cutplaneref11_Div.f k a0 a1 a2_0 a2_1 a3_0 a3_1).bind fun bt839 => (if ((t828 == bt839.1 && (t829 == bt839.2.1)) && (t830 == bt839.2.2.1 && (t831 == bt839.2.2.2.1))) = true then (if (t832 == bt839.2.2.2.2) = true then (if t833 = 0 then ((cutplanelaw11_known.f k).bind fun t845 => (some t845)) else (none)) else (none)) else (none))) else (if ((t828 == 0 && (t829 == 0)) && (t830 == 0 && (t831 == 0))) = true then (if t832 = true then (none) else (if t833 = t838 then ((cutplanelaw11_known.f k).bind fun t846 => (some t846)) else (none))) else (none)))) = some r := by first | (rw [hy835]; with_reducible exact H) | (have H2_ := (Option.bind_some _ _).symm.trans H; rw [hy835]; with_reducible exact H2_) | (have H2_ := (Option.bind_some _ _).symm.trans H; with_reducible exact H2_) | with_reducible exact H | (rw [hy835]; exact H) | exact H
 have Ny835 := A0_ hy835
 clear hy835
 obtain ⟨t838, A6, H⟩ := bs_ H
 try dsimp -simprocs only at H
 by_cases c7 : t838 = 0
 ·rw [if_pos c7] at H
  have c7b0 : (t838 == 0) = true := beq_iff_eq.mpr c7
  have c7b1 : (t838 != 0) = false := bne_eq_false_iff_eq.mpr c7
  clear c7
  obtain ⟨⟨t839, t840, t841, t842, t843⟩, A8, H⟩ := bs_ H
  try dsimp -simprocs only at H
  obtain ⟨c9, H⟩ := ic_ H
  have c9b0 : ((t828 == t839 && (t829 == t840)) && (t830 == t841 && (t831 == t842))) = true := c9
  clear c9
  obtain ⟨c10, H⟩ := ic_ H
  have c10b0 : (t832 == t843) = true := c10
  (try (have c10b1 : decide (t832 = t843) = true := by simpa using c10))
  (try (have c10b2 : (t832 == t843) = true := by simpa using c10))
  clear c10
  obtain ⟨c11, H⟩ := ic_ H
  have c11b0 : (t833 == 0) = true := beq_iff_eq.mpr c11
  have c11b1 : (t833 != 0) = false := bne_eq_false_iff_eq.mpr c11
  clear c11
  obtain ⟨t845, A12, H⟩ := bs_ H
  try dsimp -simprocs only at H
  obtain rfl := Option.some.inj H
  go_enter Tryz.func3, Tryz.ntmps3
  go_wp2_with (first | ((with_reducible refine gate_dst (N := 6) rfl ?_); refine box_event ?hg (N := 6) ?hd (cs := #[.int .u64 a2_0, .int .u64 a2_1]) (t := 26) ?hr ?_; (case hd => rfl); (case hg => rfl); (case hr => first | (go_simp; done) | (go_simp; rfl)); intro gb826 hg w13 hbox hb; have BK826 := A0_ (hbox); have GW826 := A0_ ((by rw [hg]; exact (below_size (qm_ HB.out)) : w.heap.size ≤ gb826)); have GE826 := GW826; replace HB := hs_ hb; clear hb hbox hg) | ((with_reducible refine gate_dst (N := 7) rfl ?_); refine box_event ?hg (N := 7) ?hd (cs := #[.int .u64 a3_0, .int .u64 a3_1]) (t := 26) ?hr ?_; (case hd => rfl); (case hg => rfl); (case hr => first | (go_simp; done) | (go_simp; rfl)); intro gb827 hg w14 hbox hb; have BK827 := A0_ (hbox); have GW827 := A0_ ((by rw [hg]; exact (below_size qz_) : w.heap.size ≤ gb827)); have GE827 := GW827; replace HB := hs_ hb; have NB826_827 := nl_ hg BK826; have NB827_826 := ng_ hg BK826; replace BK826 := bb_ BK826 hb; clear hb hbox hg; have hnb15 := NB826_827.out; have hnc15 := NB827_826.out; have hcz16 := bc2_ BK826.out; have hfz16 := bf2_ BK826.out; have hcz17 := bc2_ BK827.out; have hfz17 := bf2_ BK827.out) | ((with_reducible refine gate_callee (f := 4) rfl ?_); refine goesL_ (some 20) rfl rfl Tryz.func4 (by kernel_rfl) rfl #[.int .u8 a0, .int .u8 a1, .agg #[.int .u64 a2_0, .int .u64 a2_1], .agg #[.int .u64 a3_0, .int .u64 a3_1]] rfl (am_ rfl) ?_; (with_reducible refine (special_Div.calls k a0 a1 a2_0 a2_1 a3_0 a3_1 t828 t829 t830 t831 t832 t833 _ A5.out).mono ?_); rintro e w18 ⟨rfl, hb⟩; refine ⟨_, rfl, ?_⟩; replace BK826 := bb_ BK826 hb; replace BK827 := bb_ BK827 hb; replace HB := hs_ hb; (try clear hb)) | ((with_reducible refine gate_dst (N := 9) rfl ?_); refine box_event ?hg (N := 9) ?hd (cs := #[.int .u64 0, .int .u64 0, .int .u8 0, .int .u8 0]) (t := 29) ?hr ?_; (case hd => rfl); (case hg => rfl); (case hr => first | (go_simp; done) | (go_simp; rfl)); intro gb834 hg w19 hbox hb; have BK834 := A0_ (hbox); have GW834 := A0_ ((by rw [hg]; exact (below_size qz_) : w.heap.size ≤ gb834)); have GE834 := GW834; replace HB := hs_ hb; have NB826_834 := nl_ hg BK826; have NB834_826 := ng_ hg BK826; replace BK826 := bb_ BK826 hb; have NB827_834 := nl_ hg BK827; have NB834_827 := ng_ hg BK827; replace BK827 := bb_ BK827 hb; clear hb hbox hg; have hnb20 := NB834_826.out; have hnc20 := NB826_834.out; have hnb21 := NB834_827.out; have hnc21 := NB827_834.out; have hcz22 := bc4_ BK834.out; have hfz22 := bf4_ BK834.out; have hcz23 := bc2_ BK826.out; have hfz23 := bf2_ BK826.out; have hcz24 := bc2_ BK827.out; have hfz24 := bf2_ BK827.out) | ((with_reducible refine gate_dst (N := 28) rfl ?_); refine Kd.R_lit k26 _ 26 ?hg (N := 28) ?hd (xs := ([(⟨a2_0, a2_1⟩ : S26), (⟨a3_0, a3_1⟩ : S26)] : List (S26))) (inner := [.int .u64 a2_0, .int .u64 a2_1, .int .u64 a3_0, .int .u64 a3_1]) (ok := fun _ => True) (okp := fun _ => True) ?hr ?hp (fun _ hk => hk) trivial (Below.refl _ _) (Nat.le_refl _) (by simp) ?_; (case hd => rfl); (case hg => rfl); (case hr => first | (go_simp; done) | (go_simp; rfl)); (case hp => exact (Reps.c2 (show Kd.M k26 _ _ _ (⟨a2_0, a2_1⟩ : S26) [.int .u64 a2_0, .int .u64 a2_1] from (k26_mkM _ _ _ (⟨a2_0, a2_1⟩ : S26) )) (Reps.c2 (show Kd.M k26 _ _ _ (⟨a3_0, a3_1⟩ : S26) [.int .u64 a3_0, .int .u64 a3_1] from (k26_mkM _ _ _ (⟨a3_0, a3_1⟩ : S26) )) (Reps.none _ _)))); intro v836 w25 ho26 hb hg_ hnew_; clear hg_ hnew_; (first | rw [← Ny835.out] at ho26 | (simp only [Int.reduceToNat] at ho26; rw [← Ny835.out] at ho26)); have HO837 := A0_ (Kd.R_lower (Kd.R_newB (Kd.R_newB ho26 (g := gb826) (o := .cells #[.int .u64 a2_0, .int .u64 a2_1] 26 (0, 0)) (by (with_reducible repeat first | apply bN_ | apply bD_ | apply bA_); refine blk_far ?_ NB826_834.out _; refine blk_far ?_ NB826_834.out _; refine blk_far ?_ NB826_834.out _; refine blk_far ?_ NB826_834.out _; exact bm_ BK826.out)) (g := gb827) (o := .cells #[.int .u64 a3_0, .int .u64 a3_1] 26 (0, 0)) (by (with_reducible repeat first | apply bN_ | apply bD_ | apply bA_); refine blk_far ?_ NB827_834.out _; refine blk_far ?_ NB827_834.out _; refine blk_far ?_ NB827_834.out _; refine blk_far ?_ NB827_834.out _; exact bm_ BK827.out)) (below_size qz_)); replace BK826 := A0_ (blk_below (g := gb826) (o := .cells #[.int .u64 a2_0, .int .u64 a2_1] 26 (0, 0)) (by (with_reducible repeat first | apply bN_ | apply bD_ | apply bA_); refine blk_far ?_ NB826_834.out _; refine blk_far ?_ NB826_834.out _; refine blk_far ?_ NB826_834.out _; refine blk_far ?_ NB826_834.out _; exact bm_ BK826.out) hb); replace BK827 := A0_ (blk_below (g := gb827) (o := .cells #[.int .u64 a3_0, .int .u64 a3_1] 26 (0, 0)) (by (with_reducible repeat first | apply bN_ | apply bD_ | apply bA_); refine blk_far ?_ NB827_834.out _; refine blk_far ?_ NB827_834.out _; refine blk_far ?_ NB827_834.out _; refine blk_far ?_ NB827_834.out _; exact bm_ BK827.out) hb); replace BK834 := A0_ (blk_below (g := gb834) (o := .cells #[.int .u64 t828, .int .u64 t829, .int .u8 t830, .int .u8 t831] 29 (0, 0)) (by (with_reducible repeat first | apply bN_ | apply bD_ | apply bA_); refine blk_put (cs := #[.int .u64 t828, .int .u64 t829, .int .u8 t830, .int .u8 0]) ?_ 3 _ rfl; refine blk_put (cs := #[.int .u64 t828, .int .u64 t829, .int .u8 0, .int .u8 0]) ?_ 2 _ rfl; refine blk_put (cs := #[.int .u64 t828, .int .u64 0, .int .u8 0, .int .u8 0]) ?_ 1 _ rfl; refine blk_put (cs := #[.int .u64 0, .int .u64 0, .int .u8 0, .int .u8 0]) ?_ 0 _ rfl; exact bm_ BK834.out) hb); replace HB := hs_ hb; clear hb ho26; obtain ⟨Ao27, co27, eo27⟩ := Kd.R_slice HO837.out; subst eo27) | ((with_reducible refine gate_callee (f := 5) rfl ?_); refine goesL_ (some 29) rfl rfl Tryz.func5 (by kernel_rfl) rfl #[.int .u8 a0, .int .u8 a1, .slice Ao27 y835.length co27] rfl (am_ rfl) ?_; (with_reducible refine (cutplanelaw11_opens.calls k a0 a1 _ _ y835 t838 _ ?side1 ?side2 A6.out).mono ?_); (case side1 => repeat (first | exact (Kd.R_reads' HO837.out).2.2 | (with_reducible refine Kd.C_alloc ?_ _) | (with_reducible refine Kd.C_drewN ?_ _) | (with_reducible refine Kd.C_drew ?_))); (case side2 => exact (Kd.R_reads' HO837.out).2.1); rintro e w' ⟨rfl, ⟨nd, rfl⟩⟩; refine ⟨_, rfl, ?_⟩; (try (rw [drewN_self w25]; generalize hq_ : World.drewN w25 _ = w25; have n0_ : Aside0 (Kd.R k26 26 w25 w.heap.size (fun k_ => k_ ≠ gb826 ∧ k_ ≠ gb827) (.slice Ao27 y835.length co27) y835) := ⟨by rw [← hq_]; exact (by (with_reducible repeat (first | apply Kd.R_alloc | apply Kd.R_drewN | apply Kd.R_drew)); exact Kd.R_mono HO837.out (fun _ hk => by first | exact ⟨hk.1.2, hk.2⟩ | (refine ⟨?_, ?_⟩ <;> first | exact hk.1 | exact hk.2 | exact hk.1.1 | exact hk.1.2 | exact hk.2.1 | exact hk.2.2 | exact hk.1.1.1 | exact hk.1.1.2 | exact hk.1.2.1 | exact hk.1.2.2 | exact hk.2.1.1 | exact hk.2.1.2 | exact hk.2.2.1 | exact hk.2.2.2 | exact hk.1.1.1.1 | exact hk.1.1.1.2 | exact hk.1.1.2.1 | exact hk.1.1.2.2 | exact hk.1.2.1.1 | exact hk.1.2.1.2 | exact hk.1.2.2.1 | exact hk.1.2.2.2 | exact hk.2.1.1.1 | exact hk.2.1.1.2 | exact hk.2.1.2.1 | exact hk.2.1.2.2 | exact hk.2.2.1.1 | exact hk.2.2.1.2 | exact hk.2.2.2.1 | exact hk.2.2.2.2 | exact hk.1.1.1.1.1 | exact hk.1.1.1.1.2 | exact hk.1.1.1.1.1.1 | exact hk.1.1.1.1.1.2 | exact hk.1.1.1.1.1.1.1 | exact hk.1.1.1.1.1.1.2 | exact hk.1.1.1.1.1.1.1.1 | exact hk.1.1.1.1.1.1.1.2 | exact hk.1.1.1.1.1.1.1.1.1 | exact hk.1.1.1.1.1.1.1.1.2 | exact hk.1.1.1.1.1.1.1.1.1.1 | exact hk.1.1.1.1.1.1.1.1.1.2 | exact hk.1.1.1.1.1.1.1.1.1.1.1 | exact hk.1.1.1.1.1.1.1.1.1.1.2 | exact hk.1.1.1.1.1.1.1.1.1.1.1.1 | exact hk.1.1.1.1.1.1.1.1.1.1.1.2)))⟩; have n1_ : Aside0 (w25.heap[gb826]? = some (.cells #[.int .u64 a2_0, .int .u64 a2_1] 26 (0, 0))) := ⟨by rw [← hq_]; exact (bm_ BK826.out)⟩; have n2_ : Aside0 (w25.heap[gb827]? = some (.cells #[.int .u64 a3_0, .int .u64 a3_1] 26 (0, 0))) := ⟨by rw [← hq_]; exact (bm_ BK827.out)⟩; have n3_ : Aside0 (w25.heap[gb834]? = some (.cells #[.int .u64 t828, .int .u64 t829, .int .u8 t830, .int .u8 t831] 29 (0, 0))) := ⟨by rw [← hq_]; exact (bm_ BK834.out)⟩; have n4_ : Aside0 (Below w.heap.size w w25) := ⟨by rw [← hq_]; exact qz_⟩; clear HO837 BK826 BK827 BK834 HB hq_; have HO837 := n0_; have BK826 := n1_; have BK827 := n2_; have BK834 := n3_; have HB := n4_; clear n0_ n1_ n2_ n3_ n4_)); have hcz28 := bc2_ BK826.out; have hfz28 := bf2_ BK826.out; have hcz29 := bc2_ BK827.out; have hfz29 := bf2_ BK827.out) | ((with_reducible refine gate_callee (f := 7) rfl ?_); refine goesL_ (some 52) rfl rfl Tryz.func7 (by kernel_rfl) rfl #[.int .u8 a0, .int .u8 a1, .agg #[.int .u64 a2_0, .int .u64 a2_1], .agg #[.int .u64 a3_0, .int .u64 a3_1]] rfl (am_ rfl) ?_; (with_reducible refine (cutplaneref11_Div.calls k a0 a1 a2_0 a2_1 a3_0 a3_1 t839 t840 t841 t842 t843 _ A8.out).mono ?_); rintro e w30 ⟨rfl, hb⟩; refine ⟨_, rfl, ?_⟩; replace HO837 := A0_ (Kd.R_below (by exact rm_ HO837.out) hb); replace BK826 := bb_ BK826 hb; replace BK827 := bb_ BK827 hb; replace BK834 := bb_ BK834 hb; replace HB := hs_ hb; (try clear hb)) | ((with_reducible refine gate_dst (N := 13) rfl ?_); refine box_event ?hg (N := 13) ?hd (cs := #[.int .u64 0, .int .u64 0, .int .u8 0, .int .u8 0]) (t := 29) ?hr ?_; (case hd => rfl); (case hg => rfl); (case hr => first | (go_simp; done) | (go_simp; rfl)); intro gb844 hg w31 hbox hb; replace HO837 := A0_ (Kd.R_below (by exact rm_ HO837.out) hb); have BK844 := A0_ (hbox); have GW844 := A0_ ((by rw [hg]; exact (below_size qz_) : w.heap.size ≤ gb844)); have GE844 := GW844; replace HB := hs_ hb; have NB826_844 := nl_ hg BK826; have NB844_826 := ng_ hg BK826; replace BK826 := bb_ BK826 hb; have NB827_844 := nl_ hg BK827; have NB844_827 := ng_ hg BK827; replace BK827 := bb_ BK827 hb; have NB834_844 := nl_ hg BK834; have NB844_834 := ng_ hg BK834; replace BK834 := bb_ BK834 hb; clear hb hbox hg; have hnb32 := NB844_826.out; have hnc32 := NB826_844.out; have hnb33 := NB844_827.out; have hnc33 := NB827_844.out; have hnb34 := NB844_834.out; have hnc34 := NB834_844.out; have hcz35 := bc4_ BK844.out; have hfz35 := bf4_ BK844.out; have hcz36 := bc4_ BK834.out; have hfz36 := bf4_ BK834.out) | (go_at_call 6; (with_reducible refine (cutplanelaw11_known.calls k  t845 _ A12.out).mono ?_); rintro e w37 ⟨rfl, hb⟩; replace HO837 := A0_ (Kd.R_below (by (with_reducible repeat (first | apply Kd.R_alloc | apply Kd.R_drewN | apply Kd.R_drew)); exact (Kd.R_mono (Kd.R_far (p := ⟨gb844, 3, none⟩) (Kd.R_far (p := ⟨gb844, 2, none⟩) (Kd.R_far (p := ⟨gb844, 1, none⟩) (Kd.R_far (p := ⟨gb844, 0, none⟩) (Kd.R_types HO837.out BK844.out (by decide)) (fun _ hk => hk.2) (.int .u64 t839)) (fun _ hk => hk.2) (.int .u64 t840)) (fun _ hk => hk.2) (.int .u8 t841)) (fun _ hk => hk.2) (.int .u8 t842)) (fun _ h_ => h_.1))) hb); replace BK826 := A0_ (blk_below (g := gb826) (o := .cells #[.int .u64 a2_0, .int .u64 a2_1] 26 (0, 0)) (by (with_reducible repeat first | apply bN_ | apply bD_ | apply bA_); refine blk_far ?_ NB826_844.out _; (with_reducible repeat first | apply bN_ | apply bD_ | apply bA_); refine blk_far ?_ NB826_844.out _; (with_reducible repeat first | apply bN_ | apply bD_ | apply bA_); refine blk_far ?_ NB826_844.out _; (with_reducible repeat first | apply bN_ | apply bD_ | apply bA_); refine blk_far ?_ NB826_844.out _; exact bm_ BK826.out) hb); replace BK827 := A0_ (blk_below (g := gb827) (o := .cells #[.int .u64 a3_0, .int .u64 a3_1] 26 (0, 0)) (by (with_reducible repeat first | apply bN_ | apply bD_ | apply bA_); refine blk_far ?_ NB827_844.out _; (with_reducible repeat first | apply bN_ | apply bD_ | apply bA_); refine blk_far ?_ NB827_844.out _; (with_reducible repeat first | apply bN_ | apply bD_ | apply bA_); refine blk_far ?_ NB827_844.out _; (with_reducible repeat first | apply bN_ | apply bD_ | apply bA_); refine blk_far ?_ NB827_844.out _; exact bm_ BK827.out) hb); replace BK834 := A0_ (blk_below (g := gb834) (o := .cells #[.int .u64 t828, .int .u64 t829, .int .u8 t830, .int .u8 t831] 29 (0, 0)) (by (with_reducible repeat first | apply bN_ | apply bD_ | apply bA_); refine blk_far ?_ NB834_844.out _; (with_reducible repeat first | apply bN_ | apply bD_ | apply bA_); refine blk_far ?_ NB834_844.out _; (with_reducible repeat first | apply bN_ | apply bD_ | apply bA_); refine blk_far ?_ NB834_844.out _; (with_reducible repeat first | apply bN_ | apply bD_ | apply bA_); refine blk_far ?_ NB834_844.out _; exact bm_ BK834.out) hb); replace BK844 := A0_ (blk_below (g := gb844) (o := .cells #[.int .u64 t839, .int .u64 t840, .int .u8 t841, .int .u8 t842] 29 (0, 0)) (by (with_reducible repeat first | apply bN_ | apply bD_ | apply bA_); refine blk_put (cs := #[.int .u64 t839, .int .u64 t840, .int .u8 t841, .int .u8 0]) ?_ 3 _ rfl; refine blk_put (cs := #[.int .u64 t839, .int .u64 t840, .int .u8 0, .int .u8 0]) ?_ 2 _ rfl; refine blk_put (cs := #[.int .u64 t839, .int .u64 0, .int .u8 0, .int .u8 0]) ?_ 1 _ rfl; refine blk_put (cs := #[.int .u64 0, .int .u64 0, .int .u8 0, .int .u8 0]) ?_ 0 _ rfl; exact bm_ BK844.out) hb); replace HB := hs_ hb; (try clear hb)))
  go_ret
  exact ⟨by first | rfl | (simp [errW_none, errW_some] <;> rfl) | (simp [*, errW_none, errW_some] <;> rfl), qz_⟩
 ·rw [if_neg c7] at H
  have c7b0 : (t838 == 0) = false := beq_eq_false_iff_ne.mpr c7
  have c7b1 : (t838 != 0) = true := bne_iff_ne.mpr c7
  obtain ⟨c38, H⟩ := ic_ H
  have c38b0 : ((t828 == 0 && (t829 == 0)) && (t830 == 0 && (t831 == 0))) = true := c38
  clear c38
  by_cases c39 : t832 = true
  ·subst c39
   rw [if_pos rfl] at H
   exact absurd H (by simp)
  ·replace c39 := Bool.eq_false_iff.mpr c39
   subst c39
   rw [if_neg (show ¬ (false = true) by decide)] at H
   obtain ⟨c40, H⟩ := ic_ H
   have c40b0 : (t833 == t838) = true := beq_iff_eq.mpr c40
   have c40b1 : (t833 != t838) = false := bne_eq_false_iff_eq.mpr c40
   clear c40
   obtain ⟨t846, A41, H⟩ := bs_ H
   try dsimp -simprocs only at H
   obtain rfl := Option.some.inj H
   go_enter Tryz.func3, Tryz.ntmps3
   go_wp2_with (first | ((with_reducible refine gate_dst (N := 6) rfl ?_); refine box_event ?hg (N := 6) ?hd (cs := #[.int .u64 a2_0, .int .u64 a2_1]) (t := 26) ?hr ?_; (case hd => rfl); (case hg => rfl); (case hr => first | (go_simp; done) | (go_simp; rfl)); intro gb826 hg w42 hbox hb; have BK826 := A0_ (hbox); have GW826 := A0_ ((by rw [hg]; exact (below_size (qm_ HB.out)) : w.heap.size ≤ gb826)); have GE826 := GW826; replace HB := hs_ hb; clear hb hbox hg) | ((with_reducible refine gate_dst (N := 7) rfl ?_); refine box_event ?hg (N := 7) ?hd (cs := #[.int .u64 a3_0, .int .u64 a3_1]) (t := 26) ?hr ?_; (case hd => rfl); (case hg => rfl); (case hr => first | (go_simp; done) | (go_simp; rfl)); intro gb827 hg w43 hbox hb; have BK827 := A0_ (hbox); have GW827 := A0_ ((by rw [hg]; exact (below_size qz_) : w.heap.size ≤ gb827)); have GE827 := GW827; replace HB := hs_ hb; have NB826_827 := nl_ hg BK826; have NB827_826 := ng_ hg BK826; replace BK826 := bb_ BK826 hb; clear hb hbox hg; have hnb44 := NB826_827.out; have hnc44 := NB827_826.out; have hcz45 := bc2_ BK826.out; have hfz45 := bf2_ BK826.out; have hcz46 := bc2_ BK827.out; have hfz46 := bf2_ BK827.out) | ((with_reducible refine gate_callee (f := 4) rfl ?_); refine goesL_ (some 20) rfl rfl Tryz.func4 (by kernel_rfl) rfl #[.int .u8 a0, .int .u8 a1, .agg #[.int .u64 a2_0, .int .u64 a2_1], .agg #[.int .u64 a3_0, .int .u64 a3_1]] rfl (am_ rfl) ?_; (with_reducible refine (special_Div.calls k a0 a1 a2_0 a2_1 a3_0 a3_1 t828 t829 t830 t831 false t833 _ A5.out).mono ?_); rintro e w47 ⟨rfl, hb⟩; refine ⟨_, rfl, ?_⟩; replace BK826 := bb_ BK826 hb; replace BK827 := bb_ BK827 hb; replace HB := hs_ hb; (try clear hb)) | ((with_reducible refine gate_dst (N := 9) rfl ?_); refine box_event ?hg (N := 9) ?hd (cs := #[.int .u64 0, .int .u64 0, .int .u8 0, .int .u8 0]) (t := 29) ?hr ?_; (case hd => rfl); (case hg => rfl); (case hr => first | (go_simp; done) | (go_simp; rfl)); intro gb834 hg w48 hbox hb; have BK834 := A0_ (hbox); have GW834 := A0_ ((by rw [hg]; exact (below_size qz_) : w.heap.size ≤ gb834)); have GE834 := GW834; replace HB := hs_ hb; have NB826_834 := nl_ hg BK826; have NB834_826 := ng_ hg BK826; replace BK826 := bb_ BK826 hb; have NB827_834 := nl_ hg BK827; have NB834_827 := ng_ hg BK827; replace BK827 := bb_ BK827 hb; clear hb hbox hg; have hnb49 := NB834_826.out; have hnc49 := NB826_834.out; have hnb50 := NB834_827.out; have hnc50 := NB827_834.out; have hcz51 := bc4_ BK834.out; have hfz51 := bf4_ BK834.out; have hcz52 := bc2_ BK826.out; have hfz52 := bf2_ BK826.out; have hcz53 := bc2_ BK827.out; have hfz53 := bf2_ BK827.out) | ((with_reducible refine gate_dst (N := 28) rfl ?_); refine Kd.R_lit k26 _ 26 ?hg (N := 28) ?hd (xs := ([(⟨a2_0, a2_1⟩ : S26), (⟨a3_0, a3_1⟩ : S26)] : List (S26))) (inner := [.int .u64 a2_0, .int .u64 a2_1, .int .u64 a3_0, .int .u64 a3_1]) (ok := fun _ => True) (okp := fun _ => True) ?hr ?hp (fun _ hk => hk) trivial (Below.refl _ _) (Nat.le_refl _) (by simp) ?_; (case hd => rfl); (case hg => rfl); (case hr => first | (go_simp; done) | (go_simp; rfl)); (case hp => exact (Reps.c2 (show Kd.M k26 _ _ _ (⟨a2_0, a2_1⟩ : S26) [.int .u64 a2_0, .int .u64 a2_1] from (k26_mkM _ _ _ (⟨a2_0, a2_1⟩ : S26) )) (Reps.c2 (show Kd.M k26 _ _ _ (⟨a3_0, a3_1⟩ : S26) [.int .u64 a3_0, .int .u64 a3_1] from (k26_mkM _ _ _ (⟨a3_0, a3_1⟩ : S26) )) (Reps.none _ _)))); intro v836 w54 ho55 hb hg_ hnew_; clear hg_ hnew_; (first | rw [← Ny835.out] at ho55 | (simp only [Int.reduceToNat] at ho55; rw [← Ny835.out] at ho55)); have HO837 := A0_ (Kd.R_lower (Kd.R_newB (Kd.R_newB ho55 (g := gb826) (o := .cells #[.int .u64 a2_0, .int .u64 a2_1] 26 (0, 0)) (by (with_reducible repeat first | apply bN_ | apply bD_ | apply bA_); refine blk_far ?_ NB826_834.out _; refine blk_far ?_ NB826_834.out _; refine blk_far ?_ NB826_834.out _; refine blk_far ?_ NB826_834.out _; exact bm_ BK826.out)) (g := gb827) (o := .cells #[.int .u64 a3_0, .int .u64 a3_1] 26 (0, 0)) (by (with_reducible repeat first | apply bN_ | apply bD_ | apply bA_); refine blk_far ?_ NB827_834.out _; refine blk_far ?_ NB827_834.out _; refine blk_far ?_ NB827_834.out _; refine blk_far ?_ NB827_834.out _; exact bm_ BK827.out)) (below_size qz_)); replace BK826 := A0_ (blk_below (g := gb826) (o := .cells #[.int .u64 a2_0, .int .u64 a2_1] 26 (0, 0)) (by (with_reducible repeat first | apply bN_ | apply bD_ | apply bA_); refine blk_far ?_ NB826_834.out _; refine blk_far ?_ NB826_834.out _; refine blk_far ?_ NB826_834.out _; refine blk_far ?_ NB826_834.out _; exact bm_ BK826.out) hb); replace BK827 := A0_ (blk_below (g := gb827) (o := .cells #[.int .u64 a3_0, .int .u64 a3_1] 26 (0, 0)) (by (with_reducible repeat first | apply bN_ | apply bD_ | apply bA_); refine blk_far ?_ NB827_834.out _; refine blk_far ?_ NB827_834.out _; refine blk_far ?_ NB827_834.out _; refine blk_far ?_ NB827_834.out _; exact bm_ BK827.out) hb); replace BK834 := A0_ (blk_below (g := gb834) (o := .cells #[.int .u64 t828, .int .u64 t829, .int .u8 t830, .int .u8 t831] 29 (0, 0)) (by (with_reducible repeat first | apply bN_ | apply bD_ | apply bA_); refine blk_put (cs := #[.int .u64 t828, .int .u64 t829, .int .u8 t830, .int .u8 0]) ?_ 3 _ rfl; refine blk_put (cs := #[.int .u64 t828, .int .u64 t829, .int .u8 0, .int .u8 0]) ?_ 2 _ rfl; refine blk_put (cs := #[.int .u64 t828, .int .u64 0, .int .u8 0, .int .u8 0]) ?_ 1 _ rfl; refine blk_put (cs := #[.int .u64 0, .int .u64 0, .int .u8 0, .int .u8 0]) ?_ 0 _ rfl; exact bm_ BK834.out) hb); replace HB := hs_ hb; clear hb ho55; obtain ⟨Ao56, co56, eo56⟩ := Kd.R_slice HO837.out; subst eo56) | ((with_reducible refine gate_callee (f := 5) rfl ?_); refine goesL_ (some 29) rfl rfl Tryz.func5 (by kernel_rfl) rfl #[.int .u8 a0, .int .u8 a1, .slice Ao56 y835.length co56] rfl (am_ rfl) ?_; (with_reducible refine (cutplanelaw11_opens.calls k a0 a1 _ _ y835 t838 _ ?side1 ?side2 A6.out).mono ?_); (case side1 => repeat (first | exact (Kd.R_reads' HO837.out).2.2 | (with_reducible refine Kd.C_alloc ?_ _) | (with_reducible refine Kd.C_drewN ?_ _) | (with_reducible refine Kd.C_drew ?_))); (case side2 => exact (Kd.R_reads' HO837.out).2.1); rintro e w' ⟨rfl, ⟨nd, rfl⟩⟩; refine ⟨_, rfl, ?_⟩; have hcz57 := bc4_ BK834.out; have hfz57 := bf4_ BK834.out) | (go_at_call 6; (with_reducible refine (cutplanelaw11_known.calls k  t846 _ A41.out).mono ?_); rintro e w58 ⟨rfl, hb⟩; replace HO837 := A0_ (Kd.R_below (by exact rm_ HO837.out) hb); replace BK826 := bb_ BK826 hb; replace BK827 := bb_ BK827 hb; replace BK834 := bb_ BK834 hb; replace HB := hs_ hb; (try clear hb)))
   go_ret
   exact ⟨by first | rfl | (simp [errW_none, errW_some] <;> rfl) | (simp [*, errW_none, errW_some] <;> rfl), qz_⟩
/-- THE ONE PURE STATEMENT of cutplanelaw11_SpecialQuotients: yours. -/
def cutplanelaw11_SpecialQuotients.Pure : Prop := ∀ (a0 : Int) (a1 : Int) (a2_0 : Int) (a2_1 : Int) (a3_0 : Int) (a3_1 : Int), (Lit.int .u8 a0).wf = true → (Lit.int .u8 a1).wf = true → (Lit.int .u64 a2_0).wf = true → (Lit.int .u64 a2_1).wf = true → (Lit.int .u64 a3_0).wf = true → (Lit.int .u64 a3_1).wf = true → ∃ k, cutplanelaw11_SpecialQuotients.f k a0 a1 a2_0 a2_1 a3_0 a3_1 = some true
theorem cutplanelaw11_SpecialQuotients.walk (P : cutplanelaw11_SpecialQuotients.Pure) (a0 : Int) (a1 : Int) (a2_0 : Int) (a2_1 : Int) (a3_0 : Int) (a3_1 : Int) (w : World) (w0 : (Lit.int .u8 a0).wf = true) (w1 : (Lit.int .u8 a1).wf = true) (w2_0 : (Lit.int .u64 a2_0).wf = true) (w2_1 : (Lit.int .u64 a2_1).wf = true) (w3_0 : (Lit.int .u64 a3_0).wf = true) (w3_1 : (Lit.int .u64 a3_1).wf = true) :
  Calls Tryz.prog 3 #[.int .u8 a0, .int .u8 a1, .agg #[.int .u64 a2_0, .int .u64 a2_1], .agg #[.int .u64 a3_0, .int .u64 a3_1]] w fun e w' => e = .returned (.bool true) ∧ Below w.heap.size w w' := by
 obtain ⟨k, h⟩ := P a0 a1 a2_0 a2_1 a3_0 a3_1 w0 w1 w2_0 w2_1 w3_0 w3_1
 refine (cutplanelaw11_SpecialQuotients.calls k a0 a1 a2_0 a2_1 a3_0 a3_1 true w h).mono ?_
 rintro e w' ⟨rfl, hd⟩
 exact ⟨rfl, hd⟩
end Go.Proofs.YtlgapmhjaaajfaaGreat.PA
end

section
namespace Go.Proofs.YtlgapmhjaaajfaaGreat.Wd
open Go
theorem nat_and_lt {n a : Nat} (h : a < 2 ^ n) : a &&& 2 ^ n = 0 := by
  apply Nat.eq_of_testBit_eq
  intro i
  rw [Nat.testBit_and, Nat.testBit_two_pow, Nat.zero_testBit]
  by_cases e : n = i
  · subst e; simp [Nat.testBit_lt_two_pow h]
  · simp [e]
theorem nat_and_ge {n l : Nat} (h : l < 2 ^ n) : (2 ^ n + l) &&& 2 ^ n = 2 ^ n := by
  apply Nat.eq_of_testBit_eq
  intro i
  rw [Nat.testBit_and, Nat.testBit_two_pow]
  by_cases e : n = i
  · subst e; rw [Nat.testBit_two_pow_add_eq, Nat.testBit_lt_two_pow h]; simp
  · simp [e]
theorem nat_or_lt {n a : Nat} (h : a < 2 ^ n) : a ||| 2 ^ n = 2 ^ n + a := by
  have := Nat.two_pow_add_eq_or_of_lt h 1
  rw [Nat.mul_one] at this
  rw [this, Nat.or_comm]
theorem nat_xor_lt {n a : Nat} (h : a < 2 ^ n) : a ^^^ 2 ^ n = 2 ^ n + a := by
  rw [← nat_or_lt h]
  apply Nat.eq_of_testBit_eq
  intro i
  rw [Nat.testBit_xor, Nat.testBit_or, Nat.testBit_two_pow]
  by_cases e : n = i
  · subst e; simp [Nat.testBit_lt_two_pow h]
  · simp [e]
theorem nat_xor_ge {n l : Nat} (h : l < 2 ^ n) : (2 ^ n + l) ^^^ 2 ^ n = l := by
  rw [← nat_xor_lt h, Nat.xor_assoc, Nat.xor_self, Nat.xor_zero]
theorem nat_mask {n a : Nat} (hn : n ≤ 63) (h : a < 2 ^ (n + 1)) : a &&& (2 ^ 64 - (2 ^ n + 1)) = a % 2 ^ n := by
  apply Nat.eq_of_testBit_eq
  intro i
  rw [Nat.testBit_and, Nat.testBit_mod_two_pow, Nat.testBit_two_pow_sub_succ (by exact Nat.pow_lt_pow_right (by decide) (by omega)), Nat.testBit_two_pow]
  by_cases e : i < n
  · simp [e, show n ≠ i by omega, show i < 64 by omega]
  · by_cases e2 : n = i
    · subst e2; simp
    · have : a.testBit i = false := Nat.testBit_lt_two_pow (Nat.lt_of_lt_of_le h (Nat.pow_le_pow_right (by decide) (by omega)))
      simp [this]
section
variable {w : Int}
theorem andNot31 (h0 : 0 ≤ w) (h1 : w < 4294967296) : Go.bits .andNot .u64 w 2147483648 = w % 2147483648 := by
  obtain ⟨a, rfl⟩ := Int.eq_ofNat_of_zero_le h0
  have ha : a < 2 ^ (31 + 1) := by omega
  have e := u64_andNot_nat a 2147483648 (by omega) (by decide)
  have m : a &&& 18446744071562067967 = a % 2147483648 := nat_mask (n := 31) (by decide) ha
  rw [show ((2147483648 : Int)) = ((2147483648 : Nat) : Int) from rfl, e, show (18446744073709551615 - 2147483648 : Nat) = 18446744071562067967 from rfl, m]
  omega
theorem andNot63 (h0 : 0 ≤ w) (h1 : w < 18446744073709551616) : Go.bits .andNot .u64 w 9223372036854775808 = w % 9223372036854775808 := by
  obtain ⟨a, rfl⟩ := Int.eq_ofNat_of_zero_le h0
  have ha : a < 2 ^ (63 + 1) := by omega
  have e := u64_andNot_nat a 9223372036854775808 (by omega) (by decide)
  have m : a &&& 9223372036854775807 = a % 9223372036854775808 := nat_mask (n := 63) (by decide) ha
  rw [show ((9223372036854775808 : Int)) = ((9223372036854775808 : Nat) : Int) from rfl, e, show (18446744073709551615 - 9223372036854775808 : Nat) = 9223372036854775807 from rfl, m]
  omega
theorem and31 (h0 : 0 ≤ w) (h1 : w < 4294967296) : Go.bits .and .u64 w 2147483648 = if w ≥ 2147483648 then 2147483648 else 0 := by
  obtain ⟨a, rfl⟩ := Int.eq_ofNat_of_zero_le h0
  have e := u64_and_nat a 2147483648 (by omega) (by decide)
  rw [show ((2147483648 : Int)) = ((2147483648 : Nat) : Int) from rfl, e]
  by_cases c : a < 2 ^ 31
  · have m : a &&& 2147483648 = 0 := nat_and_lt (n := 31) c
    rw [m, if_neg (by omega)]; rfl
  · obtain ⟨l, rfl⟩ : ∃ l, a = 2 ^ 31 + l := ⟨a - 2 ^ 31, by omega⟩
    have m : (2 ^ 31 + l) &&& 2147483648 = 2147483648 := nat_and_ge (n := 31) (l := l) (by omega)
    rw [m, if_pos (by omega)]
theorem and63 (h0 : 0 ≤ w) (h1 : w < 18446744073709551616) : Go.bits .and .u64 w 9223372036854775808 = if w ≥ 9223372036854775808 then 9223372036854775808 else 0 := by
  obtain ⟨a, rfl⟩ := Int.eq_ofNat_of_zero_le h0
  have e := u64_and_nat a 9223372036854775808 (by omega) (by decide)
  rw [show ((9223372036854775808 : Int)) = ((9223372036854775808 : Nat) : Int) from rfl, e]
  by_cases c : a < 2 ^ 63
  · have m : a &&& 9223372036854775808 = 0 := nat_and_lt (n := 63) c
    rw [m, if_neg (by omega)]; rfl
  · obtain ⟨l, rfl⟩ : ∃ l, a = 2 ^ 63 + l := ⟨a - 2 ^ 63, by omega⟩
    have m : (2 ^ 63 + l) &&& 9223372036854775808 = 9223372036854775808 := nat_and_ge (n := 63) (l := l) (by omega)
    rw [m, if_pos (by omega)]
theorem xor31 (h0 : 0 ≤ w) (h1 : w < 4294967296) : Go.bits .xor .u64 w 2147483648 = if w ≥ 2147483648 then w - 2147483648 else w + 2147483648 := by
  obtain ⟨a, rfl⟩ := Int.eq_ofNat_of_zero_le h0
  have e := u64_xor_nat a 2147483648 (by omega) (by decide)
  rw [show ((2147483648 : Int)) = ((2147483648 : Nat) : Int) from rfl, e]
  by_cases c : a < 2 ^ 31
  · have m : a ^^^ 2147483648 = 2 ^ 31 + a := nat_xor_lt (n := 31) c
    rw [m, if_neg (by omega)]; omega
  · obtain ⟨l, rfl⟩ : ∃ l, a = 2 ^ 31 + l := ⟨a - 2 ^ 31, by omega⟩
    have m : (2 ^ 31 + l) ^^^ 2147483648 = l := nat_xor_ge (n := 31) (l := l) (by omega)
    rw [m, if_pos (by omega)]; omega
theorem xor63 (h0 : 0 ≤ w) (h1 : w < 18446744073709551616) : Go.bits .xor .u64 w 9223372036854775808 = if w ≥ 9223372036854775808 then w - 9223372036854775808 else w + 9223372036854775808 := by
  obtain ⟨a, rfl⟩ := Int.eq_ofNat_of_zero_le h0
  have e := u64_xor_nat a 9223372036854775808 (by omega) (by decide)
  rw [show ((9223372036854775808 : Int)) = ((9223372036854775808 : Nat) : Int) from rfl, e]
  by_cases c : a < 2 ^ 63
  · have m : a ^^^ 9223372036854775808 = 2 ^ 63 + a := nat_xor_lt (n := 63) c
    rw [m, if_neg (by omega)]; omega
  · obtain ⟨l, rfl⟩ : ∃ l, a = 2 ^ 63 + l := ⟨a - 2 ^ 63, by omega⟩
    have m : (2 ^ 63 + l) ^^^ 9223372036854775808 = l := nat_xor_ge (n := 63) (l := l) (by omega)
    rw [m, if_pos (by omega)]; omega
theorem or31 (h0 : 0 ≤ w) (h1 : w < 2147483648) : Go.bits .or .u64 w 2147483648 = w + 2147483648 := by
  obtain ⟨a, rfl⟩ := Int.eq_ofNat_of_zero_le h0
  have e := u64_or_nat a 2147483648 (by omega) (by decide)
  have m : a ||| 2147483648 = 2 ^ 31 + a := nat_or_lt (n := 31) (by omega)
  rw [show ((2147483648 : Int)) = ((2147483648 : Nat) : Int) from rfl, e, m]
  omega
theorem or63 (h0 : 0 ≤ w) (h1 : w < 9223372036854775808) : Go.bits .or .u64 w 9223372036854775808 = w + 9223372036854775808 := by
  obtain ⟨a, rfl⟩ := Int.eq_ofNat_of_zero_le h0
  have e := u64_or_nat a 9223372036854775808 (by omega) (by decide)
  have m : a ||| 9223372036854775808 = 2 ^ 63 + a := nat_or_lt (n := 63) (by omega)
  rw [show ((9223372036854775808 : Int)) = ((9223372036854775808 : Nat) : Int) from rfl, e, m]
  omega
theorem wrapu64 (n : Int) : IntKind.u64.wrap n = n % 18446744073709551616 := by simp [IntKind.wrap, IntKind.bits, IntKind.signed]
theorem wraps_u64 (n : Int) (h₀ : 0 ≤ n) (h₁ : n < 2 ^ 64) : IntKind.u64.wrap n = n := by
  rw [wrapu64]; omega
theorem and23 (h0 : 0 ≤ w) (h1 : w < 18446744073709551616) : Go.bits .and .u64 w 8388607 = w % 8388608 :=
  bits_mask .u64 64 (by decide) wraps_u64 23 (by decide) w h0 (by omega)
theorem and52 (h0 : 0 ≤ w) (h1 : w < 18446744073709551616) : Go.bits .and .u64 w 4503599627370495 = w % 4503599627370496 :=
  bits_mask .u64 64 (by decide) wraps_u64 52 (by decide) w h0 (by omega)
end
end Go.Proofs.YtlgapmhjaaajfaaGreat.Wd
end

section
namespace Go.Proofs.YtlgapmhjaaajfaaGreat.PA
open Go.RowKit Go.Proofs.YtlgapmhjaaajfaaGreatW.PrintWords Go.Proofs.YtlgapmhjaaajfaaGreatW.PrintLast Go.Proofs.YtlgapmhjaaajfaaGreatW.PrintMore Go.Proofs.YtlgapmhjaaajfaaGreat.Wd
set_option linter.unusedSimpArgs false
set_option linter.unusedVariables false
/-- the class of a size: P one above the fractions, I the infinite size -/
def cls (P I s : Int) : Int := if s = 0 then 1 else if s < P then 2 else if s < I then 3 else if s = I then 4 else 5
def sgn (f : Int) : Int := if f = 1 then 2147483648 else 9223372036854775808
def one (f : Int) : Int := if f = 1 then 8388608 else 4503599627370496
def infw (f : Int) : Int := if f = 1 then 2139095040 else 9218868437227405312
def nanw (f : Int) : Int := if f = 1 then 2143289344 else 9221120237041090560
def cl (f w : Int) : Int := cls (one f) (infw f) (w % sgn f)
/-- the error of a word, as Good tells it -/
def err (f w : Int) : Int := if f = 1 then (if w ≥ 4294967296 then 6 else 0) else if f = 2 then 0 else 4
/-- a good word -/
def Gd (f w : Int) : Prop := (f = 1 ∧ 0 ≤ w ∧ w < 4294967296) ∨ (f = 2 ∧ 0 ≤ w ∧ w < 18446744073709551616)
def U (w : Int) : Prop := 0 ≤ w ∧ w < 18446744073709551616
theorem Gd.u {f w : Int} (h : Gd f w) : U w := by rcases h with ⟨_, a, b⟩ | ⟨_, a, b⟩ <;> exact ⟨a, by omega⟩
theorem Gd.err {f w : Int} (h : Gd f w) : err f w = 0 := by
  rcases h with ⟨rfl, a, b⟩ | ⟨rfl, a, b⟩
  · simp [PA.err]; omega
  · simp [PA.err]
theorem gd_of {f w : Int} (h : err f w = 0) (hu : U w) : Gd f w := by
  unfold err at h
  unfold U at hu
  unfold Gd
  split at h
  · split at h
    · omega
    · omega
  · split at h <;> omega
theorem u_of {w : Int} (h : (Lit.int .u64 w).wf = true) : U w := by have := bounds_u64 h; exact ⟨by omega, by omega⟩
theorem rd_zero (w : Int) : rd [w] 0 = w := by rfl
theorem top31 : Go.bits .or .u64 2147483648 (IntKind.u64.wrap (2147483648 - 1)) = 4294967295 := by decide +kernel
theorem top63 : Go.bits .or .u64 9223372036854775808 (IntKind.u64.wrap (9223372036854775808 - 1)) = 18446744073709551615 := by decide +kernel
/-- the shape of a format -/
def shp (f : Int) : Int × Int × Int := if f = 1 then (23, 255, 2147483648) else if f = 2 then (52, 2047, 9223372036854775808) else (0, 0, 0)
theorem open_nil (k : Nat) (f : Int) : word_open.f (k + 1) f [] = some ((shp f).1, (shp f).2.1, (shp f).2.2, if f = 1 ∨ f = 2 then 0 else 4) := by
  unfold word_open.f word_shapeOf.f shp
  by_cases h1 : f = 1
  · subst h1; simp [word_open.l0]
  · by_cases h2 : f = 2
    · subst h2; simp [word_open.l0]
    · simp [h1, h2]
theorem open_one (k : Nat) (f w : Int) (hu : U w) : word_open.f (k + 2) f [w] = some ((shp f).1, (shp f).2.1, (shp f).2.2, err f w) := by
  obtain ⟨h0, h3⟩ := hu
  unfold word_open.f word_shapeOf.f shp err
  by_cases h1 : f = 1
  · subst h1
    have l1 : (([w] : List Int).length : Int) = 1 := rfl
    have w1 : wrap64 (0 + 1) = 1 := by decide +kernel
    simp only [if_true, Option.bind_some, word_open.l0, l1, rd_zero, top31, Int.zero_lt_one, Int.le_refl, w1]
    by_cases c : w ≥ 4294967296
    · rw [if_pos (by omega)]; simp [c]
    · rw [if_neg (by omega)]; simp [c]
  · by_cases h2 : f = 2
    · subst h2
      have l1 : (([w] : List Int).length : Int) = 1 := rfl
      have w1 : wrap64 (0 + 1) = 1 := by decide +kernel
      simp only [show (¬ ((2 : Int) = 1)) by decide, if_false, if_true, Option.bind_some, word_open.l0, l1, rd_zero, top63, Int.zero_lt_one, Int.le_refl, w1]
      rw [if_neg (by omega)]
      simp
    · simp [h1, h2]
theorem shape_inf1 : word_shape_inf.f 23 255 2147483648 = some 2139095040 := by decide +kernel
theorem shape_inf2 : word_shape_inf.f 52 2047 9223372036854775808 = some 9218868437227405312 := by decide +kernel
theorem shape_none1 : word_shape_none.f 23 255 2147483648 = some 2143289344 := by decide +kernel
theorem shape_none2 : word_shape_none.f 52 2047 9223372036854775808 = some 9221120237041090560 := by decide +kernel
theorem shl23 : shl .u64 1 23 = 8388608 := by decide +kernel
theorem shl52 : shl .u64 1 52 = 4503599627370496 := by decide +kernel
theorem shape_class {f w : Int} (h : Gd f w) : word_shape_class.f (shp f).1 (shp f).2.1 (shp f).2.2 w = some (cl f w) := by
  rcases h with ⟨rfl, h0, h1⟩ | ⟨rfl, h0, h1⟩
  · have e1 : shp 1 = (23, 255, 2147483648) := rfl
    rw [e1]
    simp only [word_shape_class.f, andNot31 h0 h1, shape_inf1, Option.bind_some, shl23, cl, cls, one, infw, sgn, if_true]
    repeat' split
    all_goals first | rfl | (exfalso; omega)
  · have e1 : shp 2 = (52, 2047, 9223372036854775808) := rfl
    rw [e1]
    simp only [word_shape_class.f, andNot63 h0 h1, shape_inf2, Option.bind_some, shl52, cl, cls, one, infw, sgn]
    simp only [show (¬ ((2 : Int) = 1)) by decide, if_false]
    repeat' split
    all_goals first | rfl | (exfalso; omega)
theorem split_good (k : Nat) {f w : Int} (h : Gd f w) : word_Split.f (k + 2) f w = some (decide (w ≥ sgn f), w % sgn f / one f, w % one f, 0) := by
  unfold word_Split.f
  rw [open_one k f w h.u, h.err]
  rcases h with ⟨rfl, h0, h1⟩ | ⟨rfl, h0, h1⟩
  · have e1 : shp 1 = (23, 255, 2147483648) := rfl
    have e2 : IntKind.u64.wrap (8388608 - 1) = 8388607 := by decide +kernel
    have e3 : shr .u64 (w % 2147483648) 23 = w % 2147483648 / 8388608 := rfl
    rw [e1]
    simp only [Option.bind_some, if_true, word_shape_split.f, andNot31 h0 h1, and31 h0 h1, shl23, e2, e3, sgn, one]
    rw [and23 (by omega) (by omega)]
    have e4 : wrap64 (w % 2147483648 / 8388608) = w % 2147483648 / 8388608 := by unfold wrap64; omega
    have e5 : w % 2147483648 % 8388608 = w % 8388608 := by omega
    rw [e4, e5]
    by_cases c : w ≥ 2147483648 <;> simp [c]
  · have e1 : shp 2 = (52, 2047, 9223372036854775808) := rfl
    have e2 : IntKind.u64.wrap (4503599627370496 - 1) = 4503599627370495 := by decide +kernel
    have e3 : shr .u64 (w % 9223372036854775808) 52 = w % 9223372036854775808 / 4503599627370496 := rfl
    rw [e1]
    simp only [Option.bind_some, if_true, word_shape_split.f, andNot63 h0 h1, and63 h0 h1, shl52, e2, e3, sgn, one]
    rw [and52 (by omega) (by omega)]
    have e4 : wrap64 (w % 9223372036854775808 / 4503599627370496) = w % 9223372036854775808 / 4503599627370496 := by unfold wrap64; omega
    have e5 : w % 9223372036854775808 % 4503599627370496 = w % 4503599627370496 := by omega
    rw [e4, e5]
    by_cases c : w ≥ 9223372036854775808 <;> simp [c]
theorem class_good (k : Nat) {f w : Int} (h : Gd f w) : word_Class.f (k + 2) f w = some (cl f w, 0) := by
  unfold word_Class.f
  rw [open_one k f w h.u, h.err]
  simp only [Option.bind_some, if_true, shape_class h]
theorem class_bad (k : Nat) {f w : Int} (hu : U w) (h : err f w ≠ 0) : word_Class.f (k + 2) f w = some (0, err f w) := by
  unfold word_Class.f
  rw [open_one k f w hu]
  simp only [Option.bind_some]
  rw [if_neg h]
theorem ref_Is (f : Int) : cutplaneref03_Is.f f = some (decide (f = 1 ∨ f = 2)) := by
  unfold cutplaneref03_Is.f
  by_cases h1 : f = 1
  · simp [h1]
  · rw [if_neg h1]; by_cases h2 : f = 2 <;> simp [h1, h2]
theorem ref_Good (f w : Int) : cutplaneref03_Good.f f w = some (err f w) := by
  unfold cutplaneref03_Good.f err
  rw [ref_Is]
  by_cases h1 : f = 1
  · subst h1; simp
    split <;> rfl
  · by_cases h2 : f = 2 <;> simp [h1, h2]
theorem ref_Split (f : Int) {w : Int} (hu : U w) : cutplaneref03_Split.f f w = some (decide (w ≥ sgn f), w % sgn f / one f, w % one f) := by
  unfold cutplaneref03_Split.f sgn one
  unfold U at hu
  rw [if_pos hu]
  split <;> rfl
theorem ref_Most (f : Int) : cutplaneref03_Most.f f = some (if f = 1 then 255 else 2047) := by unfold cutplaneref03_Most.f; split <;> rfl
theorem ref_Class (k : Nat) (f : Int) {w : Int} (hu : U w) : cutplaneref03_Class.f (k + 1) f w = some (cl f w) := by
  obtain ⟨h0, h1⟩ := hu
  unfold cutplaneref03_Class.f
  rw [ref_Split f ⟨h0, h1⟩]
  simp only [Option.bind_some, cutplaneref03_Class.j0, ref_Most]
  unfold cl cls sgn one infw
  by_cases hf : f = 1
  · simp only [hf, if_true]
    by_cases a : w % 2147483648 / 8388608 = 0
    · rw [if_pos a]
      by_cases b : w % 8388608 = 0
      · rw [if_pos (by simp [b]), if_pos (by omega)]
      · rw [if_neg (by simp [b]), if_pos a, if_neg (by omega), if_pos (by omega)]
    · rw [if_neg a, if_neg (by decide), if_neg a]
      by_cases c : w % 2147483648 / 8388608 < 255
      · rw [if_pos c, if_neg (by omega), if_neg (by omega), if_pos (by omega)]
      · rw [if_neg c]
        by_cases d : w % 8388608 = 0
        · rw [if_pos d, if_neg (by omega), if_neg (by omega), if_neg (by omega), if_pos (by omega)]
        · rw [if_neg d, if_neg (by omega), if_neg (by omega), if_neg (by omega), if_neg (by omega)]
  · simp only [hf, if_false]
    by_cases a : w % 9223372036854775808 / 4503599627370496 = 0
    · rw [if_pos a]
      by_cases b : w % 4503599627370496 = 0
      · rw [if_pos (by simp [b]), if_pos (by omega)]
      · rw [if_neg (by simp [b]), if_pos a, if_neg (by omega), if_pos (by omega)]
    · rw [if_neg a, if_neg (by decide), if_neg a]
      by_cases c : w % 9223372036854775808 / 4503599627370496 < 2047
      · rw [if_pos c, if_neg (by omega), if_neg (by omega), if_pos (by omega)]
      · rw [if_neg c]
        by_cases d : w % 4503599627370496 = 0
        · rw [if_pos d, if_neg (by omega), if_neg (by omega), if_neg (by omega), if_pos (by omega)]
        · rw [if_neg d, if_neg (by omega), if_neg (by omega), if_neg (by omega), if_neg (by omega)]
theorem ref_Sign (f : Int) : cutplaneref03_Sign.f f = some (sgn f) := by unfold cutplaneref03_Sign.f sgn; split <;> rfl
theorem ref_Frac (f : Int) : cutplaneref03_Frac.f f = some (if f = 1 then 23 else 52) := by unfold cutplaneref03_Frac.f; split <;> rfl
theorem ref_None (f : Int) : cutplaneref03_None.f f = some (nanw f) := by
  by_cases hf : f = 1
  · subst hf; decide +kernel
  · unfold cutplaneref03_None.f
    rw [ref_Most, ref_Frac]
    unfold nanw
    simp only [hf, if_false, Option.bind_some]
    have e : shl .u64 1 (wrap64 (52 - 1)) = 2251799813685248 := by decide +kernel
    have e0 : 0 ≤ wrap64 (52 - 1) := by decide +kernel
    have e1 : IntKind.u64.wrap (shl .u64 (IntKind.u64.wrap 2047) 52 + 2251799813685248) = 9221120237041090560 := by decide +kernel
    rw [if_pos e0, e]
    unfold cutplaneref03_Join.f
    rw [ref_Frac]
    simp [hf, e1]
theorem ref_Inf (f : Int) (b : Bool) : cutplaneref03_Inf.f f b = some (if b then infw f + sgn f else infw f) := by
  unfold cutplaneref03_Inf.f cutplaneref03_Join.f
  rw [ref_Most, ref_Frac, ref_Sign]
  unfold infw sgn
  by_cases hf : f = 1
  · have e1 : IntKind.u64.wrap (shl .u64 (IntKind.u64.wrap 255) 23 + 0) = 2139095040 := by decide +kernel
    have e2 : IntKind.u64.wrap (2139095040 + 2147483648) = 4286578688 := by decide +kernel
    simp only [hf, if_true, Option.bind_some, e1, e2]
    cases b <;> simp
  · have e1 : IntKind.u64.wrap (shl .u64 (IntKind.u64.wrap 2047) 52 + 0) = 9218868437227405312 := by decide +kernel
    have e2 : IntKind.u64.wrap (9218868437227405312 + 9223372036854775808) = 18442240474082181120 := by decide +kernel
    simp only [hf, if_false, Option.bind_some, e1, e2]
    cases b <;> simp
theorem ref_Signed (f : Int) {w : Int} (hu : U w) (b : Bool) : cutplaneref03_Signed.f f w b = some (if b then w % sgn f + sgn f else w % sgn f) := by
  obtain ⟨h0, h1⟩ := hu
  unfold cutplaneref03_Signed.f
  rw [ref_Sign]
  simp only [Option.bind_some]
  have hs : sgn f = 2147483648 ∨ sgn f = 9223372036854775808 := by unfold sgn; split <;> simp
  have e : Int.tmod w (sgn f) = w % sgn f := Int.tmod_eq_emod_of_nonneg h0
  rw [if_neg (by omega), e, wrapu64]
  have e2 : (w % sgn f + sgn f) % 18446744073709551616 = w % sgn f + sgn f := by rcases hs with h | h <;> rw [h] <;> omega
  rw [e2]
  cases b <;> simp
def canw (f w : Int) : Int := if cl f w = 5 then nanw f else w
def flipw (f w : Int) : Int := if w ≥ sgn f then w - sgn f else w + sgn f
def negw (f w : Int) : Int := if cl f w = 5 then nanw f else flipw f w
theorem shape_none {f w : Int} (h : Gd f w) : word_shape_none.f (shp f).1 (shp f).2.1 (shp f).2.2 = some (nanw f) := by
  rcases h with ⟨rfl, _, _⟩ | ⟨rfl, _, _⟩
  · exact shape_none1
  · exact shape_none2
theorem turned_good (k : Nat) {f w : Int} (h : Gd f w) {g : Int → Int → Int → Option Int} {z : Int} (hg : g (shp f).1 (shp f).2.1 (shp f).2.2 = some z) :
    word_turned.f (k + 2) f w g = some (if cl f w = 5 then nanw f else z, 0) := by
  unfold word_turned.f
  rw [open_one k f w h.u, h.err]
  simp only [Option.bind_some, if_true, shape_class h, shape_none h, hg]
  split <;> rfl
theorem shp3 {f w : Int} (h : Gd f w) : (shp f).2.2 = sgn f := by
  rcases h with ⟨rfl, _, _⟩ | ⟨rfl, _, _⟩ <;> rfl
theorem neg_good (k : Nat) {f w : Int} (h : Gd f w) : word_Neg.f (k + 2) f w = some (negw f w, 0) := by
  unfold word_Neg.f
  rw [turned_good k h (z := flipw f w) ?_]
  · rfl
  · unfold word_Neg_1.f flipw
    rw [shp3 h]
    rcases h with ⟨rfl, h0, h1⟩ | ⟨rfl, h0, h1⟩
    · exact congrArg some (xor31 h0 h1)
    · exact congrArg some (xor63 h0 h1)
theorem sgn_cases (f : Int) : sgn f = 2147483648 ∨ sgn f = 9223372036854775808 := by unfold sgn; split <;> simp
theorem ref_Canon (k : Nat) (f : Int) {w : Int} (hu : U w) : cutplaneref03_Canon.f (k + 1) f w = some (canw f w) := by
  unfold cutplaneref03_Canon.f canw
  rw [ref_Class k f hu]
  simp only [Option.bind_some, ref_None]
  split <;> rfl
theorem open_nil' (k : Nat) (f : Int) : word_open.f (k + 1) f ([] : List Int) = some ((shp f).1, (shp f).2.1, (shp f).2.2, if f = 1 ∨ f = 2 then 0 else 4) := open_nil k f
end Go.Proofs.YtlgapmhjaaajfaaGreat.PA
end

section
namespace Go.Proofs.YtlgapmhjaaajfaaGreat.PA
open Go.RowKit Go.Proofs.YtlgapmhjaaajfaaGreatW.PrintWords Go.Proofs.YtlgapmhjaaajfaaGreatW.PrintLast Go.Proofs.YtlgapmhjaaajfaaGreatW.PrintMore Go.Proofs.YtlgapmhjaaajfaaGreat.Wd
set_option linter.unusedSimpArgs false
set_option linter.unusedVariables false
theorem named_good (k : Nat) {f : Int} (hf : f = 1 ∨ f = 2) (b : Bool) {g : Int → Int → Int → Option Int} {z : Int} (hg : g (shp f).1 (shp f).2.1 (shp f).2.2 = some z) (h0 : 0 ≤ z) (h1 : z < sgn f) :
    word_named.f (k + 1) f b g = some (if b then z + sgn f else z, 0) := by
  unfold word_named.f
  rw [open_nil' k f]
  simp only [Option.bind_some, if_pos hf, if_true, hg]
  have e : Go.bits .or .u64 z (shp f).2.2 = z + sgn f := by
    rcases hf with rfl | rfl
    · exact or31 h0 h1
    · exact or63 h0 h1
  rw [e]
  cases b <;> rfl
theorem infw_lt (f : Int) : 0 ≤ infw f ∧ infw f < sgn f ∧ infw f < nanw f ∧ nanw f < sgn f ∧ one f < infw f ∧ 0 < one f := by unfold infw sgn nanw one; split <;> decide
theorem shape_inf {f : Int} (hf : f = 1 ∨ f = 2) : word_shape_inf.f (shp f).1 (shp f).2.1 (shp f).2.2 = some (infw f) := by
  rcases hf with rfl | rfl
  · exact shape_inf1
  · exact shape_inf2
theorem inf_good (k : Nat) {f : Int} (hf : f = 1 ∨ f = 2) (b : Bool) : word_Inf.f (k + 1) f b = some (if b then infw f + sgn f else infw f, 0) := by
  unfold word_Inf.f
  rw [named_good k hf b (z := infw f) (shape_inf hf) (infw_lt f).1 (infw_lt f).2.1]
  rfl
theorem greatest_good (k : Nat) {f : Int} (hf : f = 1 ∨ f = 2) (b : Bool) : word_Greatest.f (k + 1) f b = some (if b then infw f - 1 + sgn f else infw f - 1, 0) := by
  unfold word_Greatest.f
  have h := infw_lt f
  rw [named_good k hf b (z := infw f - 1) ?_ (by omega) (by omega)]
  · rfl
  · unfold word_Greatest_1.f
    rw [shape_inf hf]
    simp only [Option.bind_some, wrapu64]
    have := sgn_cases f
    rw [Int.emod_eq_of_lt (by omega) (by omega)]
theorem none_good (k : Nat) {f : Int} (hf : f = 1 ∨ f = 2) : word_None.f (k + 1) f = some (nanw f, 0) := by
  unfold word_None.f
  rw [named_good k hf false (z := nanw f) (by rcases hf with rfl | rfl; exact shape_none1; exact shape_none2) (by have := infw_lt f; omega) (infw_lt f).2.2.2.1]
  rfl
end Go.Proofs.YtlgapmhjaaajfaaGreat.PA
end

section
namespace Go.Proofs.YtlgapmhjaaajfaaGreat.PA
open Go.RowKit Go.Proofs.YtlgapmhjaaajfaaGreatW.PrintWords Go.Proofs.YtlgapmhjaaajfaaGreatW.PrintLast Go.Proofs.YtlgapmhjaaajfaaGreatW.PrintMore Go.Proofs.YtlgapmhjaaajfaaGreat.Wd
set_option linter.unusedSimpArgs false
set_option linter.unusedVariables false
def errz (f a b : Int) : Int := if err f a = 0 then err f b else err f a
def Gz (f a b : Int) : Prop := Gd f a ∧ Gd f b
theorem gz_of {f a b : Int} (h : errz f a b = 0) (ha : U a) (hb : U b) : Gz f a b := by
  unfold errz at h
  by_cases e : err f a = 0
  · rw [if_pos e] at h; exact ⟨gd_of e ha, gd_of h hb⟩
  · rw [if_neg e] at h; exact absurd h e
theorem Gz.err {f a b : Int} (h : Gz f a b) : errz f a b = 0 := by unfold errz; rw [h.1.err, h.2.err]; rfl
theorem err_val (f w : Int) : err f w = 0 ∨ err f w = 4 ∨ err f w = 6 := by
  unfold PA.err; repeat' split
  all_goals simp
theorem err_four (f w : Int) : err f w = 4 ↔ ¬ (f = 1 ∨ f = 2) := by
  unfold PA.err; repeat' split
  all_goals simp_all
theorem ref_Goodz2 (k : Nat) (f a b c d : Int) : cutplaneref10_Good.f (k + 3) f [⟨a, b⟩, ⟨c, d⟩] = some (if errz f a b = 0 then errz f c d else errz f a b) := by
  unfold cutplaneref10_Good.f errz
  rw [ref_Is]
  have l1 : (([⟨a, b⟩, ⟨c, d⟩] : List S26).length : Int) = 2 := rfl
  have r0 : rd_T26 [⟨a, b⟩, ⟨c, d⟩] 0 = ⟨a, b⟩ := rfl
  have r1 : rd_T26 [⟨a, b⟩, ⟨c, d⟩] 1 = ⟨c, d⟩ := rfl
  have w1 : wrap64 (0 + 1) = 1 := by decide +kernel
  have w2 : wrap64 (1 + 1) = 2 := by decide +kernel
  by_cases hf : f = 1 ∨ f = 2
  · have ea := err_val f a
    have eb := err_val f b
    have ec := err_val f c
    have ed := err_val f d
    have fa : err f a ≠ 4 := fun c => (err_four f a).1 c hf
    have fb : err f b ≠ 4 := fun c => (err_four f b).1 c hf
    have fc : err f c ≠ 4 := fun e => (err_four f c).1 e hf
    have fd : err f d ≠ 4 := fun e => (err_four f d).1 e hf
    have t0 : (0 : Int) < 2 := by decide
    have t1 : (1 : Int) < 2 := by decide
    have t2 : ¬ (2 : Int) < 2 := by decide
    have t3 : (0 : Int) ≤ 1 := by decide
    simp only [Option.bind_some, hf, decide_true, if_true, cutplaneref10_Good.l0, l1, r0, r1, w1, w2, ref_Good, t0, t1, t2, t3, if_false, Int.le_refl]
    by_cases ca : err f a = 0
    · by_cases cb : err f b = 0
      · by_cases cc : err f c = 0
        · by_cases cd : err f d = 0
          · simp only [ca, cb, cc, cd, if_true]
          · simp only [ca, cb, cc, cd, if_true, if_false]; congr 1; omega
        · simp only [ca, cb, cc, if_true, if_false]; congr 1; omega
      · simp only [ca, cb, if_true, if_false]; congr 1; omega
    · simp only [ca, if_false]; congr 1; omega
  · have fa := (err_four f a).2 hf
    simp [hf, fa]
theorem sign_flip {f v : Int} (hv : Gd f v) : (if (!decide (v ≥ sgn f)) = true then v % sgn f + sgn f else v % sgn f) = flipw f v := by
  unfold flipw sgn
  rcases hv with ⟨rfl, h0, h1⟩ | ⟨rfl, h0, h1⟩
  · by_cases c : v ≥ 2147483648
    · simp [c]; omega
    · simp [c]; omega
  · by_cases c : v ≥ 9223372036854775808
    · simp [c]; omega
    · simp [c]; omega
theorem ref_Minus (k : Nat) {f w : Int} (h : Gd f w) : cutplaneref10_Minus.f (k + 1) f w = some (negw f w) := by
  unfold cutplaneref10_Minus.f negw
  rw [ref_Class k f h.u, ref_None, ref_Split f h.u]
  simp only [Option.bind_some, ref_Signed f h.u, sign_flip h]
  split <;> rfl
theorem ref_Conjz (k : Nat) {f a b : Int} (h : Gz f a b) : cutplaneref10_Conj.f (k + 1) f a b = some (canw f a, negw f b) := by
  unfold cutplaneref10_Conj.f
  rw [ref_Canon k f h.1.u, ref_Minus k h.2]; rfl
def zc (f a b : Int) : Int := if cl f a = 4 ∨ cl f b = 4 then 3 else if cl f a = 5 ∨ cl f b = 5 then 4 else if cl f a = 1 ∧ cl f b = 1 then 1 else 2
theorem classz_good (k : Nat) {f a b : Int} (h : Gz f a b) : pair_Class.f (k + 2) f a b = some (zc f a b, 0) := by
  unfold pair_Class.f zc
  rw [class_good k h.1, class_good k h.2]
  simp only [Option.bind_some, if_true, pair_Class.j0, pair_Class.j1]
  by_cases a4 : cl f a = 4 <;> by_cases b4 : cl f b = 4 <;> by_cases a5 : cl f a = 5 <;> by_cases b5 : cl f b = 5 <;> by_cases a1 : cl f a = 1 <;> by_cases b1 : cl f b = 1 <;> simp_all
theorem classz_bad (k : Nat) {f a b : Int} (ha : U a) (hb : U b) (h : errz f a b ≠ 0) : pair_Class.f (k + 2) f a b = some (0, errz f a b) := by
  unfold pair_Class.f
  unfold errz at h ⊢
  by_cases c : err f a = 0
  · rw [class_good k (gd_of c ha)]
    rw [if_pos c] at h ⊢
    simp only [Option.bind_some, if_true, class_bad k hb h]
    rw [if_neg h]
  · rw [class_bad k ha c]
    rw [if_neg c] at h ⊢
    simp only [Option.bind_some]
    rw [if_neg h]
theorem ref_Classz (k : Nat) (f : Int) {a b : Int} (ha : U a) (hb : U b) : cutplaneref10_Class.f (k + 2) f a b = some (zc f a b) := by
  unfold cutplaneref10_Class.f zc
  rw [ref_Class (k + 1) f ha, ref_Class (k + 1) f hb]
  simp only [Option.bind_some, cutplaneref10_Class.j0, cutplaneref10_Class.j1]
  by_cases a4 : cl f a = 4 <;> by_cases b4 : cl f b = 4 <;> by_cases a5 : cl f a = 5 <;> by_cases b5 : cl f b = 5 <;> by_cases a1 : cl f a = 1 <;> by_cases b1 : cl f b = 1 <;> simp_all
end Go.Proofs.YtlgapmhjaaajfaaGreat.PA
end

section
namespace Go.Proofs.YtlgapmhjaaajfaaGreat.PA
open Go.RowKit Go.Proofs.YtlgapmhjaaajfaaGreatW.PrintWords Go.Proofs.YtlgapmhjaaajfaaGreatW.PrintLast Go.Proofs.YtlgapmhjaaajfaaGreatW.PrintMore Go.Proofs.YtlgapmhjaaajfaaGreat.Wd
set_option linter.unusedSimpArgs false
set_option linter.unusedVariables false
theorem up_ {α : Type} {g : Nat → Option α} (hm : ∀ k, LeO (g k) (g (k + 1))) {K : Nat} {r : α} (h : g K = some r) (k : Nat) : g (k + K) = some r := by
  induction k with
  | zero => rw [Nat.zero_add]; exact h
  | succ k ih => rw [show k + 1 + K = (k + K) + 1 by omega]; exact hm (k + K) r ih
def Md (m : Int) : Prop := 1 ≤ m ∧ m ≤ 5
instance (m : Int) : Decidable (Md m) := inferInstanceAs (Decidable (_ ∧ _))
def me (f m : Int) : Int := if f = 1 ∨ f = 2 then (if Md m then 0 else 5) else 4
theorem over_val (k : Nat) (f m : Int) : ∃ x, round_Over.f (k + 4) f m false = some (x, me f m) := by
  unfold me
  by_cases hf : f = 1 ∨ f = 2
  · obtain ⟨p, l, t, hform⟩ : ∃ p l t, round_formOf.f f = some (p, l, t, true) := by
      rcases hf with rfl | rfl <;> exact ⟨_, _, _, rfl⟩
    have hl : (([] : List S107).length : Int) = 0 := rfl
    unfold round_Over.f round_open.f
    rw [hform, if_pos hf]
    simp only [Option.bind_some, if_true]
    by_cases hm : Md m
    · rw [if_pos hm]
      obtain ⟨m1, m5⟩ := hm
      rw [if_neg (show ¬ m < 1 by omega), show decide (m > 5) = false from decide_eq_false (by omega)]
      simp only [round_open.j0, round_open.l0, hl, Int.lt_irrefl, Bool.false_eq_true, if_false, Option.bind_some, if_true, round_Over.j0, inf_good _ hf, greatest_good _ hf]
      repeat' split
      all_goals exact ⟨_, rfl⟩
    · rw [if_neg hm]
      by_cases h1 : m < 1
      · rw [if_pos h1]
        simp only [round_open.j0, if_true, Option.bind_some]
        exact ⟨0, rfl⟩
      · rw [if_neg h1, show decide (m > 5) = true from decide_eq_true (by unfold Md at hm; omega)]
        simp only [round_open.j0, if_true, Option.bind_some]
        exact ⟨0, rfl⟩
  · have hform : round_formOf.f f = some (0, 0, 0, false) := by
      unfold round_formOf.f
      rw [if_neg (fun h => hf (.inl h)), if_neg (fun h => hf (.inr h))]
    unfold round_Over.f round_open.f
    rw [hform, if_neg hf]
    exact ⟨0, rfl⟩
/-- the error that is there ahead of all else -/
def oe (f m a b c d : Int) : Int := if me f m = 0 then (if errz f a b = 0 then errz f c d else errz f a b) else me f m
theorem zopen_val (k : Nat) {f m a b c d : Int} (ha : U a) (hb : U b) (hc : U c) (hd : U d) : special_open.f (k + 6) f m [⟨a, b⟩, ⟨c, d⟩] = some (if oe f m a b c d = 0 then ([zc f a b, zc f c d], 0) else ([], oe f m a b c d)) := by
  obtain ⟨x, hx⟩ := over_val (k + 2) f m
  have l1 : (([⟨a, b⟩, ⟨c, d⟩] : List S26).length : Int) = 2 := rfl
  have r0 : rd_T26 [⟨a, b⟩, ⟨c, d⟩] 0 = ⟨a, b⟩ := rfl
  have r1 : rd_T26 [⟨a, b⟩, ⟨c, d⟩] 1 = ⟨c, d⟩ := rfl
  have w1 : wrap64 (0 + 1) = 1 := by decide +kernel
  have w2 : wrap64 (1 + 1) = 2 := by decide +kernel
  have t0 : (0 : Int) < 2 := by decide
  have t1 : (1 : Int) < 2 := by decide
  have t2 : ¬ (2 : Int) < 2 := by decide
  have t3 : (0 : Int) ≤ 1 := by decide
  have t4 : (0 : Int) ≤ 2 := by decide
  have t5 : (2 : Int).toNat ≤ 281474976710656 := by decide
  have t6 : (([] : List Int).length : Nat) < 140737488355328 := by decide
  have t7 : ∀ z : Int, ([z].length : Nat) < 140737488355328 := fun _ => by simp
  unfold special_open.f oe
  rw [hx]
  simp only [Option.bind_some]
  by_cases hm : me f m = 0
  · simp only [hm, if_true, l1, t4, t5, List.replicate, special_open.l0, r0, r1, w1, w2, t0, t1, t2, t3, if_false, Int.le_refl]
    by_cases e1 : errz f a b = 0
    · rw [classz_good _ (gz_of e1 ha hb)]
      simp only [Option.bind_some, if_true, t6, e1, List.nil_append, t7]
      by_cases e2 : errz f c d = 0
      · rw [classz_good _ (gz_of e2 hc hd)]
        simp only [Option.bind_some, if_true, e2, List.singleton_append, t7]
      · rw [classz_bad _ hc hd e2]
        simp only [Option.bind_some, if_neg e2]
    · rw [classz_bad _ ha hb e1]
      simp only [Option.bind_some, if_neg e1]
  · simp only [if_neg hm]
theorem opens_val (k : Nat) {f m a b c d : Int} : cutplanelaw11_opens.f (k + 3) f m [⟨a, b⟩, ⟨c, d⟩] = some (oe f m a b c d) := by
  unfold cutplanelaw11_opens.f cutplaneref05_Opens.f oe me
  rw [ref_Is]
  by_cases hf : f = 1 ∨ f = 2
  · have hi : cutplaneref04_Is.f m = some (decide (Md m)) := by
      unfold cutplaneref04_Is.f Md
      simp only [ge_iff_le]
      by_cases h1 : 1 ≤ m <;> by_cases h5 : m ≤ 5 <;> simp [h1, h5]
    have l0 : ¬ (0 : Int) < (([] : List Int).length : Int) := by decide
    simp only [Option.bind_some, hf, decide_true, if_true, hi]
    by_cases hm : Md m
    · simp only [hm, decide_true, if_true, cutplaneref05_Opens.l0, l0, if_false, Option.bind_some, ref_Goodz2]
    · simp [hm]
  · simp [hf]
theorem gd_fmt {f w : Int} (h : Gd f w) : f = 1 ∨ f = 2 := by rcases h with ⟨rfl, _⟩ | ⟨rfl, _⟩ <;> simp
def sd (f w : Int) (inf : Bool) : Int × Bool := if cl f w = 5 then (0, false) else if (if inf then cl f w = 4 else cl f w ≠ 1) then (if w ≥ sgn f then (-1, true) else (1, false)) else (0, decide (w ≥ sgn f))
theorem side_val (k : Nat) {f w : Int} (h : Gd f w) (inf : Bool) : special_sideOf.f (k + 3) f w inf = some (sd f w inf) := by
  unfold special_sideOf.f sd
  rw [class_good (k + 1) h, split_good (k + 1) h]
  simp only [Option.bind_some]
  cases inf <;> simp only [Bool.false_eq_true, if_false, if_true, special_sideOf.j0]
  · by_cases c5 : cl f w = 5 <;> by_cases c1 : cl f w = 1 <;> by_cases s : w ≥ sgn f <;> simp [c5, c1, s]
  · by_cases c5 : cl f w = 5 <;> by_cases c1 : cl f w = 4 <;> by_cases s : w ≥ sgn f <;> simp [c5, c1, s]
theorem box_val (k : Nat) {f a b : Int} (h : Gz f a b) (z : Int) : special_boxOf.f (k + 3) f a b z = some ((sd f a (z == 3)).1, (sd f a (z == 3)).2, (sd f b (z == 3)).1, (sd f b (z == 3)).2) := by
  unfold special_boxOf.f
  rw [side_val k h.1, side_val k h.2]; rfl
/-- the sides there are -/
def Sd (s : Int × Bool) : Prop := s = (1, false) ∨ s = (-1, true) ∨ s = (0, false) ∨ s = (0, true)
theorem sd_ok (f w : Int) (inf : Bool) : Sd (sd f w inf) := by
  unfold sd Sd
  by_cases c5 : cl f w = 5
  · simp [c5]
  · rw [if_neg c5]
    by_cases c : (if inf then cl f w = 4 else cl f w ≠ 1)
    · rw [if_pos c]
      by_cases s : w ≥ sgn f <;> simp [s]
    · rw [if_neg c]
      by_cases s : w ≥ sgn f <;> simp [s]
def onew (f : Int) : Int := if f = 1 then 1065353216 else 4607182418800017408
def wv (f size : Int) (s : Int × Bool) : Int := if s.2 then (if s.1 = 0 then 0 else size) + sgn f else (if s.1 = 0 then 0 else size)
theorem small_ok {f v : Int} (hf : f = 1 ∨ f = 2) (hv : v = 0 ∨ v = onew f ∨ v = infw f) : Gd f v ∧ cl f v ≠ 5 ∧ v < sgn f := by
  rcases hf with rfl | rfl
  · rcases hv with rfl | rfl | rfl
    · exact ⟨.inl ⟨rfl, by decide, by decide⟩, by decide, by decide⟩
    · exact ⟨.inl ⟨rfl, by decide, by decide⟩, by decide, by decide⟩
    · exact ⟨.inl ⟨rfl, by decide, by decide⟩, by decide, by decide⟩
  · rcases hv with rfl | rfl | rfl
    · exact ⟨.inr ⟨rfl, by decide, by decide⟩, by decide, by decide⟩
    · exact ⟨.inr ⟨rfl, by decide, by decide⟩, by decide, by decide⟩
    · exact ⟨.inr ⟨rfl, by decide, by decide⟩, by decide, by decide⟩
theorem part_val (k : Nat) {f size : Int} (hf : f = 1 ∨ f = 2) (hs : size = 0 ∨ size = onew f ∨ size = infw f) (n : Int) (g : Bool) : special_box_words.p (k + 2) f n g size = some (wv f size (n, g)) := by
  unfold special_box_words.p wv
  cases g
  · rfl
  · simp only [if_true]
    have hv : (if n = 0 then 0 else size) = 0 ∨ (if n = 0 then 0 else size) = onew f ∨ (if n = 0 then 0 else size) = infw f := by split; exact .inl rfl; exact hs
    generalize (if n = 0 then 0 else size) = v at hv ⊢
    obtain ⟨h1, h2, h3⟩ := small_ok hf hv
    rw [neg_good k h1]
    simp only [Option.bind_some]
    congr 1
    unfold negw flipw
    rw [if_neg h2, if_neg (by omega)]
theorem words_val (k : Nat) {f size : Int} (hf : f = 1 ∨ f = 2) (hs : size = 0 ∨ size = onew f ∨ size = infw f) (n0 : Int) (g0 : Bool) (n1 : Int) (g1 : Bool) : special_box_words.f (k + 2) n0 g0 n1 g1 f size = some (wv f size (n0, g0), wv f size (n1, g1)) := by
  unfold special_box_words.f
  rw [part_val k hf hs, part_val k hf hs]; rfl
theorem known11 (k : Nat) : cutplanelaw11_known.f (k + 24) = some true := up_ (g := fun k => cutplanelaw11_known.f k) (fun k => cutplanelaw11_known.mono k) (by decide +kernel) k
theorem ref_One {f : Int} (hf : f = 1 ∨ f = 2) (b : Bool) : cutplaneref11_One.f f b = some (if b then onew f + sgn f else onew f) := by
  rcases hf with rfl | rfl <;> cases b <;> decide +kernel
theorem ref_box (k : Nat) {f w : Int} (h : Gd f w) (big : Bool) (hb : cl f w = 5 → big = false) : cutplaneref11_box.f (k + 2) f w big = some (wv f (onew f) (if cl f w = 5 then (0, false) else if big then (if w ≥ sgn f then (-1, true) else (1, false)) else (0, decide (w ≥ sgn f)))) := by
  have hf := gd_fmt h
  have us : U (0 : Int) := ⟨by decide, by decide⟩
  unfold cutplaneref11_box.f
  rw [ref_Class (k + 1) f h.u]
  simp only [Option.bind_some]
  by_cases c5 : cl f w = 5
  · rw [if_pos c5, if_pos c5, hb c5]
    simp only [cutplaneref11_box.j0, Bool.false_eq_true, if_false, ref_Signed f us, Option.bind_some]
    simp [wv, Int.zero_emod]
  · rw [if_neg c5, if_neg c5, ref_Split f h.u]
    simp only [Option.bind_some, cutplaneref11_box.j0]
    cases big
    · simp only [Bool.false_eq_true, if_false, ref_Signed f us, Option.bind_some]
      by_cases s : w ≥ sgn f <;> simp [wv, s, Int.zero_emod]
    · simp only [if_true, ref_One hf, Option.bind_some]
      by_cases s : w ≥ sgn f <;> simp [wv, s]
/-- a number's direction -/
def bw (f a b : Int) : Int × Int := (wv f (onew f) (sd f a (zc f a b == 3)), wv f (onew f) (sd f b (zc f a b == 3)))
theorem sd_fin {f w : Int} : (if cl f w = 5 then ((0, false) : Int × Bool) else if (cl f w != 1) = true then (if w ≥ sgn f then (-1, true) else (1, false)) else (0, decide (w ≥ sgn f))) = sd f w false := by
  unfold sd
  by_cases c : cl f w = 1 <;> simp [c]
theorem sd_inf {f w : Int} : (if cl f w = 5 then ((0, false) : Int × Bool) else if (cl f w == 4) = true then (if w ≥ sgn f then (-1, true) else (1, false)) else (0, decide (w ≥ sgn f))) = sd f w true := by
  unfold sd
  by_cases c : cl f w = 4 <;> simp [c]
theorem zc_nan {f a b : Int} (h4 : zc f a b ≠ 4) (h3 : zc f a b ≠ 3) : cl f a ≠ 5 ∧ cl f b ≠ 5 := by
  unfold zc at h4 h3
  by_cases c4 : cl f a = 4 ∨ cl f b = 4
  · simp [c4] at h3
  · rw [if_neg c4] at h4
    by_cases c5 : cl f a = 5 ∨ cl f b = 5
    · simp [c5] at h4
    · exact ⟨fun h => c5 (.inl h), fun h => c5 (.inr h)⟩
theorem ref_Box (k : Nat) {f a b : Int} (h : Gz f a b) (h4 : zc f a b ≠ 4) : cutplaneref11_Box.f (k + 2) f a b = some (bw f a b) := by
  unfold cutplaneref11_Box.f bw
  rw [ref_Classz k f h.1.u h.2.u]
  simp only [Option.bind_some, ref_Class (k + 1) f h.1.u, ref_Class (k + 1) f h.2.u]
  by_cases h3 : zc f a b = 3
  · rw [if_pos h3, h3, ref_box k h.1 _ (fun c => by rw [c]; rfl), ref_box k h.2 _ (fun c => by rw [c]; rfl)]
    simp only [Option.bind_some, sd_inf]
    rfl
  · rw [if_neg h3]
    obtain ⟨n1, n2⟩ := zc_nan h4 h3
    rw [ref_box k h.1 _ (fun c => absurd c n1), ref_box k h.2 _ (fun c => absurd c n2)]
    simp only [Option.bind_some, sd_fin, show (zc f a b == 3) = false from beq_eq_false_iff_ne.mpr h3]
end Go.Proofs.YtlgapmhjaaajfaaGreat.PA
end

section
namespace Go.Proofs.YtlgapmhjaaajfaaGreat.PA
open Go.RowKit Go.Proofs.YtlgapmhjaaajfaaGreatW.PrintWords Go.Proofs.YtlgapmhjaaajfaaGreatW.PrintLast Go.Proofs.YtlgapmhjaaajfaaGreatW.PrintMore Go.Proofs.YtlgapmhjaaajfaaGreat.Wd
set_option linter.unusedSimpArgs false
set_option linter.unusedVariables false
def tm (s t : Int × Bool) : Int × Bool := (wrap64 (s.1 * t.1), s.2 != t.2)
def mn (s : Int × Bool) : Int × Bool := (wrap64 (-s.1), !s.2)
def pl (s t : Int × Bool) (m : Int) : Int × Bool := (special_side_plus.f s.1 s.2 t.1 t.2 m).getD (0, false)
theorem plus_val (s t : Int × Bool) (m : Int) : special_side_plus.f s.1 s.2 t.1 t.2 m = some (pl s t m) := by
  unfold pl special_side_plus.f
  repeat' split
  all_goals rfl
def btm (s t : (Int × Bool) × (Int × Bool)) (m : Int) : (Int × Bool) × (Int × Bool) := (pl (tm s.1 t.1) (mn (tm s.2 t.2)) m, pl (tm s.1 t.2) (tm s.2 t.1) m)
theorem times_val (s t : (Int × Bool) × (Int × Bool)) (m : Int) : special_box_times.f s.1.1 s.1.2 s.2.1 s.2.2 t.1.1 t.1.2 t.2.1 t.2.2 m = some ((btm s t m).1.1, (btm s t m).1.2, (btm s t m).2.1, (btm s t m).2.2) := by
  have h1 := plus_val (tm s.1 t.1) (mn (tm s.2 t.2)) m
  have h2 := plus_val (tm s.1 t.2) (tm s.2 t.1) m
  unfold tm mn at h1
  unfold tm at h2
  unfold special_box_times.f special_side_times.f special_side_minus.f btm tm mn
  simp only [Option.bind_some, h1, h2]
/-- a number's box -/
def bx (f a b : Int) : (Int × Bool) × (Int × Bool) := (sd f a (zc f a b == 3), sd f b (zc f a b == 3))
def wz (f size : Int) (s : (Int × Bool) × (Int × Bool)) : Int × Int := (wv f size s.1, wv f size s.2)
theorem snone_val (k : Nat) {f : Int} (hf : f = 1 ∨ f = 2) (x : Int) : special_none.f (k + 1) f x = some (nanw f, nanw f, x, x) := by
  unfold special_none.f
  rw [none_good k hf]; rfl
theorem oe_gz {f m a b c d : Int} (h : oe f m a b c d = 0) (ha : U a) (hb : U b) (hc : U c) (hd : U d) : Gz f a b ∧ Gz f c d ∧ Md m := by
  unfold oe at h
  by_cases hm : me f m = 0
  · rw [if_pos hm] at h
    have hM : Md m := by
      unfold me at hm
      by_cases hf : f = 1 ∨ f = 2
      · rw [if_pos hf] at hm
        by_cases hM : Md m
        · exact hM
        · rw [if_neg hM] at hm; exact absurd hm (by decide)
      · rw [if_neg hf] at hm; exact absurd hm (by decide)
    by_cases e : errz f a b = 0
    · rw [if_pos e] at h
      exact ⟨gz_of e ha hb, gz_of h hc hd, hM⟩
    · rw [if_neg e] at h; exact absurd h e
  · rw [if_neg hm] at h; exact absurd h hm
theorem tm_ok {s t : Int × Bool} (hs : Sd s) (ht : Sd t) : Sd (tm s t) := by
  rcases hs with rfl | rfl | rfl | rfl <;> rcases ht with rfl | rfl | rfl | rfl <;> unfold Sd <;> decide +kernel
theorem mn_ok {s : Int × Bool} (hs : Sd s) : Sd (mn s) := by
  rcases hs with rfl | rfl | rfl | rfl <;> unfold Sd <;> decide +kernel
theorem bx_ok (f a b : Int) : Sd (bx f a b).1 ∧ Sd (bx f a b).2 := ⟨sd_ok _ _ _, sd_ok _ _ _⟩
theorem u_wv {f size : Int} (hf : f = 1 ∨ f = 2) (hs : size = 0 ∨ size = onew f ∨ size = infw f) (s : Int × Bool) : Gd f (wv f size s) := by
  have h0 := small_ok hf (v := 0) (.inl rfl)
  have h1 := small_ok hf hs
  have hsg := sgn_cases f
  have key : ∀ v, Gd f v → v < sgn f → Gd f (v + sgn f) := by
    intro v hv hl
    rcases hv with ⟨rfl, a, b⟩ | ⟨rfl, a, b⟩
    · exact .inl ⟨rfl, by unfold sgn at *; simp at *; omega, by unfold sgn at *; simp at *; omega⟩
    · exact .inr ⟨rfl, by unfold sgn at *; simp at *; omega, by unfold sgn at *; simp at *; omega⟩
  unfold wv
  by_cases c : s.1 = 0
  · rw [if_pos c]
    cases s.2
    · exact h0.1
    · exact key _ h0.1 h0.2.2
  · rw [if_neg c]
    cases s.2
    · exact h1.1
    · exact key _ h1.1 h1.2.2
end Go.Proofs.YtlgapmhjaaajfaaGreat.PA
end

section
namespace Go.Proofs.YtlgapmhjaaajfaaGreat.PA
open Go.RowKit Go.Proofs.YtlgapmhjaaajfaaGreatW.PrintWords Go.Proofs.YtlgapmhjaaajfaaGreatW.PrintLast Go.Proofs.YtlgapmhjaaajfaaGreatW.PrintMore Go.Proofs.YtlgapmhjaaajfaaGreat.Wd
set_option linter.unusedSimpArgs false
set_option linter.unusedVariables false
def okv (f v : Int) (n : Int × Bool) : Bool := decide (0 ≤ v) && (decide (v < 18446744073709551616) && (if n.1 = 0 then v == wv f 0 n else cl f v != 1 && (decide (v ≥ sgn f) == n.2)))
def chk (o : Option (Int × Int)) (f : Int) (n : Int × Bool) : Bool := match o with | some p => okv f p.1 n | none => false
theorem chk_out {o : Option (Int × Int)} {f : Int} {n : Int × Bool} (h : chk o f n = true) : ∃ v x, o = some (v, x) ∧ okv f v n = true := by
  cases o with
  | none => exact absurd h (by simp [chk])
  | some p => exact ⟨p.1, p.2, rfl, h⟩
theorem md_cases {m : Int} (h : Md m) : m = 1 ∨ m = 2 ∨ m = 3 ∨ m = 4 ∨ m = 5 := by unfold Md at h; omega
set_option maxRecDepth 100000 in
theorem rmul_tab {f m : Int} (hf : f = 1 ∨ f = 2) (hm : Md m) {s t : Int × Bool} (hs : Sd s) (ht : Sd t) : cutplaneref05_Mul.f 100 f m (wv f (onew f) s) (wv f (onew f) t) = some (wv f (onew f) (tm s t), 0) := by
  rcases md_cases hm with rfl | rfl | rfl | rfl | rfl <;> rcases hf with rfl | rfl <;> rcases hs with rfl | rfl | rfl | rfl <;> rcases ht with rfl | rfl | rfl | rfl <;> decide +kernel
set_option maxRecDepth 100000 in
theorem radd_tab {f m : Int} (hf : f = 1 ∨ f = 2) (hm : Md m) {s t : Int × Bool} (hs : Sd s) (ht : Sd t) : chk (cutplaneref05_Add.f 100 f m (wv f (onew f) s) (wv f (onew f) t)) f (pl s t m) = true := by
  rcases md_cases hm with rfl | rfl | rfl | rfl | rfl <;> rcases hf with rfl | rfl <;> rcases hs with rfl | rfl | rfl | rfl <;> rcases ht with rfl | rfl | rfl | rfl <;> decide +kernel
set_option maxRecDepth 100000 in
theorem rsub_tab {f m : Int} (hf : f = 1 ∨ f = 2) (hm : Md m) {s t : Int × Bool} (hs : Sd s) (ht : Sd t) : chk (cutplaneref05_Sub.f 100 f m (wv f (onew f) s) (wv f (onew f) t)) f (pl s (mn t) m) = true := by
  rcases md_cases hm with rfl | rfl | rfl | rfl | rfl <;> rcases hf with rfl | rfl <;> rcases hs with rfl | rfl | rfl | rfl <;> rcases ht with rfl | rfl | rfl | rfl <;> decide +kernel
theorem okv_u {f v : Int} {n : Int × Bool} (h : okv f v n = true) : U v := by
  unfold okv at h
  simp only [Bool.and_eq_true, decide_eq_true_eq] at h
  exact ⟨h.1, h.2.1⟩
/-- what turned makes of a word -/
def tv (f v z : Int) : Int := if cl f v = 1 then v else if v ≥ sgn f then z % sgn f + sgn f else z % sgn f
theorem tv_size {f v : Int} (hf : f = 1 ∨ f = 2) {n : Int × Bool} (h : okv f v n = true) {z : Int} (h0 : 0 ≤ z) (h1 : z < sgn f) : tv f v z = wv f z n := by
  unfold okv at h
  simp only [Bool.and_eq_true, decide_eq_true_eq] at h
  obtain ⟨_, _, h⟩ := h
  have hz : z % sgn f = z := Int.emod_eq_of_lt h0 h1
  unfold tv wv
  by_cases c : n.1 = 0
  · rw [if_pos c] at h
    have e := beq_iff_eq.mp h
    have c1 : cl f v = 1 := by
      rw [e]
      unfold wv
      rw [if_pos c]
      rcases hf with rfl | rfl <;> cases n.2 <;> decide +kernel
    rw [if_pos c1, e, if_pos c]
    unfold wv
    rw [if_pos c]
  · rw [if_neg c] at h
    simp only [Bool.and_eq_true, bne_iff_ne, ne_eq, beq_iff_eq] at h
    rw [if_neg h.1, if_neg c, hz, ← h.2]
    by_cases g : v ≥ sgn f <;> simp [g]
theorem turned_val (k : Nat) {f : Int} {x y z : Int} (ux : U x) (uy : U y) (uz : U z) : cutplaneref11_turned.f (k + 4) f x y z = some (tv f x z, tv f y z) := by
  have l2 : ∀ x y : Int, (([x, y] : List Int).length : Int) = 2 := fun _ _ => rfl
  have t0 : (0 : Int) < 2 := by decide
  have t1 : (1 : Int) < 2 := by decide
  have t2 : ¬ (2 : Int) < 2 := by decide
  have t3 : (0 : Int) ≤ 1 := by decide
  have w1 : wrap64 (0 + 1) = 1 := by decide +kernel
  have w2 : wrap64 (1 + 1) = 2 := by decide +kernel
  have w3 : wrap64 1 = 1 := by decide +kernel
  have w4 : wrap64 2 = 2 := by decide +kernel
  have r0 : ∀ x y : Int, rd [x, y] 0 = x := fun _ _ => rfl
  have r1 : ∀ x y : Int, rd [x, y] 1 = y := fun _ _ => rfl
  have s0 : ∀ x y q : Int, ([x, y] : List Int).set (0 : Int).toNat q = [q, y] := fun _ _ _ => rfl
  have s1 : ∀ x y q : Int, ([x, y] : List Int).set (1 : Int).toNat q = [x, q] := fun _ _ _ => rfl
  unfold cutplaneref11_turned.f tv
  by_cases cx : cl f x = 1 <;> by_cases cy : cl f y = 1 <;> by_cases gx : x ≥ sgn f <;> by_cases gy : y ≥ sgn f <;>
    simp [cutplaneref11_turned.l0, l2, t0, t1, t2, t3, w1, w2, w3, w4, r0, r1, s0, s1, ref_Class _ f ux, ref_Class _ f uy, cx, cy, ref_Split f ux, ref_Split f uy, ref_Signed f uz, gx, gy]
/-- the document's product of two boxes, its words made another size -/
theorem prod_val (k : Nat) {f m : Int} (hf : f = 1 ∨ f = 2) (hm : Md m) {s t : (Int × Bool) × (Int × Bool)} (h1 : Sd s.1) (h2 : Sd s.2) (h3 : Sd t.1) (h4 : Sd t.2) :
    ∃ x y, cutplaneref11_product.f (k + 100) f m (wv f (onew f) s.1) (wv f (onew f) s.2) (wv f (onew f) t.1) (wv f (onew f) t.2) = some (x, y) ∧ okv f x (btm s t m).1 = true ∧ okv f y (btm s t m).2 = true := by
  have mul : ∀ {a b : Int × Bool}, Sd a → Sd b → cutplaneref05_Mul.f (k + 100) f m (wv f (onew f) a) (wv f (onew f) b) = some (wv f (onew f) (tm a b), 0) := fun ha hb =>
    up_ (g := fun k => cutplaneref05_Mul.f k f m _ _) (fun k => cutplaneref05_Mul.mono _ _ _ _ k) (rmul_tab hf hm ha hb) k
  obtain ⟨x, fx, ex, hx⟩ := chk_out (rsub_tab hf hm (tm_ok h1 h3) (tm_ok h2 h4))
  obtain ⟨y, fy, ey, hy⟩ := chk_out (radd_tab hf hm (tm_ok h1 h4) (tm_ok h2 h3))
  have sub := up_ (g := fun k => cutplaneref05_Sub.f k f m _ _) (fun k => cutplaneref05_Sub.mono _ _ _ _ k) ex k
  have add := up_ (g := fun k => cutplaneref05_Add.f k f m _ _) (fun k => cutplaneref05_Add.mono _ _ _ _ k) ey k
  refine ⟨x, y, ?_, hx, hy⟩
  unfold cutplaneref11_product.f
  simp only [mul h1 h3, mul h2 h4, mul h1 h4, mul h2 h3, Option.bind_some, sub, add]
theorem fin_zc (f a b : Int) : zc f a b ≤ 2 ↔ (cl f a ≠ 4 ∧ cl f a ≠ 5) ∧ (cl f b ≠ 4 ∧ cl f b ≠ 5) := by
  unfold zc
  by_cases a4 : cl f a = 4 <;> by_cases b4 : cl f b = 4 <;> by_cases a5 : cl f a = 5 <;> by_cases b5 : cl f b = 5 <;> by_cases c : cl f a = 1 <;> by_cases c2 : cl f b = 1 <;> simp_all
theorem ref_Fin (k : Nat) {f w : Int} (h : Gd f w) : cutplaneref03_Finite.f (k + 1) f w = some (decide (cl f w ≠ 4 ∧ cl f w ≠ 5)) := by
  unfold cutplaneref03_Finite.f
  rw [ref_Class k f h.u]
  simp only [Option.bind_some]
  by_cases a4 : cl f w = 4 <;> by_cases a5 : cl f w = 5 <;> simp_all
theorem ref_Finz (k : Nat) {f a b : Int} (h : Gz f a b) : cutplaneref10_Finite.f (k + 1) f a b = some (decide (zc f a b ≤ 2)) := by
  unfold cutplaneref10_Finite.f
  rw [ref_Fin k h.1, ref_Fin k h.2]
  simp only [Option.bind_some, fin_zc]
  by_cases p : cl f a ≠ 4 ∧ cl f a ≠ 5 <;> by_cases q : cl f b ≠ 4 ∧ cl f b ≠ 5 <;> simp [p, q]
theorem rnothing {f : Int} (x : Int) : cutplaneref11_nothing.f f x = some (nanw f, nanw f, x, x) := by
  unfold cutplaneref11_nothing.f
  rw [ref_None]; rfl
theorem inf_lt {f : Int} (hf : f = 1 ∨ f = 2) : 0 ≤ infw f ∧ infw f < sgn f ∧ U (infw f) := by
  rcases hf with rfl | rfl <;> exact ⟨by decide, by decide, by decide, by decide⟩
end Go.Proofs.YtlgapmhjaaajfaaGreat.PA
end

section
namespace Go.Proofs.YtlgapmhjaaajfaaGreat.PA
open Go.RowKit Go.Proofs.YtlgapmhjaaajfaaGreatW.PrintWords Go.Proofs.YtlgapmhjaaajfaaGreatW.PrintLast Go.Proofs.YtlgapmhjaaajfaaGreatW.PrintMore Go.Proofs.YtlgapmhjaaajfaaGreat.Wd
set_option linter.unusedSimpArgs false
set_option linter.unusedVariables false
/-- the box by which is divided -/
def byx (f c d : Int) : (Int × Bool) × (Int × Bool) := (if zc f c d = 1 then (if (bx f c d).1.2 = true then (-1, (bx f c d).1.2) else (1, (bx f c d).1.2)) else (bx f c d).1, mn (bx f c d).2)
/-- what a quotient comes to -/
def divv (f m a b c d : Int) : Int × Int × Int × Int × Bool × Int :=
  if zc f a b ≤ 2 ∧ zc f c d = 2 then (0, 0, 0, 0, false, 0) else if zc f a b = 4 ∨ zc f c d = 4 then (nanw f, nanw f, 0, 0, true, 0) else
    if zc f a b = zc f c d then (nanw f, nanw f, 1, 1, true, 0) else if zc f c d = 3 then ((wz f 0 (btm (bx f a b) (byx f c d) m)).1, (wz f 0 (btm (bx f a b) (byx f c d) m)).2, 0, 0, true, 0) else
      if zc f a b = 3 then ((wz f (infw f) (btm (bx f a b) (byx f c d) m)).1, (wz f (infw f) (btm (bx f a b) (byx f c d) m)).2, 0, 0, true, 0) else ((wz f (infw f) (btm (bx f a b) (byx f c d) m)).1, (wz f (infw f) (btm (bx f a b) (byx f c d) m)).2, 2, 2, true, 0)
theorem div_bad (k : Nat) {f m a b c d : Int} (ha : U a) (hb : U b) (hc : U c) (hd : U d) (h : oe f m a b c d ≠ 0) : special_Div.f (k + 6) f m a b c d = some (0, 0, 0, 0, false, oe f m a b c d) := by
  unfold special_Div.f
  rw [zopen_val k ha hb hc hd, if_neg h]
  simp only [Option.bind_some, if_neg h]
theorem div_good (k : Nat) {f m a b c d : Int} (ha : U a) (hb : U b) (hc : U c) (hd : U d) (h : oe f m a b c d = 0) : special_Div.f (k + 9) f m a b c d = some (divv f m a b c d) := by
  obtain ⟨g1, g2, hM⟩ := oe_gz h ha hb hc hd
  have hf := gd_fmt g1.1
  have l2 : ∀ x y : Int, (([x, y] : List Int).length : Int) = 2 := fun _ _ => rfl
  have t0 : (0 : Int) < 2 := by decide
  have t1 : (1 : Int) < 2 := by decide
  have r0 : ∀ x y : Int, rd [x, y] 0 = x := fun _ _ => rfl
  have r1 : ∀ x y : Int, rd [x, y] 1 = y := fun _ _ => rfl
  unfold special_Div.f
  rw [zopen_val (k + 3) ha hb hc hd, if_pos h]
  simp only [Option.bind_some, if_true, l2, t0, t1, r0, r1, inf_good _ hf, Bool.false_eq_true, if_false]
  have last : ∀ (q : Nat) (n : Int) (g : Bool), (n, g) = (byx f c d).1 → special_Div.j2 (q + 5) f m (zc f a b) (zc f c d) (infw f) a b n g (bx f c d).2.1 (bx f c d).2.2 = some (if zc f c d = 3 then ((wz f 0 (btm (bx f a b) (byx f c d) m)).1, (wz f 0 (btm (bx f a b) (byx f c d) m)).2, 0, 0, true, 0) else
      if zc f a b = 3 then ((wz f (infw f) (btm (bx f a b) (byx f c d) m)).1, (wz f (infw f) (btm (bx f a b) (byx f c d) m)).2, 0, 0, true, 0) else ((wz f (infw f) (btm (bx f a b) (byx f c d) m)).1, (wz f (infw f) (btm (bx f a b) (byx f c d) m)).2, 2, 2, true, 0)) := by
    intro q n g e
    have hbt := times_val (bx f a b) (byx f c d) m
    rw [← e] at hbt
    simp only at hbt
    have hmn : special_side_minus.f (bx f c d).2.1 (bx f c d).2.2 = some (byx f c d).2 := rfl
    have hba := box_val (q + 1) g1 (zc f a b)
    have hbx : special_boxOf.f (q + 1 + 3) f a b (zc f a b) = some ((bx f a b).1.1, (bx f a b).1.2, (bx f a b).2.1, (bx f a b).2.2) := hba
    simp only [special_Div.j2, hmn, Option.bind_some, hbx, hbt, words_val _ hf (.inr (.inr rfl)), words_val _ hf (.inl rfl)]
    unfold wz
    by_cases q3 : zc f c d = 3
    · rw [if_pos q3, if_pos q3]
    · rw [if_neg q3, if_neg q3]
      by_cases p3 : zc f a b = 3
      · rw [if_pos p3, if_pos p3]
      · rw [if_neg p3, if_neg p3]
  have tail : ∀ q : Nat, special_Div.j1 (q + 6) f m (zc f a b) (zc f c d) (infw f) false a b c d = some (if zc f a b = zc f c d then (nanw f, nanw f, 1, 1, true, 0) else if zc f c d = 3 then ((wz f 0 (btm (bx f a b) (byx f c d) m)).1, (wz f 0 (btm (bx f a b) (byx f c d) m)).2, 0, 0, true, 0) else
      if zc f a b = 3 then ((wz f (infw f) (btm (bx f a b) (byx f c d) m)).1, (wz f (infw f) (btm (bx f a b) (byx f c d) m)).2, 0, 0, true, 0) else ((wz f (infw f) (btm (bx f a b) (byx f c d) m)).1, (wz f (infw f) (btm (bx f a b) (byx f c d) m)).2, 2, 2, true, 0)) := by
    intro q
    simp only [special_Div.j1, Bool.false_eq_true, if_false, snone_val _ hf, Option.bind_some]
    by_cases e : zc f a b = zc f c d
    · rw [if_pos e, if_pos e]
    · rw [if_neg e, if_neg e]
      have hbc : special_boxOf.f (q + 2 + 3) f c d (zc f c d) = some ((bx f c d).1.1, (bx f c d).1.2, (bx f c d).2.1, (bx f c d).2.2) := box_val (q + 2) g2 (zc f c d)
      simp only [hbc, Option.bind_some]
      by_cases q1 : zc f c d = 1
      · rw [if_pos q1]
        by_cases g : (bx f c d).1.2 = true
        · rw [if_pos g, last q _ _ (by unfold byx; rw [if_pos q1, if_pos g])]
        · rw [if_neg g, last q _ _ (by unfold byx; rw [if_pos q1, if_neg g])]
      · rw [if_neg q1, last q _ _ (by unfold byx; rw [if_neg q1])]
  have nn : ∀ q : Nat, special_Div.j1 (q + 5) f m (zc f a b) (zc f c d) (infw f) true a b c d = some (nanw f, nanw f, 0, 0, true, 0) := by
    intro q
    simp only [special_Div.j1, if_true, snone_val _ hf, Option.bind_some]
  have step : ∀ q : Nat, special_Div.j0 (q + 7) f m (zc f a b) (zc f c d) (infw f) false a b c d = some (if zc f a b = 4 ∨ zc f c d = 4 then (nanw f, nanw f, 0, 0, true, 0) else if zc f a b = zc f c d then (nanw f, nanw f, 1, 1, true, 0) else if zc f c d = 3 then ((wz f 0 (btm (bx f a b) (byx f c d) m)).1, (wz f 0 (btm (bx f a b) (byx f c d) m)).2, 0, 0, true, 0) else
      if zc f a b = 3 then ((wz f (infw f) (btm (bx f a b) (byx f c d) m)).1, (wz f (infw f) (btm (bx f a b) (byx f c d) m)).2, 0, 0, true, 0) else ((wz f (infw f) (btm (bx f a b) (byx f c d) m)).1, (wz f (infw f) (btm (bx f a b) (byx f c d) m)).2, 2, 2, true, 0)) := by
    intro q
    simp only [special_Div.j0, Bool.false_eq_true, if_false]
    by_cases p4 : zc f a b = 4
    · rw [if_pos p4, nn (q + 1), if_pos (.inl p4)]
    · rw [if_neg p4]
      by_cases q4 : zc f c d = 4
      · rw [show (zc f c d == 4) = true from beq_iff_eq.mpr q4, nn (q + 1), if_pos (.inr q4)]
      · rw [show (zc f c d == 4) = false from beq_eq_false_iff_ne.mpr q4, tail, if_neg (show ¬ (zc f a b = 4 ∨ zc f c d = 4) from fun h => h.elim p4 q4)]
  unfold divv
  by_cases p2 : zc f a b ≤ 2
  · rw [if_pos p2]
    by_cases q2 : zc f c d = 2
    · rw [show (zc f c d == 2) = true from beq_iff_eq.mpr q2, if_pos ⟨p2, q2⟩]
      simp only [special_Div.j0, if_true]
    · rw [show (zc f c d == 2) = false from beq_eq_false_iff_ne.mpr q2, if_neg (fun h => q2 h.2), step (k + 2)]
  · rw [if_neg p2, if_neg (fun h => p2 h.1), step (k + 2)]
theorem byx_ok (f c d : Int) : Sd (byx f c d).1 ∧ Sd (byx f c d).2 := by
  obtain ⟨h1, h2⟩ := bx_ok f c d
  unfold byx
  refine ⟨?_, mn_ok h2⟩
  by_cases q : zc f c d = 1
  · rw [if_pos q]
    by_cases g : (bx f c d).1.2 = true
    · rw [if_pos g, g]; exact .inr (.inl rfl)
    · rw [if_neg g, Bool.eq_false_iff.mpr g]; exact .inl rfl
  · rw [if_neg q]; exact h1
end Go.Proofs.YtlgapmhjaaajfaaGreat.PA
end

section
namespace Go.Proofs.YtlgapmhjaaajfaaGreat.Pure
open Go.RowKit Go.Proofs.YtlgapmhjaaajfaaGreat.PA Go.Proofs.YtlgapmhjaaajfaaGreatW.PrintWords Go.Proofs.YtlgapmhjaaajfaaGreatW.PrintLast Go.Proofs.YtlgapmhjaaajfaaGreatW.PrintMore Go.Proofs.YtlgapmhjaaajfaaGreat.Wd
set_option linter.unusedSimpArgs false
set_option linter.unusedVariables false
theorem can_wv {f : Int} (hf : f = 1 ∨ f = 2) {s : Int × Bool} (h : Sd s) : canw f (wv f (onew f) s) = wv f (onew f) s := by
  rcases hf with rfl | rfl <;> rcases h with rfl | rfl | rfl | rfl <;> decide +kernel
theorem neg_wv {f : Int} (hf : f = 1 ∨ f = 2) {s : Int × Bool} (h : Sd s) : negw f (wv f (onew f) s) = wv f (onew f) (mn s) := by
  rcases hf with rfl | rfl <;> rcases h with rfl | rfl | rfl | rfl <;> decide +kernel
theorem one_wv {f c d : Int} (h1 : zc f c d = 1) : (if decide (c ≥ sgn f) = true then onew f + sgn f else onew f) = wv f (onew f) (byx f c d).1 := by
  have hc : cl f c = 1 := by
    unfold zc at h1
    by_cases p : cl f c = 4 ∨ cl f d = 4
    · rw [if_pos p] at h1; exact absurd h1 (by decide)
    · rw [if_neg p] at h1
      by_cases q : cl f c = 5 ∨ cl f d = 5
      · rw [if_pos q] at h1; exact absurd h1 (by decide)
      · rw [if_neg q] at h1
        by_cases r : cl f c = 1 ∧ cl f d = 1
        · exact r.1
        · rw [if_neg r] at h1; exact absurd h1 (by decide)
  have hb : (bx f c d).1 = (0, decide (c ≥ sgn f)) := by
    unfold bx sd
    rw [h1]
    simp [hc]
  unfold byx
  rw [if_pos h1, hb]
  by_cases g : c ≥ sgn f <;> simp [g, wv]
theorem ref_div {f m a b c d : Int} (g1 : Gz f a b) (g2 : Gz f c d) (hM : Md m) : cutplaneref11_Div.f 120 f m a b c d = some ((divv f m a b c d).1, (divv f m a b c d).2.1, (divv f m a b c d).2.2.1, (divv f m a b c d).2.2.2.1, (divv f m a b c d).2.2.2.2.1) := by
  have hf := gd_fmt g1.1
  obtain ⟨i0, i1, iu⟩ := inf_lt hf
  have u0 : U (0 : Int) := ⟨by decide, by decide⟩
  have s0 : (0 : Int) < sgn f := by rcases hf with rfl | rfl <;> decide
  have three : ∀ x y, x = wv f (onew f) (byx f c d).1 → y = wv f (onew f) (bx f c d).2 → zc f a b ≠ 4 → cutplaneref11_Div.j3 117 f m (zc f a b) (zc f c d) a b x y =
      some (if zc f c d = 3 then ((wz f 0 (btm (bx f a b) (byx f c d) m)).1, (wz f 0 (btm (bx f a b) (byx f c d) m)).2, 0, 0, true) else if zc f a b = 3 then ((wz f (infw f) (btm (bx f a b) (byx f c d) m)).1, (wz f (infw f) (btm (bx f a b) (byx f c d) m)).2, 0, 0, true) else ((wz f (infw f) (btm (bx f a b) (byx f c d) m)).1, (wz f (infw f) (btm (bx f a b) (byx f c d) m)).2, 2, 2, true)) := by
    intro x y hx0 hy0 p4
    subst hx0 hy0
    obtain ⟨h1, h2⟩ := bx_ok f a b
    obtain ⟨h3, h4⟩ := byx_ok f c d
    obtain ⟨h5, h6⟩ := bx_ok f c d
    obtain ⟨x, y, e, hx, hy⟩ := prod_val 16 hf hM h1 h2 h3 h4
    have hcj : cutplaneref10_Conj.f 116 f (wv f (onew f) (byx f c d).1) (wv f (onew f) (bx f c d).2) = some (wv f (onew f) (byx f c d).1, wv f (onew f) (byx f c d).2) := by
      rw [ref_Conjz 115 ⟨u_wv hf (.inr (.inl rfl)) _, u_wv hf (.inr (.inl rfl)) _⟩, can_wv hf h3, neg_wv hf h6]
      rfl
    have e' : cutplaneref11_product.f 116 f m (bw f a b).1 (bw f a b).2 (wv f (onew f) (byx f c d).1) (wv f (onew f) (byx f c d).2) = some (x, y) := e
    simp only [cutplaneref11_Div.j3, ref_Box 114 g1 p4, Option.bind_some, hcj, e', ref_Inf, Bool.false_eq_true, if_false, turned_val 112 (okv_u hx) (okv_u hy) iu, turned_val 112 (okv_u hx) (okv_u hy) u0, tv_size hf hx i0 i1, tv_size hf hy i0 i1, tv_size hf hx (Int.le_refl 0) s0, tv_size hf hy (Int.le_refl 0) s0]
    unfold wz
    by_cases q3 : zc f c d = 3
    · rw [if_pos q3, if_pos q3]
    · rw [if_neg q3, if_neg q3]
      by_cases p3 : zc f a b = 3
      · rw [if_pos p3, if_pos p3]
      · rw [if_neg p3, if_neg p3]
  have two : zc f a b ≠ 4 → zc f c d ≠ 4 → cutplaneref11_Div.j2 118 f m (zc f a b) (zc f c d) false a b c d =
      some (if zc f c d = 3 then ((wz f 0 (btm (bx f a b) (byx f c d) m)).1, (wz f 0 (btm (bx f a b) (byx f c d) m)).2, 0, 0, true) else if zc f a b = 3 then ((wz f (infw f) (btm (bx f a b) (byx f c d) m)).1, (wz f (infw f) (btm (bx f a b) (byx f c d) m)).2, 0, 0, true) else ((wz f (infw f) (btm (bx f a b) (byx f c d) m)).1, (wz f (infw f) (btm (bx f a b) (byx f c d) m)).2, 2, 2, true)) := by
    intro p4 q4
    simp only [cutplaneref11_Div.j2, Bool.false_eq_true, if_false, ref_Box 115 g2 q4, Option.bind_some]
    by_cases q1 : zc f c d = 1
    · rw [if_pos q1, ref_Split f g2.1.u]
      simp only [Option.bind_some, ref_One hf]
      exact three _ _ (one_wv q1) rfl p4
    · rw [if_neg q1]
      exact three _ _ (by unfold bw byx bx; rw [if_neg q1]) rfl p4
  unfold cutplaneref11_Div.f divv
  simp only [ref_Classz 118 f g1.1.u g1.2.u, ref_Classz 118 f g2.1.u g2.2.u, ref_Finz 119 g1, Option.bind_some]
  have one : zc f a b ≠ 4 → zc f c d ≠ 4 → zc f a b ≠ zc f c d → cutplaneref11_Div.j1 119 f m (zc f a b) (zc f c d) false a b c d = cutplaneref11_Div.j2 118 f m (zc f a b) (zc f c d) false a b c d := by
    intro _ _ ne
    simp only [cutplaneref11_Div.j1, Bool.false_eq_true, if_false, if_neg ne]
  have step : ¬ (zc f a b ≤ 2 ∧ zc f c d = 2) → cutplaneref11_Div.j0 120 f m (zc f a b) (zc f c d) false a b c d = some (if zc f a b = 4 ∨ zc f c d = 4 then (nanw f, nanw f, 0, 0, true) else if zc f a b = zc f c d then (nanw f, nanw f, 1, 1, true) else
      if zc f c d = 3 then ((wz f 0 (btm (bx f a b) (byx f c d) m)).1, (wz f 0 (btm (bx f a b) (byx f c d) m)).2, 0, 0, true) else if zc f a b = 3 then ((wz f (infw f) (btm (bx f a b) (byx f c d) m)).1, (wz f (infw f) (btm (bx f a b) (byx f c d) m)).2, 0, 0, true) else ((wz f (infw f) (btm (bx f a b) (byx f c d) m)).1, (wz f (infw f) (btm (bx f a b) (byx f c d) m)).2, 2, 2, true)) := by
    intro hn
    simp only [cutplaneref11_Div.j0, Bool.false_eq_true, if_false]
    by_cases p4 : zc f a b = 4
    · rw [if_pos p4, if_pos (.inl p4)]
      simp only [cutplaneref11_Div.j1, if_true, rnothing, Option.bind_some]
    · rw [if_neg p4]
      by_cases q4 : zc f c d = 4
      · rw [show (zc f c d == 4) = true from beq_iff_eq.mpr q4, if_pos (.inr q4)]
        simp only [cutplaneref11_Div.j1, if_true, rnothing, Option.bind_some]
      · rw [show (zc f c d == 4) = false from beq_eq_false_iff_ne.mpr q4, if_neg (show ¬ (zc f a b = 4 ∨ zc f c d = 4) from fun h => h.elim p4 q4)]
        by_cases e : zc f a b = zc f c d
        · have n2 : (zc f a b != 2) = true := by
            rw [bne_iff_ne]
            intro h2
            exact hn ⟨by rw [h2]; exact Int.le_refl _, by rw [← e, h2]⟩
          rw [if_pos e]
          simp only [cutplaneref11_Div.j1, cutplaneref11_Div.j2, Bool.false_eq_true, if_false, if_pos e, n2, if_true, rnothing, Option.bind_some]
        · rw [if_neg e, one p4 q4 e, two p4 q4]
  by_cases p2 : zc f a b ≤ 2
  · rw [decide_eq_true p2, if_pos rfl]
    by_cases q2 : zc f c d = 2
    · rw [show (zc f c d == 2) = true from beq_iff_eq.mpr q2, if_pos ⟨p2, q2⟩]
      simp only [cutplaneref11_Div.j0, if_true]
    · rw [show (zc f c d == 2) = false from beq_eq_false_iff_ne.mpr q2, if_neg (fun h => q2 h.2), step (fun h => q2 h.2)]
      repeat' split
      all_goals rfl
  · rw [decide_eq_false p2, if_neg (by decide), if_neg (fun h => p2 h.1), step (fun h => p2 h.1)]
    repeat' split
    all_goals rfl
theorem SpecialQuotients : cutplanelaw11_SpecialQuotients.Pure := by
  intro f m a b c d _ _ ha hb hc hd
  have ua := u_of ha
  have ub := u_of hb
  have uc := u_of hc
  have ud := u_of hd
  refine ⟨120, ?_⟩
  unfold cutplanelaw11_SpecialQuotients.f
  rw [opens_val 117]
  by_cases h : oe f m a b c d = 0
  · obtain ⟨g1, g2, hM⟩ := oe_gz h ua ub uc ud
    have e5 : (divv f m a b c d).2.2.2.2.2 = 0 := by
      unfold divv
      repeat' split
      all_goals rfl
    rw [div_good 111 ua ub uc ud h, ref_div g1 g2 hM]
    simp [h, e5, known11 96]
  · rw [div_bad 114 ua ub uc ud h]
    simp [h, known11 96]
end Go.Proofs.YtlgapmhjaaajfaaGreat.Pure
end
