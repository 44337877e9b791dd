/- Steps of Go functions that the law CutsSides uses, told as plain Lean functions, each with the proof that its call comes to what it tells; words on memory; plain facts. No condition beyond those that each text names. -/
import Derived.Test.YtgaabjjenlbmhaaProg
import Derived.WalkMore
import Derived.Laws.BitsAllLaws
import Derived.OpenShut
import Derived.Test.YtgaabjjenlbmhaaSCutsSides0
import Derived.Test.YtgaabjjenlbmhaaSCutsSides1
import Derived.Test.YtgaabjjenlbmhaaSCutsSides2
import Derived.Test.YtgaabjjenlbmhaaSCutsSides3
import Derived.Test.YtgaabjjenlbmhaaSCutsSides4
import Derived.Test.YtgaabjjenlbmhaaSCutsSides5
import Derived.Test.YtgaabjjenlbmhaaSCutsSides6
import Derived.Test.YtgaabjjenlbmhaaSCutsSides7
import Derived.Test.YtgaabjjenlbmhaaSCutsSides8
import Derived.Test.YtgaabjjenlbmhaaSCutsSides9
import Derived.Test.YtgaabjjenlbmhaaSCutsSides10
import Derived.Test.YtgaabjjenlbmhaaSCutsSides11
set_option maxHeartbeats 16000000
set_option maxRecDepth 100000
section
namespace Go.Proofs.Ytgaabjjenlbmhaa.PA
open Go.RowKit Go.Proofs.YtgaabjjenlbmhaaW.PrintWords Go.Proofs.YtgaabjjenlbmhaaW.PrintLast Go.Proofs.YtgaabjjenlbmhaaW.PrintMore
attribute [local go_sem] max2_int min2_int max_two min_two max_three min_three max_four min_four   -- for this text's walks alone
set_option linter.unusedVariables false
set_option linter.unusedSimpArgs false
def cutplanelaw20_CutsSides.f (k : Nat) (a0 : Int) (a1 : Int) (a2_0 : Int) (a2_1 : Int) : Option (Bool) := (cuts_On.f k a0 a1 a2_0 a2_1).bind fun bt829 => ((cuts_Side.f k a0 a1 a2_0 a2_1).bind fun bt831 => ((cuts_Signs.f k a0 a1 a2_0 a2_1).bind fun bt833 => ((cutplaneref10_Good.f k a0 (([(⟨a2_0, a2_1⟩ : S25)] : List (S25)))).bind fun t839 => (if t839 = 0 then ((cutplaneref20_Is.f a1).bind fun t840 => (if t840 = true then ((cutplaneref20_On.f k a0 a1 a2_0 a2_1).bind fun bt841 => (if (bt829.1 != bt841.2.2.2) = true then (none) else (if bt829.2 = 0 then (if bt841.2.2.2 = true then ((cutplaneref20_Signs.f k a0 a1 bt841.1 bt841.2.1 bt841.2.2.1 a2_0 a2_1).bind fun bt846 => ((cutplaneref20_Side.f a0 bt841.1 bt841.2.1 bt841.2.2.1 a2_0 a2_1).bind fun t848 => (if bt831.1 = t848 then (if bt831.2 = 0 then (if bt833.1 = bt846.1 then (if bt833.2.1 = bt846.2 then (if bt833.2.2 = 0 then ((cutplanelaw20_known.f k).bind fun t849 => (some t849)) else (none)) else (none)) else (none)) else (none)) else (none)))) else (if bt831.1 = 0 then (if bt831.2 = 7 then (if bt833.1 = 0 then (if bt833.2.1 = 0 then (if bt833.2.2 = 7 then ((cutplanelaw20_known.f k).bind fun t850 => (some t850)) else (none)) else (none)) else (none)) else (none)) else (none))) else (none)))) else (if 2 = 0 then ((cutplaneref20_On.f k a0 a1 a2_0 a2_1).bind fun bt851 => (if (bt829.1 != bt851.2.2.2) = true then (none) else (if bt829.2 = 0 then (if bt851.2.2.2 = true then ((cutplaneref20_Signs.f k a0 a1 bt851.1 bt851.2.1 bt851.2.2.1 a2_0 a2_1).bind fun bt856 => ((cutplaneref20_Side.f a0 bt851.1 bt851.2.1 bt851.2.2.1 a2_0 a2_1).bind fun t858 => (if bt831.1 = t858 then (if bt831.2 = 0 then (if bt833.1 = bt856.1 then (if bt833.2.1 = bt856.2 then (if bt833.2.2 = 0 then ((cutplanelaw20_known.f k).bind fun t859 => (some t859)) else (none)) else (none)) else (none)) else (none)) else (none)))) else (if bt831.1 = 0 then (if bt831.2 = 7 then (if bt833.1 = 0 then (if bt833.2.1 = 0 then (if bt833.2.2 = 7 then ((cutplanelaw20_known.f k).bind fun t860 => (some t860)) else (none)) else (none)) else (none)) else (none)) else (none))) else (none)))) else (if bt829.1 = true then (none) else (if bt829.2 = 2 then (if bt831.1 = 0 then (if bt831.2 = 2 then (if bt833.1 = 0 then (if bt833.2.1 = 0 then (if bt833.2.2 = 2 then ((cutplanelaw20_known.f k).bind fun t861 => (some t861)) else (none)) else (none)) else (none)) else (none)) else (none)) else (none)))))) else (if bt829.1 = true then (none) else (if bt829.2 = t839 then (if bt831.1 = 0 then (if bt831.2 = t839 then (if bt833.1 = 0 then (if bt833.2.1 = 0 then (if bt833.2.2 = t839 then ((cutplanelaw20_known.f k).bind fun t862 => (some t862)) else (none)) else (none)) else (none)) else (none)) else (none)) else (none)))))))
theorem cutplanelaw20_CutsSides.calls (k : Nat) (a0 : Int) (a1 : Int) (a2_0 : Int) (a2_1 : Int) (r : Bool) (w : World) (h : cutplanelaw20_CutsSides.f k a0 a1 a2_0 a2_1 = some r) :
  Calls Try.prog 8 #[.int .u8 a0, .int .u8 a1, .agg #[.int .u64 a2_0, .int .u64 a2_1]] w fun e w' => e = .returned (.bool r) ∧ Below w.heap.size w w' := by
 have hu25 := Try.underlying25
 have hu54 := Try.underlying54
 have HB := A0_ (Below.refl w.heap.size w)
 have H := h
 clear h
 unfold cutplanelaw20_CutsSides.f at H
 obtain ⟨⟨t829, t830⟩, A4, H⟩ := bs_ H
 try dsimp -simprocs only at H
 obtain ⟨⟨t831, t832⟩, A5, H⟩ := bs_ H
 try dsimp -simprocs only at H
 obtain ⟨⟨t833, t834, t835⟩, A6, H⟩ := bs_ H
 try dsimp -simprocs only at H
 obtain ⟨y836, hy836⟩ : ∃ y_ : List (S25), y_ = (([(⟨a2_0, a2_1⟩ : S25)] : List (S25))) := ⟨_, rfl⟩
 replace H : ((cutplaneref10_Good.f k a0 y836).bind fun t839 => (if t839 = 0 then ((cutplaneref20_Is.f a1).bind fun t840 => (if t840 = true then ((cutplaneref20_On.f k a0 a1 a2_0 a2_1).bind fun bt841 => (if (t829 != bt841.2.2.2) = true then (none) else (if t830 = 0 then (if bt841.2.2.2 = true then ((cutplaneref20_Signs.f k a0 a1 bt841.1 bt841.2.1 bt841.2.2.1 a2_0 a2_1).bind fun bt846 => ((cutplaneref20_Side.f a0 bt841.1 bt841.2.1 bt841.2.2.1 a2_0 a2_1).bind fun t848 => (if t831 = t848 then (if t832 = 0 then (if t833 = bt846.1 then (if t834 = bt846.2 then (if t835 = 0 then ((cutplanelaw20_known.f k).bind fun t849 => (some t849)) else (none)) else (none)) else (none)) else (none)) else (none)))) else (if t831 = 0 then (if t832 = 7 then (if t833 = 0 then (if t834 = 0 then (if t835 = 7 then ((cutplanelaw20_known.f k).bind fun t850 => (some t850)) else (none)) else (none)) else (none)) else (none)) else (none))) else (none)))) else (if 2 = 0 then ((cutplaneref20_On.f k a0 a1 a2_0 a2_1).bind fun bt851 => (if (t829 != bt851.2.2.2) = true then (none) else (if t830 = 0 then (if bt851.2.2.2 = true then ((cutplaneref20_Signs.f k a0 a1 bt851.1 bt851.2.1 bt851.2.2.1 a2_0 a2_1).bind fun bt856 => ((cutplaneref20_Side.f a0 bt851.1 bt851.2.1 bt851.2.2.1 a2_0 a2_1).bind fun t858 => (if t831 = t858 then (if t832 = 0 then (if t833 = bt856.1 then (if t834 = bt856.2 then (if t835 = 0 then ((cutplanelaw20_known.f k).bind fun t859 => (some t859)) else (none)) else (none)) else (none)) else (none)) else (none)))) else (if t831 = 0 then (if t832 = 7 then (if t833 = 0 then (if t834 = 0 then (if t835 = 7 then ((cutplanelaw20_known.f k).bind fun t860 => (some t860)) else (none)) else (none)) else (none)) else (none)) else (none))) else (none)))) else (if t829 = true then (none) else (if t830 = 2 then (if t831 = 0 then (if t832 = 2 then (if t833 = 0 then (if t834 = 0 then (if t835 = 2 then ((cutplanelaw20_known.f k).bind fun t861 => (some t861)) else (none)) else (none)) else (none)) else (none)) else (none)) else (none)))))) else (if t829 = true then (none) else (if t830 = t839 then (if t831 = 0 then (if t832 = t839 then (if t833 = 0 then (if t834 = 0 then (if t835 = t839 then ((cutplanelaw20_known.f k).bind fun t862 => (some t862)) else (none)) else (none)) else (none)) else (none)) else (none)) else (none))))) = some r := by first | (rw [hy836]; with_reducible exact H) | (have H2_ := (Option.bind_some _ _).symm.trans H; rw [hy836]; with_reducible exact H2_) | (have H2_ := (Option.bind_some _ _).symm.trans H; with_reducible exact H2_) | with_reducible exact H | (rw [hy836]; exact H) | exact H
 have Ny836 := A0_ hy836
 clear hy836
 obtain ⟨t839, A7, H⟩ := bs_ H
 try dsimp -simprocs only at H
 by_cases c8 : t839 = 0
 ·rw [if_pos c8] at H
  have c8b0 : (t839 == 0) = true := beq_iff_eq.mpr c8
  have c8b1 : (t839 != 0) = false := bne_eq_false_iff_eq.mpr c8
  clear c8
  obtain ⟨t840, A9, H⟩ := bs_ H
  try dsimp -simprocs only at H
  by_cases c10 : t840 = true
  ·subst c10
   rw [if_pos rfl] at H
   obtain ⟨⟨t841, t842, t843, t844⟩, A11, H⟩ := bs_ H
   try dsimp -simprocs only at H
   obtain ⟨c12, H⟩ := id_ H
   have c12b0 : (t829 != t844) = false := by simpa using c12
   (try (have c12b1 : decide (t829 = t844) = true := by simpa using c12))
   (try (have c12b2 : (t829 == t844) = true := by simpa using c12))
   clear c12
   obtain ⟨c13, H⟩ := ic_ H
   have c13b0 : (t830 == 0) = true := beq_iff_eq.mpr c13
   have c13b1 : (t830 != 0) = false := bne_eq_false_iff_eq.mpr c13
   clear c13
   by_cases c14 : t844 = true
   ·subst c14
    rw [if_pos rfl] at H
    obtain ⟨⟨t846, t847⟩, A15, H⟩ := bs_ H
    try dsimp -simprocs only at H
    obtain ⟨t848, A16, H⟩ := bs_ H
    try dsimp -simprocs only at H
    obtain ⟨c17, H⟩ := ic_ H
    have c17b0 : (t831 == t848) = true := beq_iff_eq.mpr c17
    have c17b1 : (t831 != t848) = false := bne_eq_false_iff_eq.mpr c17
    clear c17
    obtain ⟨c18, H⟩ := ic_ H
    have c18b0 : (t832 == 0) = true := beq_iff_eq.mpr c18
    have c18b1 : (t832 != 0) = false := bne_eq_false_iff_eq.mpr c18
    clear c18
    obtain ⟨c19, H⟩ := ic_ H
    have c19b0 : (t833 == t846) = true := beq_iff_eq.mpr c19
    have c19b1 : (t833 != t846) = false := bne_eq_false_iff_eq.mpr c19
    clear c19
    obtain ⟨c20, H⟩ := ic_ H
    have c20b0 : (t834 == t847) = true := beq_iff_eq.mpr c20
    have c20b1 : (t834 != t847) = false := bne_eq_false_iff_eq.mpr c20
    clear c20
    obtain ⟨c21, H⟩ := ic_ H
    have c21b0 : (t835 == 0) = true := beq_iff_eq.mpr c21
    have c21b1 : (t835 != 0) = false := bne_eq_false_iff_eq.mpr c21
    clear c21
    obtain ⟨t849, A22, H⟩ := bs_ H
    try dsimp -simprocs only at H
    obtain rfl := Option.some.inj H
    go_enter Try.func8, Try.ntmps8
    go_wp2_with (first | ((with_reducible refine gate_dst (N := 5) rfl ?_); refine box_event ?hg (N := 5) ?hd (cs := #[.int .u64 a2_0, .int .u64 a2_1]) (t := 25) ?hr ?_; (case hd => rfl); (case hg => rfl); (case hr => first | (go_simp; done) | (go_simp; rfl)); intro gb828 hg w23 hbox hb; have BK828 := A0_ (hbox); have GW828 := A0_ ((by rw [hg]; exact (below_size (qm_ HB.out)) : w.heap.size ≤ gb828)); have GE828 := GW828; replace HB := hs_ hb; clear hb hbox hg; have hcz24 := bc2_ BK828.out; have hfz24 := bf2_ BK828.out) | ((with_reducible refine gate_callee (f := 33) rfl ?_); refine goesL_ (some 23) rfl rfl Try.func33 (by kernel_rfl) rfl #[.int .u8 a0, .int .u8 a1, .agg #[.int .u64 a2_0, .int .u64 a2_1]] rfl (am_ rfl) ?_; (with_reducible refine (cuts_On.calls k a0 a1 a2_0 a2_1 t829 t830 _ A4.out).mono ?_); rintro e w25 ⟨rfl, hb⟩; refine ⟨_, rfl, ?_⟩; replace BK828 := bb_ BK828 hb; replace HB := hs_ hb; (try clear hb); have hcz26 := bc2_ BK828.out; have hfz26 := bf2_ BK828.out) | ((with_reducible refine gate_callee (f := 34) rfl ?_); refine goesL_ (some 30) rfl rfl Try.func34 (by kernel_rfl) rfl #[.int .u8 a0, .int .u8 a1, .agg #[.int .u64 a2_0, .int .u64 a2_1]] rfl (am_ rfl) ?_; (with_reducible refine (cuts_Side.calls k a0 a1 a2_0 a2_1 t831 t832 _ A5.out).mono ?_); rintro e w27 ⟨rfl, hb⟩; refine ⟨_, rfl, ?_⟩; replace BK828 := bb_ BK828 hb; replace HB := hs_ hb; (try clear hb); have hcz28 := bc2_ BK828.out; have hfz28 := bf2_ BK828.out) | ((with_reducible refine gate_callee (f := 35) rfl ?_); refine goesL_ (some 37) rfl rfl Try.func35 (by kernel_rfl) rfl #[.int .u8 a0, .int .u8 a1, .agg #[.int .u64 a2_0, .int .u64 a2_1]] rfl (am_ rfl) ?_; (with_reducible refine (cuts_Signs.calls k a0 a1 a2_0 a2_1 t833 t834 t835 _ A6.out).mono ?_); rintro e w29 ⟨rfl, hb⟩; refine ⟨_, rfl, ?_⟩; replace BK828 := bb_ BK828 hb; replace HB := hs_ hb; (try clear hb); have hcz30 := bc2_ BK828.out; have hfz30 := bf2_ BK828.out) | ((with_reducible refine gate_dst (N := 43) rfl ?_); refine Kd.R_lit k25 _ 25 ?hg (N := 43) ?hd (xs := ([(⟨a2_0, a2_1⟩ : S25)] : List (S25))) (inner := [.int .u64 a2_0, .int .u64 a2_1]) (ok := fun _ => True) (okp := fun _ => True) ?hr ?hp (fun _ hk => hk) trivial (Below.refl _ _) (Nat.le_refl _) (by simp) ?_; (case hd => rfl); (case hg => rfl); (case hr => first | (go_simp; done) | (go_simp; rfl)); (case hp => exact (Reps.c2 (show Kd.M k25 _ _ _ (⟨a2_0, a2_1⟩ : S25) [.int .u64 a2_0, .int .u64 a2_1] from (k25_mkM _ _ _ (⟨a2_0, a2_1⟩ : S25) )) (Reps.none _ _))); intro v837 w31 ho32 hb hg_ hnew_; clear hg_ hnew_; (first | rw [← Ny836.out] at ho32 | (simp only [Int.reduceToNat] at ho32; rw [← Ny836.out] at ho32)); have HO838 := A0_ (Kd.R_lower (Kd.R_newB ho32 (bm_ BK828.out)) (below_size qz_)); replace BK828 := bb_ BK828 hb; replace HB := hs_ hb; clear hb ho32; obtain ⟨Ao33, co33, eo33⟩ := Kd.R_slice HO838.out; subst eo33) | ((with_reducible refine gate_callee (f := 12) rfl ?_); refine goesL_ (some 44) rfl rfl Try.func12 (by kernel_rfl) rfl #[.int .u8 a0, .slice Ao33 y836.length co33] rfl (am_ rfl) ?_; (with_reducible refine (cutplaneref10_Good.calls k a0 _ _ y836 t839 _ ?side1 ?side2 A7.out).mono ?_); (case side1 => repeat (first | exact (Kd.R_reads' HO838.out).2.2 | (with_reducible refine Kd.C_alloc ?_ _) | (with_reducible refine Kd.C_drewN ?_ _) | (with_reducible refine Kd.C_drew ?_))); (case side2 => exact (Kd.R_reads' HO838.out).2.1); rintro e w' ⟨rfl, ⟨nd, rfl⟩⟩; refine ⟨_, rfl, ?_⟩; (try (rw [drewN_self w31]; generalize hq_ : World.drewN w31 _ = w31; have n0_ : Aside0 (Kd.R k25 25 w31 w.heap.size (fun k_ => k_ ≠ gb828) (.slice Ao33 y836.length co33) y836) := ⟨by rw [← hq_]; exact (by (with_reducible repeat (first | apply Kd.R_alloc | apply Kd.R_drewN | apply Kd.R_drew)); exact Kd.R_mono HO838.out (fun _ hk => hk.2))⟩; have n1_ : Aside0 (w31.heap[gb828]? = some (.cells #[.int .u64 a2_0, .int .u64 a2_1] 25 (0, 0))) := ⟨by rw [← hq_]; exact (bm_ BK828.out)⟩; have n2_ : Aside0 (Below w.heap.size w w31) := ⟨by rw [← hq_]; exact qz_⟩; clear HO838 BK828 HB hq_; have HO838 := n0_; have BK828 := n1_; have HB := n2_; clear n0_ n1_ n2_))) | (go_at_call 36; (with_reducible refine (cutplaneref20_Is.calls a1 true _ A9.out).mono ?_); rintro e w' ⟨rfl, ⟨nd, rfl⟩⟩; (try (rw [drewN_self w31]; generalize hq_ : World.drewN w31 _ = w31; have n0_ : Aside0 (Kd.R k25 25 w31 w.heap.size (fun k_ => k_ ≠ gb828) (.slice Ao33 y836.length co33) y836) := ⟨by rw [← hq_]; exact (by (with_reducible repeat (first | apply Kd.R_alloc | apply Kd.R_drewN | apply Kd.R_drew)); exact Kd.R_mono HO838.out (fun _ hk => hk.2))⟩; have n1_ : Aside0 (w31.heap[gb828]? = some (.cells #[.int .u64 a2_0, .int .u64 a2_1] 25 (0, 0))) := ⟨by rw [← hq_]; exact (bm_ BK828.out)⟩; have n2_ : Aside0 (Below w.heap.size w w31) := ⟨by rw [← hq_]; exact qz_⟩; clear HO838 BK828 HB hq_; have HO838 := n0_; have BK828 := n1_; have HB := n2_; clear n0_ n1_ n2_)); have hcz34 := bc2_ BK828.out; have hfz34 := bf2_ BK828.out) | ((with_reducible refine gate_callee (f := 38) rfl ?_); refine goesL_ (some 90) rfl rfl Try.func38 (by kernel_rfl) rfl #[.int .u8 a0, .int .u8 a1, .agg #[.int .u64 a2_0, .int .u64 a2_1]] rfl (am_ rfl) ?_; (with_reducible refine (cutplaneref20_On.calls k a0 a1 a2_0 a2_1 t841 t842 t843 true _ A11.out).mono ?_); rintro e w35 ⟨rfl, hb⟩; refine ⟨_, rfl, ?_⟩; replace HO838 := A0_ (Kd.R_below (by exact rm_ HO838.out) hb); replace BK828 := bb_ BK828 hb; replace HB := hs_ hb; (try clear hb)) | ((with_reducible refine gate_dst (N := 15) rfl ?_); refine box_event ?hg (N := 15) ?hd (cs := #[.bool false, .int .i64 0, .bool false]) (t := 54) ?hr ?_; (case hd => rfl); (case hg => rfl); (case hr => first | (go_simp; done) | (go_simp; rfl)); intro gb845 hg w36 hbox hb; replace HO838 := A0_ (Kd.R_below (by exact rm_ HO838.out) hb); have BK845 := A0_ (hbox); have GW845 := A0_ ((by rw [hg]; exact (below_size qz_) : w.heap.size ≤ gb845)); have GE845 := GW845; replace HB := hs_ hb; have NB828_845 := nl_ hg BK828; have NB845_828 := ng_ hg BK828; replace BK828 := bb_ BK828 hb; clear hb hbox hg; have hnb37 := NB845_828.out; have hnc37 := NB828_845.out; have hcz38 := bc3_ BK845.out; have hfz38 := bf3_ BK845.out; have hcz39 := bc2_ BK828.out; have hfz39 := bf2_ BK828.out) | ((with_reducible refine gate_callee (f := 39) rfl ?_); refine goesL_ (some 128) rfl rfl Try.func39 (by kernel_rfl) rfl #[.int .u8 a0, .int .u8 a1, .agg #[.bool t841, .int .i64 t842, .bool t843], .agg #[.int .u64 a2_0, .int .u64 a2_1]] rfl (am_ rfl) ?_; (with_reducible refine (cutplaneref20_Signs.calls k a0 a1 t841 t842 t843 a2_0 a2_1 t846 t847 _ A15.out).mono ?_); rintro e w40 ⟨rfl, hb⟩; refine ⟨_, rfl, ?_⟩; replace HO838 := A0_ (Kd.R_below (by (with_reducible repeat (first | apply Kd.R_alloc | apply Kd.R_drewN | apply Kd.R_drew)); exact (Kd.R_mono (Kd.R_far (p := ⟨gb845, 2, none⟩) (Kd.R_far (p := ⟨gb845, 1, none⟩) (Kd.R_far (p := ⟨gb845, 0, none⟩) (Kd.R_types HO838.out BK845.out (by decide)) (fun _ hk => hk.2) (.bool t841)) (fun _ hk => hk.2) (.int .i64 t842)) (fun _ hk => hk.2) (.bool t843)) (fun _ h_ => h_.1))) hb); replace BK828 := A0_ (blk_below (g := gb828) (o := .cells #[.int .u64 a2_0, .int .u64 a2_1] 25 (0, 0)) (by (with_reducible repeat first | apply bN_ | apply bD_ | apply bA_); refine blk_far ?_ NB828_845.out _; refine blk_far ?_ NB828_845.out _; refine blk_far ?_ NB828_845.out _; exact bm_ BK828.out) hb); replace BK845 := A0_ (blk_below (g := gb845) (o := .cells #[.bool t841, .int .i64 t842, .bool t843] 54 (0, 0)) (by (with_reducible repeat first | apply bN_ | apply bD_ | apply bA_); refine blk_put (cs := #[.bool t841, .int .i64 t842, .bool false]) ?_ 2 _ rfl; refine blk_put (cs := #[.bool t841, .int .i64 0, .bool false]) ?_ 1 _ rfl; refine blk_put (cs := #[.bool false, .int .i64 0, .bool false]) ?_ 0 _ rfl; exact bm_ BK845.out) hb); replace HB := hs_ hb; (try clear hb); have hcz41 := bc3_ BK845.out; have hfz41 := bf3_ BK845.out; have hcz42 := bc2_ BK828.out; have hfz42 := bf2_ BK828.out) | ((with_reducible refine gate_callee (f := 40) rfl ?_); refine goesL_ (some 135) rfl rfl Try.func40 (by kernel_rfl) rfl #[.int .u8 a0, .agg #[.bool t841, .int .i64 t842, .bool t843], .agg #[.int .u64 a2_0, .int .u64 a2_1]] rfl (am_ rfl) ?_; (with_reducible refine (cutplaneref20_Side.calls a0 t841 t842 t843 a2_0 a2_1 t848 _ A16.out).mono ?_); rintro e w43 ⟨rfl, hb⟩; refine ⟨_, rfl, ?_⟩; replace HO838 := A0_ (Kd.R_below (by exact rm_ HO838.out) hb); replace BK828 := bb_ BK828 hb; replace BK845 := bb_ BK845 hb; replace HB := hs_ hb; (try clear hb)) | (go_at_call 37; (with_reducible refine (cutplanelaw20_known.calls k  t849 _ A22.out).mono ?_); rintro e w44 ⟨rfl, hb⟩; replace HO838 := A0_ (Kd.R_below (by exact rm_ HO838.out) hb); replace BK828 := bb_ BK828 hb; replace BK845 := bb_ BK845 hb; replace HB := hs_ hb; (try clear hb)))
    all_goals go_ret
    all_goals exact ⟨by first | rfl | (simp [errW_none, errW_some] <;> rfl) | (simp [*, errW_none, errW_some] <;> rfl), qz_⟩
   ·replace c14 := Bool.eq_false_iff.mpr c14
    subst c14
    rw [if_neg (show ¬ (false = true) by decide)] at H
    obtain ⟨c45, H⟩ := ic_ H
    have c45b0 : (t831 == 0) = true := beq_iff_eq.mpr c45
    have c45b1 : (t831 != 0) = false := bne_eq_false_iff_eq.mpr c45
    clear c45
    obtain ⟨c46, H⟩ := ic_ H
    have c46b0 : (t832 == 7) = true := beq_iff_eq.mpr c46
    have c46b1 : (t832 != 7) = false := bne_eq_false_iff_eq.mpr c46
    clear c46
    obtain ⟨c47, H⟩ := ic_ H
    have c47b0 : (t833 == 0) = true := beq_iff_eq.mpr c47
    have c47b1 : (t833 != 0) = false := bne_eq_false_iff_eq.mpr c47
    clear c47
    obtain ⟨c48, H⟩ := ic_ H
    have c48b0 : (t834 == 0) = true := beq_iff_eq.mpr c48
    have c48b1 : (t834 != 0) = false := bne_eq_false_iff_eq.mpr c48
    clear c48
    obtain ⟨c49, H⟩ := ic_ H
    have c49b0 : (t835 == 7) = true := beq_iff_eq.mpr c49
    have c49b1 : (t835 != 7) = false := bne_eq_false_iff_eq.mpr c49
    clear c49
    obtain ⟨t850, A50, H⟩ := bs_ H
    try dsimp -simprocs only at H
    obtain rfl := Option.some.inj H
    go_enter Try.func8, Try.ntmps8
    go_wp2_with (first | ((with_reducible refine gate_dst (N := 5) rfl ?_); refine box_event ?hg (N := 5) ?hd (cs := #[.int .u64 a2_0, .int .u64 a2_1]) (t := 25) ?hr ?_; (case hd => rfl); (case hg => rfl); (case hr => first | (go_simp; done) | (go_simp; rfl)); intro gb828 hg w51 hbox hb; have BK828 := A0_ (hbox); have GW828 := A0_ ((by rw [hg]; exact (below_size (qm_ HB.out)) : w.heap.size ≤ gb828)); have GE828 := GW828; replace HB := hs_ hb; clear hb hbox hg; have hcz52 := bc2_ BK828.out; have hfz52 := bf2_ BK828.out) | ((with_reducible refine gate_callee (f := 33) rfl ?_); refine goesL_ (some 23) rfl rfl Try.func33 (by kernel_rfl) rfl #[.int .u8 a0, .int .u8 a1, .agg #[.int .u64 a2_0, .int .u64 a2_1]] rfl (am_ rfl) ?_; (with_reducible refine (cuts_On.calls k a0 a1 a2_0 a2_1 t829 t830 _ A4.out).mono ?_); rintro e w53 ⟨rfl, hb⟩; refine ⟨_, rfl, ?_⟩; replace BK828 := bb_ BK828 hb; replace HB := hs_ hb; (try clear hb); have hcz54 := bc2_ BK828.out; have hfz54 := bf2_ BK828.out) | ((with_reducible refine gate_callee (f := 34) rfl ?_); refine goesL_ (some 30) rfl rfl Try.func34 (by kernel_rfl) rfl #[.int .u8 a0, .int .u8 a1, .agg #[.int .u64 a2_0, .int .u64 a2_1]] rfl (am_ rfl) ?_; (with_reducible refine (cuts_Side.calls k a0 a1 a2_0 a2_1 t831 t832 _ A5.out).mono ?_); rintro e w55 ⟨rfl, hb⟩; refine ⟨_, rfl, ?_⟩; replace BK828 := bb_ BK828 hb; replace HB := hs_ hb; (try clear hb); have hcz56 := bc2_ BK828.out; have hfz56 := bf2_ BK828.out) | ((with_reducible refine gate_callee (f := 35) rfl ?_); refine goesL_ (some 37) rfl rfl Try.func35 (by kernel_rfl) rfl #[.int .u8 a0, .int .u8 a1, .agg #[.int .u64 a2_0, .int .u64 a2_1]] rfl (am_ rfl) ?_; (with_reducible refine (cuts_Signs.calls k a0 a1 a2_0 a2_1 t833 t834 t835 _ A6.out).mono ?_); rintro e w57 ⟨rfl, hb⟩; refine ⟨_, rfl, ?_⟩; replace BK828 := bb_ BK828 hb; replace HB := hs_ hb; (try clear hb); have hcz58 := bc2_ BK828.out; have hfz58 := bf2_ BK828.out) | ((with_reducible refine gate_dst (N := 43) rfl ?_); refine Kd.R_lit k25 _ 25 ?hg (N := 43) ?hd (xs := ([(⟨a2_0, a2_1⟩ : S25)] : List (S25))) (inner := [.int .u64 a2_0, .int .u64 a2_1]) (ok := fun _ => True) (okp := fun _ => True) ?hr ?hp (fun _ hk => hk) trivial (Below.refl _ _) (Nat.le_refl _) (by simp) ?_; (case hd => rfl); (case hg => rfl); (case hr => first | (go_simp; done) | (go_simp; rfl)); (case hp => exact (Reps.c2 (show Kd.M k25 _ _ _ (⟨a2_0, a2_1⟩ : S25) [.int .u64 a2_0, .int .u64 a2_1] from (k25_mkM _ _ _ (⟨a2_0, a2_1⟩ : S25) )) (Reps.none _ _))); intro v837 w59 ho60 hb hg_ hnew_; clear hg_ hnew_; (first | rw [← Ny836.out] at ho60 | (simp only [Int.reduceToNat] at ho60; rw [← Ny836.out] at ho60)); have HO838 := A0_ (Kd.R_lower (Kd.R_newB ho60 (bm_ BK828.out)) (below_size qz_)); replace BK828 := bb_ BK828 hb; replace HB := hs_ hb; clear hb ho60; obtain ⟨Ao61, co61, eo61⟩ := Kd.R_slice HO838.out; subst eo61) | ((with_reducible refine gate_callee (f := 12) rfl ?_); refine goesL_ (some 44) rfl rfl Try.func12 (by kernel_rfl) rfl #[.int .u8 a0, .slice Ao61 y836.length co61] rfl (am_ rfl) ?_; (with_reducible refine (cutplaneref10_Good.calls k a0 _ _ y836 t839 _ ?side1 ?side2 A7.out).mono ?_); (case side1 => repeat (first | exact (Kd.R_reads' HO838.out).2.2 | (with_reducible refine Kd.C_alloc ?_ _) | (with_reducible refine Kd.C_drewN ?_ _) | (with_reducible refine Kd.C_drew ?_))); (case side2 => exact (Kd.R_reads' HO838.out).2.1); rintro e w' ⟨rfl, ⟨nd, rfl⟩⟩; refine ⟨_, rfl, ?_⟩; (try (rw [drewN_self w59]; generalize hq_ : World.drewN w59 _ = w59; have n0_ : Aside0 (Kd.R k25 25 w59 w.heap.size (fun k_ => k_ ≠ gb828) (.slice Ao61 y836.length co61) y836) := ⟨by rw [← hq_]; exact (by (with_reducible repeat (first | apply Kd.R_alloc | apply Kd.R_drewN | apply Kd.R_drew)); exact Kd.R_mono HO838.out (fun _ hk => hk.2))⟩; have n1_ : Aside0 (w59.heap[gb828]? = some (.cells #[.int .u64 a2_0, .int .u64 a2_1] 25 (0, 0))) := ⟨by rw [← hq_]; exact (bm_ BK828.out)⟩; have n2_ : Aside0 (Below w.heap.size w w59) := ⟨by rw [← hq_]; exact qz_⟩; clear HO838 BK828 HB hq_; have HO838 := n0_; have BK828 := n1_; have HB := n2_; clear n0_ n1_ n2_))) | (go_at_call 36; (with_reducible refine (cutplaneref20_Is.calls a1 true _ A9.out).mono ?_); rintro e w' ⟨rfl, ⟨nd, rfl⟩⟩; (try (rw [drewN_self w59]; generalize hq_ : World.drewN w59 _ = w59; have n0_ : Aside0 (Kd.R k25 25 w59 w.heap.size (fun k_ => k_ ≠ gb828) (.slice Ao61 y836.length co61) y836) := ⟨by rw [← hq_]; exact (by (with_reducible repeat (first | apply Kd.R_alloc | apply Kd.R_drewN | apply Kd.R_drew)); exact Kd.R_mono HO838.out (fun _ hk => hk.2))⟩; have n1_ : Aside0 (w59.heap[gb828]? = some (.cells #[.int .u64 a2_0, .int .u64 a2_1] 25 (0, 0))) := ⟨by rw [← hq_]; exact (bm_ BK828.out)⟩; have n2_ : Aside0 (Below w.heap.size w w59) := ⟨by rw [← hq_]; exact qz_⟩; clear HO838 BK828 HB hq_; have HO838 := n0_; have BK828 := n1_; have HB := n2_; clear n0_ n1_ n2_)); have hcz62 := bc2_ BK828.out; have hfz62 := bf2_ BK828.out) | ((with_reducible refine gate_callee (f := 38) rfl ?_); refine goesL_ (some 90) rfl rfl Try.func38 (by kernel_rfl) rfl #[.int .u8 a0, .int .u8 a1, .agg #[.int .u64 a2_0, .int .u64 a2_1]] rfl (am_ rfl) ?_; (with_reducible refine (cutplaneref20_On.calls k a0 a1 a2_0 a2_1 t841 t842 t843 false _ A11.out).mono ?_); rintro e w63 ⟨rfl, hb⟩; refine ⟨_, rfl, ?_⟩; replace HO838 := A0_ (Kd.R_below (by exact rm_ HO838.out) hb); replace BK828 := bb_ BK828 hb; replace HB := hs_ hb; (try clear hb)) | ((with_reducible refine gate_dst (N := 15) rfl ?_); refine box_event ?hg (N := 15) ?hd (cs := #[.bool false, .int .i64 0, .bool false]) (t := 54) ?hr ?_; (case hd => rfl); (case hg => rfl); (case hr => first | (go_simp; done) | (go_simp; rfl)); intro gb845 hg w64 hbox hb; replace HO838 := A0_ (Kd.R_below (by exact rm_ HO838.out) hb); have BK845 := A0_ (hbox); have GW845 := A0_ ((by rw [hg]; exact (below_size qz_) : w.heap.size ≤ gb845)); have GE845 := GW845; replace HB := hs_ hb; have NB828_845 := nl_ hg BK828; have NB845_828 := ng_ hg BK828; replace BK828 := bb_ BK828 hb; clear hb hbox hg; have hnb65 := NB845_828.out; have hnc65 := NB828_845.out; have hcz66 := bc3_ BK845.out; have hfz66 := bf3_ BK845.out) | (go_at_call 37; (with_reducible refine (cutplanelaw20_known.calls k  t850 _ A50.out).mono ?_); rintro e w67 ⟨rfl, hb⟩; replace HO838 := A0_ (Kd.R_below (by (with_reducible repeat (first | apply Kd.R_alloc | apply Kd.R_drewN | apply Kd.R_drew)); exact (Kd.R_mono (Kd.R_far (p := ⟨gb845, 2, none⟩) (Kd.R_far (p := ⟨gb845, 1, none⟩) (Kd.R_far (p := ⟨gb845, 0, none⟩) (Kd.R_types HO838.out BK845.out (by decide)) (fun _ hk => hk.2) (.bool t841)) (fun _ hk => hk.2) (.int .i64 t842)) (fun _ hk => hk.2) (.bool t843)) (fun _ h_ => h_.1))) hb); replace BK828 := A0_ (blk_below (g := gb828) (o := .cells #[.int .u64 a2_0, .int .u64 a2_1] 25 (0, 0)) (by (with_reducible repeat first | apply bN_ | apply bD_ | apply bA_); refine blk_far ?_ NB828_845.out _; refine blk_far ?_ NB828_845.out _; refine blk_far ?_ NB828_845.out _; exact bm_ BK828.out) hb); replace BK845 := A0_ (blk_below (g := gb845) (o := .cells #[.bool t841, .int .i64 t842, .bool t843] 54 (0, 0)) (by (with_reducible repeat first | apply bN_ | apply bD_ | apply bA_); refine blk_put (cs := #[.bool t841, .int .i64 t842, .bool false]) ?_ 2 _ rfl; refine blk_put (cs := #[.bool t841, .int .i64 0, .bool false]) ?_ 1 _ rfl; refine blk_put (cs := #[.bool false, .int .i64 0, .bool false]) ?_ 0 _ rfl; exact bm_ BK845.out) hb); replace HB := hs_ hb; (try clear hb)))
    all_goals go_ret
    all_goals exact ⟨by first | rfl | (simp [errW_none, errW_some] <;> rfl) | (simp [*, errW_none, errW_some] <;> rfl), qz_⟩
  ·replace c10 := Bool.eq_false_iff.mpr c10
   subst c10
   rw [if_neg (show ¬ (false = true) by decide)] at H
   by_cases c68 : 2 = 0
   ·rw [if_pos c68] at H
    have c68b0 : (2 == 0) = true := beq_iff_eq.mpr c68
    have c68b1 : (2 != 0) = false := bne_eq_false_iff_eq.mpr c68
    clear c68
    obtain ⟨⟨t851, t852, t853, t854⟩, A69, H⟩ := bs_ H
    try dsimp -simprocs only at H
    obtain ⟨c70, H⟩ := id_ H
    have c70b0 : (t829 != t854) = false := by simpa using c70
    (try (have c70b1 : decide (t829 = t854) = true := by simpa using c70))
    (try (have c70b2 : (t829 == t854) = true := by simpa using c70))
    clear c70
    obtain ⟨c71, H⟩ := ic_ H
    have c71b0 : (t830 == 0) = true := beq_iff_eq.mpr c71
    have c71b1 : (t830 != 0) = false := bne_eq_false_iff_eq.mpr c71
    clear c71
    by_cases c72 : t854 = true
    ·subst c72
     rw [if_pos rfl] at H
     obtain ⟨⟨t856, t857⟩, A73, H⟩ := bs_ H
     try dsimp -simprocs only at H
     obtain ⟨t858, A74, H⟩ := bs_ H
     try dsimp -simprocs only at H
     obtain ⟨c75, H⟩ := ic_ H
     have c75b0 : (t831 == t858) = true := beq_iff_eq.mpr c75
     have c75b1 : (t831 != t858) = false := bne_eq_false_iff_eq.mpr c75
     clear c75
     obtain ⟨c76, H⟩ := ic_ H
     have c76b0 : (t832 == 0) = true := beq_iff_eq.mpr c76
     have c76b1 : (t832 != 0) = false := bne_eq_false_iff_eq.mpr c76
     clear c76
     obtain ⟨c77, H⟩ := ic_ H
     have c77b0 : (t833 == t856) = true := beq_iff_eq.mpr c77
     have c77b1 : (t833 != t856) = false := bne_eq_false_iff_eq.mpr c77
     clear c77
     obtain ⟨c78, H⟩ := ic_ H
     have c78b0 : (t834 == t857) = true := beq_iff_eq.mpr c78
     have c78b1 : (t834 != t857) = false := bne_eq_false_iff_eq.mpr c78
     clear c78
     obtain ⟨c79, H⟩ := ic_ H
     have c79b0 : (t835 == 0) = true := beq_iff_eq.mpr c79
     have c79b1 : (t835 != 0) = false := bne_eq_false_iff_eq.mpr c79
     clear c79
     obtain ⟨t859, A80, H⟩ := bs_ H
     try dsimp -simprocs only at H
     obtain rfl := Option.some.inj H
     go_enter Try.func8, Try.ntmps8
     go_wp2_with (first | ((with_reducible refine gate_dst (N := 5) rfl ?_); refine box_event ?hg (N := 5) ?hd (cs := #[.int .u64 a2_0, .int .u64 a2_1]) (t := 25) ?hr ?_; (case hd => rfl); (case hg => rfl); (case hr => first | (go_simp; done) | (go_simp; rfl)); intro gb828 hg w81 hbox hb; have BK828 := A0_ (hbox); have GW828 := A0_ ((by rw [hg]; exact (below_size (qm_ HB.out)) : w.heap.size ≤ gb828)); have GE828 := GW828; replace HB := hs_ hb; clear hb hbox hg; have hcz82 := bc2_ BK828.out; have hfz82 := bf2_ BK828.out) | ((with_reducible refine gate_callee (f := 33) rfl ?_); refine goesL_ (some 23) rfl rfl Try.func33 (by kernel_rfl) rfl #[.int .u8 a0, .int .u8 a1, .agg #[.int .u64 a2_0, .int .u64 a2_1]] rfl (am_ rfl) ?_; (with_reducible refine (cuts_On.calls k a0 a1 a2_0 a2_1 t829 t830 _ A4.out).mono ?_); rintro e w83 ⟨rfl, hb⟩; refine ⟨_, rfl, ?_⟩; replace BK828 := bb_ BK828 hb; replace HB := hs_ hb; (try clear hb); have hcz84 := bc2_ BK828.out; have hfz84 := bf2_ BK828.out) | ((with_reducible refine gate_callee (f := 34) rfl ?_); refine goesL_ (some 30) rfl rfl Try.func34 (by kernel_rfl) rfl #[.int .u8 a0, .int .u8 a1, .agg #[.int .u64 a2_0, .int .u64 a2_1]] rfl (am_ rfl) ?_; (with_reducible refine (cuts_Side.calls k a0 a1 a2_0 a2_1 t831 t832 _ A5.out).mono ?_); rintro e w85 ⟨rfl, hb⟩; refine ⟨_, rfl, ?_⟩; replace BK828 := bb_ BK828 hb; replace HB := hs_ hb; (try clear hb); have hcz86 := bc2_ BK828.out; have hfz86 := bf2_ BK828.out) | ((with_reducible refine gate_callee (f := 35) rfl ?_); refine goesL_ (some 37) rfl rfl Try.func35 (by kernel_rfl) rfl #[.int .u8 a0, .int .u8 a1, .agg #[.int .u64 a2_0, .int .u64 a2_1]] rfl (am_ rfl) ?_; (with_reducible refine (cuts_Signs.calls k a0 a1 a2_0 a2_1 t833 t834 t835 _ A6.out).mono ?_); rintro e w87 ⟨rfl, hb⟩; refine ⟨_, rfl, ?_⟩; replace BK828 := bb_ BK828 hb; replace HB := hs_ hb; (try clear hb); have hcz88 := bc2_ BK828.out; have hfz88 := bf2_ BK828.out) | ((with_reducible refine gate_dst (N := 43) rfl ?_); refine Kd.R_lit k25 _ 25 ?hg (N := 43) ?hd (xs := ([(⟨a2_0, a2_1⟩ : S25)] : List (S25))) (inner := [.int .u64 a2_0, .int .u64 a2_1]) (ok := fun _ => True) (okp := fun _ => True) ?hr ?hp (fun _ hk => hk) trivial (Below.refl _ _) (Nat.le_refl _) (by simp) ?_; (case hd => rfl); (case hg => rfl); (case hr => first | (go_simp; done) | (go_simp; rfl)); (case hp => exact (Reps.c2 (show Kd.M k25 _ _ _ (⟨a2_0, a2_1⟩ : S25) [.int .u64 a2_0, .int .u64 a2_1] from (k25_mkM _ _ _ (⟨a2_0, a2_1⟩ : S25) )) (Reps.none _ _))); intro v837 w89 ho90 hb hg_ hnew_; clear hg_ hnew_; (first | rw [← Ny836.out] at ho90 | (simp only [Int.reduceToNat] at ho90; rw [← Ny836.out] at ho90)); have HO838 := A0_ (Kd.R_lower (Kd.R_newB ho90 (bm_ BK828.out)) (below_size qz_)); replace BK828 := bb_ BK828 hb; replace HB := hs_ hb; clear hb ho90; obtain ⟨Ao91, co91, eo91⟩ := Kd.R_slice HO838.out; subst eo91) | ((with_reducible refine gate_callee (f := 12) rfl ?_); refine goesL_ (some 44) rfl rfl Try.func12 (by kernel_rfl) rfl #[.int .u8 a0, .slice Ao91 y836.length co91] rfl (am_ rfl) ?_; (with_reducible refine (cutplaneref10_Good.calls k a0 _ _ y836 t839 _ ?side1 ?side2 A7.out).mono ?_); (case side1 => repeat (first | exact (Kd.R_reads' HO838.out).2.2 | (with_reducible refine Kd.C_alloc ?_ _) | (with_reducible refine Kd.C_drewN ?_ _) | (with_reducible refine Kd.C_drew ?_))); (case side2 => exact (Kd.R_reads' HO838.out).2.1); rintro e w' ⟨rfl, ⟨nd, rfl⟩⟩; refine ⟨_, rfl, ?_⟩; (try (rw [drewN_self w89]; generalize hq_ : World.drewN w89 _ = w89; have n0_ : Aside0 (Kd.R k25 25 w89 w.heap.size (fun k_ => k_ ≠ gb828) (.slice Ao91 y836.length co91) y836) := ⟨by rw [← hq_]; exact (by (with_reducible repeat (first | apply Kd.R_alloc | apply Kd.R_drewN | apply Kd.R_drew)); exact Kd.R_mono HO838.out (fun _ hk => hk.2))⟩; have n1_ : Aside0 (w89.heap[gb828]? = some (.cells #[.int .u64 a2_0, .int .u64 a2_1] 25 (0, 0))) := ⟨by rw [← hq_]; exact (bm_ BK828.out)⟩; have n2_ : Aside0 (Below w.heap.size w w89) := ⟨by rw [← hq_]; exact qz_⟩; clear HO838 BK828 HB hq_; have HO838 := n0_; have BK828 := n1_; have HB := n2_; clear n0_ n1_ n2_))) | (go_at_call 36; (with_reducible refine (cutplaneref20_Is.calls a1 false _ A9.out).mono ?_); rintro e w' ⟨rfl, ⟨nd, rfl⟩⟩; (try (rw [drewN_self w89]; generalize hq_ : World.drewN w89 _ = w89; have n0_ : Aside0 (Kd.R k25 25 w89 w.heap.size (fun k_ => k_ ≠ gb828) (.slice Ao91 y836.length co91) y836) := ⟨by rw [← hq_]; exact (by (with_reducible repeat (first | apply Kd.R_alloc | apply Kd.R_drewN | apply Kd.R_drew)); exact Kd.R_mono HO838.out (fun _ hk => hk.2))⟩; have n1_ : Aside0 (w89.heap[gb828]? = some (.cells #[.int .u64 a2_0, .int .u64 a2_1] 25 (0, 0))) := ⟨by rw [← hq_]; exact (bm_ BK828.out)⟩; have n2_ : Aside0 (Below w.heap.size w w89) := ⟨by rw [← hq_]; exact qz_⟩; clear HO838 BK828 HB hq_; have HO838 := n0_; have BK828 := n1_; have HB := n2_; clear n0_ n1_ n2_)); have hcz92 := bc2_ BK828.out; have hfz92 := bf2_ BK828.out) | ((with_reducible refine gate_callee (f := 38) rfl ?_); refine goesL_ (some 90) rfl rfl Try.func38 (by kernel_rfl) rfl #[.int .u8 a0, .int .u8 a1, .agg #[.int .u64 a2_0, .int .u64 a2_1]] rfl (am_ rfl) ?_; (with_reducible refine (cutplaneref20_On.calls k a0 a1 a2_0 a2_1 t851 t852 t853 true _ A69.out).mono ?_); rintro e w93 ⟨rfl, hb⟩; refine ⟨_, rfl, ?_⟩; replace HO838 := A0_ (Kd.R_below (by exact rm_ HO838.out) hb); replace BK828 := bb_ BK828 hb; replace HB := hs_ hb; (try clear hb)) | ((with_reducible refine gate_dst (N := 15) rfl ?_); refine box_event ?hg (N := 15) ?hd (cs := #[.bool false, .int .i64 0, .bool false]) (t := 54) ?hr ?_; (case hd => rfl); (case hg => rfl); (case hr => first | (go_simp; done) | (go_simp; rfl)); intro gb855 hg w94 hbox hb; replace HO838 := A0_ (Kd.R_below (by exact rm_ HO838.out) hb); have BK855 := A0_ (hbox); have GW855 := A0_ ((by rw [hg]; exact (below_size qz_) : w.heap.size ≤ gb855)); have GE855 := GW855; replace HB := hs_ hb; have NB828_855 := nl_ hg BK828; have NB855_828 := ng_ hg BK828; replace BK828 := bb_ BK828 hb; clear hb hbox hg; have hnb95 := NB855_828.out; have hnc95 := NB828_855.out; have hcz96 := bc3_ BK855.out; have hfz96 := bf3_ BK855.out; have hcz97 := bc2_ BK828.out; have hfz97 := bf2_ BK828.out) | ((with_reducible refine gate_callee (f := 39) rfl ?_); refine goesL_ (some 128) rfl rfl Try.func39 (by kernel_rfl) rfl #[.int .u8 a0, .int .u8 a1, .agg #[.bool t851, .int .i64 t852, .bool t853], .agg #[.int .u64 a2_0, .int .u64 a2_1]] rfl (am_ rfl) ?_; (with_reducible refine (cutplaneref20_Signs.calls k a0 a1 t851 t852 t853 a2_0 a2_1 t856 t857 _ A73.out).mono ?_); rintro e w98 ⟨rfl, hb⟩; refine ⟨_, rfl, ?_⟩; replace HO838 := A0_ (Kd.R_below (by (with_reducible repeat (first | apply Kd.R_alloc | apply Kd.R_drewN | apply Kd.R_drew)); exact (Kd.R_mono (Kd.R_far (p := ⟨gb855, 2, none⟩) (Kd.R_far (p := ⟨gb855, 1, none⟩) (Kd.R_far (p := ⟨gb855, 0, none⟩) (Kd.R_types HO838.out BK855.out (by decide)) (fun _ hk => hk.2) (.bool t851)) (fun _ hk => hk.2) (.int .i64 t852)) (fun _ hk => hk.2) (.bool t853)) (fun _ h_ => h_.1))) hb); replace BK828 := A0_ (blk_below (g := gb828) (o := .cells #[.int .u64 a2_0, .int .u64 a2_1] 25 (0, 0)) (by (with_reducible repeat first | apply bN_ | apply bD_ | apply bA_); refine blk_far ?_ NB828_855.out _; refine blk_far ?_ NB828_855.out _; refine blk_far ?_ NB828_855.out _; exact bm_ BK828.out) hb); replace BK855 := A0_ (blk_below (g := gb855) (o := .cells #[.bool t851, .int .i64 t852, .bool t853] 54 (0, 0)) (by (with_reducible repeat first | apply bN_ | apply bD_ | apply bA_); refine blk_put (cs := #[.bool t851, .int .i64 t852, .bool false]) ?_ 2 _ rfl; refine blk_put (cs := #[.bool t851, .int .i64 0, .bool false]) ?_ 1 _ rfl; refine blk_put (cs := #[.bool false, .int .i64 0, .bool false]) ?_ 0 _ rfl; exact bm_ BK855.out) hb); replace HB := hs_ hb; (try clear hb); have hcz99 := bc3_ BK855.out; have hfz99 := bf3_ BK855.out; have hcz100 := bc2_ BK828.out; have hfz100 := bf2_ BK828.out) | ((with_reducible refine gate_callee (f := 40) rfl ?_); refine goesL_ (some 135) rfl rfl Try.func40 (by kernel_rfl) rfl #[.int .u8 a0, .agg #[.bool t851, .int .i64 t852, .bool t853], .agg #[.int .u64 a2_0, .int .u64 a2_1]] rfl (am_ rfl) ?_; (with_reducible refine (cutplaneref20_Side.calls a0 t851 t852 t853 a2_0 a2_1 t858 _ A74.out).mono ?_); rintro e w101 ⟨rfl, hb⟩; refine ⟨_, rfl, ?_⟩; replace HO838 := A0_ (Kd.R_below (by exact rm_ HO838.out) hb); replace BK828 := bb_ BK828 hb; replace BK855 := bb_ BK855 hb; replace HB := hs_ hb; (try clear hb)) | (go_at_call 37; (with_reducible refine (cutplanelaw20_known.calls k  t859 _ A80.out).mono ?_); rintro e w102 ⟨rfl, hb⟩; replace HO838 := A0_ (Kd.R_below (by exact rm_ HO838.out) hb); replace BK828 := bb_ BK828 hb; replace BK855 := bb_ BK855 hb; replace HB := hs_ hb; (try clear hb)))
     all_goals go_ret
     all_goals exact ⟨by first | rfl | (simp [errW_none, errW_some] <;> rfl) | (simp [*, errW_none, errW_some] <;> rfl), qz_⟩
    ·replace c72 := Bool.eq_false_iff.mpr c72
     subst c72
     rw [if_neg (show ¬ (false = true) by decide)] at H
     obtain ⟨c103, H⟩ := ic_ H
     have c103b0 : (t831 == 0) = true := beq_iff_eq.mpr c103
     have c103b1 : (t831 != 0) = false := bne_eq_false_iff_eq.mpr c103
     clear c103
     obtain ⟨c104, H⟩ := ic_ H
     have c104b0 : (t832 == 7) = true := beq_iff_eq.mpr c104
     have c104b1 : (t832 != 7) = false := bne_eq_false_iff_eq.mpr c104
     clear c104
     obtain ⟨c105, H⟩ := ic_ H
     have c105b0 : (t833 == 0) = true := beq_iff_eq.mpr c105
     have c105b1 : (t833 != 0) = false := bne_eq_false_iff_eq.mpr c105
     clear c105
     obtain ⟨c106, H⟩ := ic_ H
     have c106b0 : (t834 == 0) = true := beq_iff_eq.mpr c106
     have c106b1 : (t834 != 0) = false := bne_eq_false_iff_eq.mpr c106
     clear c106
     obtain ⟨c107, H⟩ := ic_ H
     have c107b0 : (t835 == 7) = true := beq_iff_eq.mpr c107
     have c107b1 : (t835 != 7) = false := bne_eq_false_iff_eq.mpr c107
     clear c107
     obtain ⟨t860, A108, H⟩ := bs_ H
     try dsimp -simprocs only at H
     obtain rfl := Option.some.inj H
     go_enter Try.func8, Try.ntmps8
     go_wp2_with (first | ((with_reducible refine gate_dst (N := 5) rfl ?_); refine box_event ?hg (N := 5) ?hd (cs := #[.int .u64 a2_0, .int .u64 a2_1]) (t := 25) ?hr ?_; (case hd => rfl); (case hg => rfl); (case hr => first | (go_simp; done) | (go_simp; rfl)); intro gb828 hg w109 hbox hb; have BK828 := A0_ (hbox); have GW828 := A0_ ((by rw [hg]; exact (below_size (qm_ HB.out)) : w.heap.size ≤ gb828)); have GE828 := GW828; replace HB := hs_ hb; clear hb hbox hg; have hcz110 := bc2_ BK828.out; have hfz110 := bf2_ BK828.out) | ((with_reducible refine gate_callee (f := 33) rfl ?_); refine goesL_ (some 23) rfl rfl Try.func33 (by kernel_rfl) rfl #[.int .u8 a0, .int .u8 a1, .agg #[.int .u64 a2_0, .int .u64 a2_1]] rfl (am_ rfl) ?_; (with_reducible refine (cuts_On.calls k a0 a1 a2_0 a2_1 t829 t830 _ A4.out).mono ?_); rintro e w111 ⟨rfl, hb⟩; refine ⟨_, rfl, ?_⟩; replace BK828 := bb_ BK828 hb; replace HB := hs_ hb; (try clear hb); have hcz112 := bc2_ BK828.out; have hfz112 := bf2_ BK828.out) | ((with_reducible refine gate_callee (f := 34) rfl ?_); refine goesL_ (some 30) rfl rfl Try.func34 (by kernel_rfl) rfl #[.int .u8 a0, .int .u8 a1, .agg #[.int .u64 a2_0, .int .u64 a2_1]] rfl (am_ rfl) ?_; (with_reducible refine (cuts_Side.calls k a0 a1 a2_0 a2_1 t831 t832 _ A5.out).mono ?_); rintro e w113 ⟨rfl, hb⟩; refine ⟨_, rfl, ?_⟩; replace BK828 := bb_ BK828 hb; replace HB := hs_ hb; (try clear hb); have hcz114 := bc2_ BK828.out; have hfz114 := bf2_ BK828.out) | ((with_reducible refine gate_callee (f := 35) rfl ?_); refine goesL_ (some 37) rfl rfl Try.func35 (by kernel_rfl) rfl #[.int .u8 a0, .int .u8 a1, .agg #[.int .u64 a2_0, .int .u64 a2_1]] rfl (am_ rfl) ?_; (with_reducible refine (cuts_Signs.calls k a0 a1 a2_0 a2_1 t833 t834 t835 _ A6.out).mono ?_); rintro e w115 ⟨rfl, hb⟩; refine ⟨_, rfl, ?_⟩; replace BK828 := bb_ BK828 hb; replace HB := hs_ hb; (try clear hb); have hcz116 := bc2_ BK828.out; have hfz116 := bf2_ BK828.out) | ((with_reducible refine gate_dst (N := 43) rfl ?_); refine Kd.R_lit k25 _ 25 ?hg (N := 43) ?hd (xs := ([(⟨a2_0, a2_1⟩ : S25)] : List (S25))) (inner := [.int .u64 a2_0, .int .u64 a2_1]) (ok := fun _ => True) (okp := fun _ => True) ?hr ?hp (fun _ hk => hk) trivial (Below.refl _ _) (Nat.le_refl _) (by simp) ?_; (case hd => rfl); (case hg => rfl); (case hr => first | (go_simp; done) | (go_simp; rfl)); (case hp => exact (Reps.c2 (show Kd.M k25 _ _ _ (⟨a2_0, a2_1⟩ : S25) [.int .u64 a2_0, .int .u64 a2_1] from (k25_mkM _ _ _ (⟨a2_0, a2_1⟩ : S25) )) (Reps.none _ _))); intro v837 w117 ho118 hb hg_ hnew_; clear hg_ hnew_; (first | rw [← Ny836.out] at ho118 | (simp only [Int.reduceToNat] at ho118; rw [← Ny836.out] at ho118)); have HO838 := A0_ (Kd.R_lower (Kd.R_newB ho118 (bm_ BK828.out)) (below_size qz_)); replace BK828 := bb_ BK828 hb; replace HB := hs_ hb; clear hb ho118; obtain ⟨Ao119, co119, eo119⟩ := Kd.R_slice HO838.out; subst eo119) | ((with_reducible refine gate_callee (f := 12) rfl ?_); refine goesL_ (some 44) rfl rfl Try.func12 (by kernel_rfl) rfl #[.int .u8 a0, .slice Ao119 y836.length co119] rfl (am_ rfl) ?_; (with_reducible refine (cutplaneref10_Good.calls k a0 _ _ y836 t839 _ ?side1 ?side2 A7.out).mono ?_); (case side1 => repeat (first | exact (Kd.R_reads' HO838.out).2.2 | (with_reducible refine Kd.C_alloc ?_ _) | (with_reducible refine Kd.C_drewN ?_ _) | (with_reducible refine Kd.C_drew ?_))); (case side2 => exact (Kd.R_reads' HO838.out).2.1); rintro e w' ⟨rfl, ⟨nd, rfl⟩⟩; refine ⟨_, rfl, ?_⟩; (try (rw [drewN_self w117]; generalize hq_ : World.drewN w117 _ = w117; have n0_ : Aside0 (Kd.R k25 25 w117 w.heap.size (fun k_ => k_ ≠ gb828) (.slice Ao119 y836.length co119) y836) := ⟨by rw [← hq_]; exact (by (with_reducible repeat (first | apply Kd.R_alloc | apply Kd.R_drewN | apply Kd.R_drew)); exact Kd.R_mono HO838.out (fun _ hk => hk.2))⟩; have n1_ : Aside0 (w117.heap[gb828]? = some (.cells #[.int .u64 a2_0, .int .u64 a2_1] 25 (0, 0))) := ⟨by rw [← hq_]; exact (bm_ BK828.out)⟩; have n2_ : Aside0 (Below w.heap.size w w117) := ⟨by rw [← hq_]; exact qz_⟩; clear HO838 BK828 HB hq_; have HO838 := n0_; have BK828 := n1_; have HB := n2_; clear n0_ n1_ n2_))) | (go_at_call 36; (with_reducible refine (cutplaneref20_Is.calls a1 false _ A9.out).mono ?_); rintro e w' ⟨rfl, ⟨nd, rfl⟩⟩; (try (rw [drewN_self w117]; generalize hq_ : World.drewN w117 _ = w117; have n0_ : Aside0 (Kd.R k25 25 w117 w.heap.size (fun k_ => k_ ≠ gb828) (.slice Ao119 y836.length co119) y836) := ⟨by rw [← hq_]; exact (by (with_reducible repeat (first | apply Kd.R_alloc | apply Kd.R_drewN | apply Kd.R_drew)); exact Kd.R_mono HO838.out (fun _ hk => hk.2))⟩; have n1_ : Aside0 (w117.heap[gb828]? = some (.cells #[.int .u64 a2_0, .int .u64 a2_1] 25 (0, 0))) := ⟨by rw [← hq_]; exact (bm_ BK828.out)⟩; have n2_ : Aside0 (Below w.heap.size w w117) := ⟨by rw [← hq_]; exact qz_⟩; clear HO838 BK828 HB hq_; have HO838 := n0_; have BK828 := n1_; have HB := n2_; clear n0_ n1_ n2_)); have hcz120 := bc2_ BK828.out; have hfz120 := bf2_ BK828.out) | ((with_reducible refine gate_callee (f := 38) rfl ?_); refine goesL_ (some 90) rfl rfl Try.func38 (by kernel_rfl) rfl #[.int .u8 a0, .int .u8 a1, .agg #[.int .u64 a2_0, .int .u64 a2_1]] rfl (am_ rfl) ?_; (with_reducible refine (cutplaneref20_On.calls k a0 a1 a2_0 a2_1 t851 t852 t853 false _ A69.out).mono ?_); rintro e w121 ⟨rfl, hb⟩; refine ⟨_, rfl, ?_⟩; replace HO838 := A0_ (Kd.R_below (by exact rm_ HO838.out) hb); replace BK828 := bb_ BK828 hb; replace HB := hs_ hb; (try clear hb)) | ((with_reducible refine gate_dst (N := 15) rfl ?_); refine box_event ?hg (N := 15) ?hd (cs := #[.bool false, .int .i64 0, .bool false]) (t := 54) ?hr ?_; (case hd => rfl); (case hg => rfl); (case hr => first | (go_simp; done) | (go_simp; rfl)); intro gb855 hg w122 hbox hb; replace HO838 := A0_ (Kd.R_below (by exact rm_ HO838.out) hb); have BK855 := A0_ (hbox); have GW855 := A0_ ((by rw [hg]; exact (below_size qz_) : w.heap.size ≤ gb855)); have GE855 := GW855; replace HB := hs_ hb; have NB828_855 := nl_ hg BK828; have NB855_828 := ng_ hg BK828; replace BK828 := bb_ BK828 hb; clear hb hbox hg; have hnb123 := NB855_828.out; have hnc123 := NB828_855.out; have hcz124 := bc3_ BK855.out; have hfz124 := bf3_ BK855.out) | (go_at_call 37; (with_reducible refine (cutplanelaw20_known.calls k  t860 _ A108.out).mono ?_); rintro e w125 ⟨rfl, hb⟩; replace HO838 := A0_ (Kd.R_below (by (with_reducible repeat (first | apply Kd.R_alloc | apply Kd.R_drewN | apply Kd.R_drew)); exact (Kd.R_mono (Kd.R_far (p := ⟨gb855, 2, none⟩) (Kd.R_far (p := ⟨gb855, 1, none⟩) (Kd.R_far (p := ⟨gb855, 0, none⟩) (Kd.R_types HO838.out BK855.out (by decide)) (fun _ hk => hk.2) (.bool t851)) (fun _ hk => hk.2) (.int .i64 t852)) (fun _ hk => hk.2) (.bool t853)) (fun _ h_ => h_.1))) hb); replace BK828 := A0_ (blk_below (g := gb828) (o := .cells #[.int .u64 a2_0, .int .u64 a2_1] 25 (0, 0)) (by (with_reducible repeat first | apply bN_ | apply bD_ | apply bA_); refine blk_far ?_ NB828_855.out _; refine blk_far ?_ NB828_855.out _; refine blk_far ?_ NB828_855.out _; exact bm_ BK828.out) hb); replace BK855 := A0_ (blk_below (g := gb855) (o := .cells #[.bool t851, .int .i64 t852, .bool t853] 54 (0, 0)) (by (with_reducible repeat first | apply bN_ | apply bD_ | apply bA_); refine blk_put (cs := #[.bool t851, .int .i64 t852, .bool false]) ?_ 2 _ rfl; refine blk_put (cs := #[.bool t851, .int .i64 0, .bool false]) ?_ 1 _ rfl; refine blk_put (cs := #[.bool false, .int .i64 0, .bool false]) ?_ 0 _ rfl; exact bm_ BK855.out) hb); replace HB := hs_ hb; (try clear hb)))
     all_goals go_ret
     all_goals exact ⟨by first | rfl | (simp [errW_none, errW_some] <;> rfl) | (simp [*, errW_none, errW_some] <;> rfl), qz_⟩
   ·rw [if_neg c68] at H
    have c68b0 : (2 == 0) = false := beq_eq_false_iff_ne.mpr c68
    have c68b1 : (2 != 0) = true := bne_iff_ne.mpr c68
    by_cases c126 : t829 = true
    ·subst c126
     rw [if_pos rfl] at H
     exact absurd H (by simp)
    ·replace c126 := Bool.eq_false_iff.mpr c126
     subst c126
     rw [if_neg (show ¬ (false = true) by decide)] at H
     obtain ⟨c127, H⟩ := ic_ H
     have c127b0 : (t830 == 2) = true := beq_iff_eq.mpr c127
     have c127b1 : (t830 != 2) = false := bne_eq_false_iff_eq.mpr c127
     clear c127
     obtain ⟨c128, H⟩ := ic_ H
     have c128b0 : (t831 == 0) = true := beq_iff_eq.mpr c128
     have c128b1 : (t831 != 0) = false := bne_eq_false_iff_eq.mpr c128
     clear c128
     obtain ⟨c129, H⟩ := ic_ H
     have c129b0 : (t832 == 2) = true := beq_iff_eq.mpr c129
     have c129b1 : (t832 != 2) = false := bne_eq_false_iff_eq.mpr c129
     clear c129
     obtain ⟨c130, H⟩ := ic_ H
     have c130b0 : (t833 == 0) = true := beq_iff_eq.mpr c130
     have c130b1 : (t833 != 0) = false := bne_eq_false_iff_eq.mpr c130
     clear c130
     obtain ⟨c131, H⟩ := ic_ H
     have c131b0 : (t834 == 0) = true := beq_iff_eq.mpr c131
     have c131b1 : (t834 != 0) = false := bne_eq_false_iff_eq.mpr c131
     clear c131
     obtain ⟨c132, H⟩ := ic_ H
     have c132b0 : (t835 == 2) = true := beq_iff_eq.mpr c132
     have c132b1 : (t835 != 2) = false := bne_eq_false_iff_eq.mpr c132
     clear c132
     obtain ⟨t861, A133, H⟩ := bs_ H
     try dsimp -simprocs only at H
     obtain rfl := Option.some.inj H
     go_enter Try.func8, Try.ntmps8
     go_wp2_with (first | ((with_reducible refine gate_dst (N := 5) rfl ?_); refine box_event ?hg (N := 5) ?hd (cs := #[.int .u64 a2_0, .int .u64 a2_1]) (t := 25) ?hr ?_; (case hd => rfl); (case hg => rfl); (case hr => first | (go_simp; done) | (go_simp; rfl)); intro gb828 hg w134 hbox hb; have BK828 := A0_ (hbox); have GW828 := A0_ ((by rw [hg]; exact (below_size (qm_ HB.out)) : w.heap.size ≤ gb828)); have GE828 := GW828; replace HB := hs_ hb; clear hb hbox hg; have hcz135 := bc2_ BK828.out; have hfz135 := bf2_ BK828.out) | ((with_reducible refine gate_callee (f := 33) rfl ?_); refine goesL_ (some 23) rfl rfl Try.func33 (by kernel_rfl) rfl #[.int .u8 a0, .int .u8 a1, .agg #[.int .u64 a2_0, .int .u64 a2_1]] rfl (am_ rfl) ?_; (with_reducible refine (cuts_On.calls k a0 a1 a2_0 a2_1 false t830 _ A4.out).mono ?_); rintro e w136 ⟨rfl, hb⟩; refine ⟨_, rfl, ?_⟩; replace BK828 := bb_ BK828 hb; replace HB := hs_ hb; (try clear hb); have hcz137 := bc2_ BK828.out; have hfz137 := bf2_ BK828.out) | ((with_reducible refine gate_callee (f := 34) rfl ?_); refine goesL_ (some 30) rfl rfl Try.func34 (by kernel_rfl) rfl #[.int .u8 a0, .int .u8 a1, .agg #[.int .u64 a2_0, .int .u64 a2_1]] rfl (am_ rfl) ?_; (with_reducible refine (cuts_Side.calls k a0 a1 a2_0 a2_1 t831 t832 _ A5.out).mono ?_); rintro e w138 ⟨rfl, hb⟩; refine ⟨_, rfl, ?_⟩; replace BK828 := bb_ BK828 hb; replace HB := hs_ hb; (try clear hb); have hcz139 := bc2_ BK828.out; have hfz139 := bf2_ BK828.out) | ((with_reducible refine gate_callee (f := 35) rfl ?_); refine goesL_ (some 37) rfl rfl Try.func35 (by kernel_rfl) rfl #[.int .u8 a0, .int .u8 a1, .agg #[.int .u64 a2_0, .int .u64 a2_1]] rfl (am_ rfl) ?_; (with_reducible refine (cuts_Signs.calls k a0 a1 a2_0 a2_1 t833 t834 t835 _ A6.out).mono ?_); rintro e w140 ⟨rfl, hb⟩; refine ⟨_, rfl, ?_⟩; replace BK828 := bb_ BK828 hb; replace HB := hs_ hb; (try clear hb); have hcz141 := bc2_ BK828.out; have hfz141 := bf2_ BK828.out) | ((with_reducible refine gate_dst (N := 43) rfl ?_); refine Kd.R_lit k25 _ 25 ?hg (N := 43) ?hd (xs := ([(⟨a2_0, a2_1⟩ : S25)] : List (S25))) (inner := [.int .u64 a2_0, .int .u64 a2_1]) (ok := fun _ => True) (okp := fun _ => True) ?hr ?hp (fun _ hk => hk) trivial (Below.refl _ _) (Nat.le_refl _) (by simp) ?_; (case hd => rfl); (case hg => rfl); (case hr => first | (go_simp; done) | (go_simp; rfl)); (case hp => exact (Reps.c2 (show Kd.M k25 _ _ _ (⟨a2_0, a2_1⟩ : S25) [.int .u64 a2_0, .int .u64 a2_1] from (k25_mkM _ _ _ (⟨a2_0, a2_1⟩ : S25) )) (Reps.none _ _))); intro v837 w142 ho143 hb hg_ hnew_; clear hg_ hnew_; (first | rw [← Ny836.out] at ho143 | (simp only [Int.reduceToNat] at ho143; rw [← Ny836.out] at ho143)); have HO838 := A0_ (Kd.R_lower (Kd.R_newB ho143 (bm_ BK828.out)) (below_size qz_)); replace BK828 := bb_ BK828 hb; replace HB := hs_ hb; clear hb ho143; obtain ⟨Ao144, co144, eo144⟩ := Kd.R_slice HO838.out; subst eo144) | ((with_reducible refine gate_callee (f := 12) rfl ?_); refine goesL_ (some 44) rfl rfl Try.func12 (by kernel_rfl) rfl #[.int .u8 a0, .slice Ao144 y836.length co144] rfl (am_ rfl) ?_; (with_reducible refine (cutplaneref10_Good.calls k a0 _ _ y836 t839 _ ?side1 ?side2 A7.out).mono ?_); (case side1 => repeat (first | exact (Kd.R_reads' HO838.out).2.2 | (with_reducible refine Kd.C_alloc ?_ _) | (with_reducible refine Kd.C_drewN ?_ _) | (with_reducible refine Kd.C_drew ?_))); (case side2 => exact (Kd.R_reads' HO838.out).2.1); rintro e w' ⟨rfl, ⟨nd, rfl⟩⟩; refine ⟨_, rfl, ?_⟩) | (go_at_call 36; (with_reducible refine (cutplaneref20_Is.calls a1 false _ A9.out).mono ?_); rintro e w' ⟨rfl, ⟨nd, rfl⟩⟩) | (go_at_call 37; (with_reducible refine (cutplanelaw20_known.calls k  t861 _ A133.out).mono ?_); rintro e w145 ⟨rfl, hb⟩; replace HO838 := A0_ (Kd.R_below (by exact rm_ HO838.out) hb); replace BK828 := bb_ BK828 hb; replace HB := hs_ hb; (try clear hb)))
     all_goals go_ret
     all_goals exact ⟨by first | rfl | (simp [errW_none, errW_some] <;> rfl) | (simp [*, errW_none, errW_some] <;> rfl), qz_⟩
 ·rw [if_neg c8] at H
  have c8b0 : (t839 == 0) = false := beq_eq_false_iff_ne.mpr c8
  have c8b1 : (t839 != 0) = true := bne_iff_ne.mpr c8
  by_cases c146 : t829 = true
  ·subst c146
   rw [if_pos rfl] at H
   exact absurd H (by simp)
  ·replace c146 := Bool.eq_false_iff.mpr c146
   subst c146
   rw [if_neg (show ¬ (false = true) by decide)] at H
   obtain ⟨c147, H⟩ := ic_ H
   have c147b0 : (t830 == t839) = true := beq_iff_eq.mpr c147
   have c147b1 : (t830 != t839) = false := bne_eq_false_iff_eq.mpr c147
   clear c147
   obtain ⟨c148, H⟩ := ic_ H
   have c148b0 : (t831 == 0) = true := beq_iff_eq.mpr c148
   have c148b1 : (t831 != 0) = false := bne_eq_false_iff_eq.mpr c148
   clear c148
   obtain ⟨c149, H⟩ := ic_ H
   have c149b0 : (t832 == t839) = true := beq_iff_eq.mpr c149
   have c149b1 : (t832 != t839) = false := bne_eq_false_iff_eq.mpr c149
   clear c149
   obtain ⟨c150, H⟩ := ic_ H
   have c150b0 : (t833 == 0) = true := beq_iff_eq.mpr c150
   have c150b1 : (t833 != 0) = false := bne_eq_false_iff_eq.mpr c150
   clear c150
   obtain ⟨c151, H⟩ := ic_ H
   have c151b0 : (t834 == 0) = true := beq_iff_eq.mpr c151
   have c151b1 : (t834 != 0) = false := bne_eq_false_iff_eq.mpr c151
   clear c151
   obtain ⟨c152, H⟩ := ic_ H
   have c152b0 : (t835 == t839) = true := beq_iff_eq.mpr c152
   have c152b1 : (t835 != t839) = false := bne_eq_false_iff_eq.mpr c152
   clear c152
   obtain ⟨t862, A153, H⟩ := bs_ H
   try dsimp -simprocs only at H
   obtain rfl := Option.some.inj H
   go_enter Try.func8, Try.ntmps8
   go_wp2_with (first | ((with_reducible refine gate_dst (N := 5) rfl ?_); refine box_event ?hg (N := 5) ?hd (cs := #[.int .u64 a2_0, .int .u64 a2_1]) (t := 25) ?hr ?_; (case hd => rfl); (case hg => rfl); (case hr => first | (go_simp; done) | (go_simp; rfl)); intro gb828 hg w154 hbox hb; have BK828 := A0_ (hbox); have GW828 := A0_ ((by rw [hg]; exact (below_size (qm_ HB.out)) : w.heap.size ≤ gb828)); have GE828 := GW828; replace HB := hs_ hb; clear hb hbox hg; have hcz155 := bc2_ BK828.out; have hfz155 := bf2_ BK828.out) | ((with_reducible refine gate_callee (f := 33) rfl ?_); refine goesL_ (some 23) rfl rfl Try.func33 (by kernel_rfl) rfl #[.int .u8 a0, .int .u8 a1, .agg #[.int .u64 a2_0, .int .u64 a2_1]] rfl (am_ rfl) ?_; (with_reducible refine (cuts_On.calls k a0 a1 a2_0 a2_1 false t830 _ A4.out).mono ?_); rintro e w156 ⟨rfl, hb⟩; refine ⟨_, rfl, ?_⟩; replace BK828 := bb_ BK828 hb; replace HB := hs_ hb; (try clear hb); have hcz157 := bc2_ BK828.out; have hfz157 := bf2_ BK828.out) | ((with_reducible refine gate_callee (f := 34) rfl ?_); refine goesL_ (some 30) rfl rfl Try.func34 (by kernel_rfl) rfl #[.int .u8 a0, .int .u8 a1, .agg #[.int .u64 a2_0, .int .u64 a2_1]] rfl (am_ rfl) ?_; (with_reducible refine (cuts_Side.calls k a0 a1 a2_0 a2_1 t831 t832 _ A5.out).mono ?_); rintro e w158 ⟨rfl, hb⟩; refine ⟨_, rfl, ?_⟩; replace BK828 := bb_ BK828 hb; replace HB := hs_ hb; (try clear hb); have hcz159 := bc2_ BK828.out; have hfz159 := bf2_ BK828.out) | ((with_reducible refine gate_callee (f := 35) rfl ?_); refine goesL_ (some 37) rfl rfl Try.func35 (by kernel_rfl) rfl #[.int .u8 a0, .int .u8 a1, .agg #[.int .u64 a2_0, .int .u64 a2_1]] rfl (am_ rfl) ?_; (with_reducible refine (cuts_Signs.calls k a0 a1 a2_0 a2_1 t833 t834 t835 _ A6.out).mono ?_); rintro e w160 ⟨rfl, hb⟩; refine ⟨_, rfl, ?_⟩; replace BK828 := bb_ BK828 hb; replace HB := hs_ hb; (try clear hb); have hcz161 := bc2_ BK828.out; have hfz161 := bf2_ BK828.out) | ((with_reducible refine gate_dst (N := 43) rfl ?_); refine Kd.R_lit k25 _ 25 ?hg (N := 43) ?hd (xs := ([(⟨a2_0, a2_1⟩ : S25)] : List (S25))) (inner := [.int .u64 a2_0, .int .u64 a2_1]) (ok := fun _ => True) (okp := fun _ => True) ?hr ?hp (fun _ hk => hk) trivial (Below.refl _ _) (Nat.le_refl _) (by simp) ?_; (case hd => rfl); (case hg => rfl); (case hr => first | (go_simp; done) | (go_simp; rfl)); (case hp => exact (Reps.c2 (show Kd.M k25 _ _ _ (⟨a2_0, a2_1⟩ : S25) [.int .u64 a2_0, .int .u64 a2_1] from (k25_mkM _ _ _ (⟨a2_0, a2_1⟩ : S25) )) (Reps.none _ _))); intro v837 w162 ho163 hb hg_ hnew_; clear hg_ hnew_; (first | rw [← Ny836.out] at ho163 | (simp only [Int.reduceToNat] at ho163; rw [← Ny836.out] at ho163)); have HO838 := A0_ (Kd.R_lower (Kd.R_newB ho163 (bm_ BK828.out)) (below_size qz_)); replace BK828 := bb_ BK828 hb; replace HB := hs_ hb; clear hb ho163; obtain ⟨Ao164, co164, eo164⟩ := Kd.R_slice HO838.out; subst eo164) | ((with_reducible refine gate_callee (f := 12) rfl ?_); refine goesL_ (some 44) rfl rfl Try.func12 (by kernel_rfl) rfl #[.int .u8 a0, .slice Ao164 y836.length co164] rfl (am_ rfl) ?_; (with_reducible refine (cutplaneref10_Good.calls k a0 _ _ y836 t839 _ ?side1 ?side2 A7.out).mono ?_); (case side1 => repeat (first | exact (Kd.R_reads' HO838.out).2.2 | (with_reducible refine Kd.C_alloc ?_ _) | (with_reducible refine Kd.C_drewN ?_ _) | (with_reducible refine Kd.C_drew ?_))); (case side2 => exact (Kd.R_reads' HO838.out).2.1); rintro e w' ⟨rfl, ⟨nd, rfl⟩⟩; refine ⟨_, rfl, ?_⟩) | (go_at_call 37; (with_reducible refine (cutplanelaw20_known.calls k  t862 _ A153.out).mono ?_); rintro e w165 ⟨rfl, hb⟩; replace HO838 := A0_ (Kd.R_below (by exact rm_ HO838.out) hb); replace BK828 := bb_ BK828 hb; replace HB := hs_ hb; (try clear hb)))
   all_goals go_ret
   all_goals exact ⟨by first | rfl | (simp [errW_none, errW_some] <;> rfl) | (simp [*, errW_none, errW_some] <;> rfl), qz_⟩
/-- THE ONE PURE STATEMENT of cutplanelaw20_CutsSides: yours. -/
def cutplanelaw20_CutsSides.Pure : Prop := ∀ (a0 : Int) (a1 : Int) (a2_0 : Int) (a2_1 : Int), (Lit.int .u8 a0).wf = true → (Lit.int .u8 a1).wf = true → (Lit.int .u64 a2_0).wf = true → (Lit.int .u64 a2_1).wf = true → ∃ k, cutplanelaw20_CutsSides.f k a0 a1 a2_0 a2_1 = some true
theorem cutplanelaw20_CutsSides.walk (P : cutplanelaw20_CutsSides.Pure) (a0 : Int) (a1 : Int) (a2_0 : Int) (a2_1 : Int) (w : World) (w0 : (Lit.int .u8 a0).wf = true) (w1 : (Lit.int .u8 a1).wf = true) (w2_0 : (Lit.int .u64 a2_0).wf = true) (w2_1 : (Lit.int .u64 a2_1).wf = true) :
  Calls Try.prog 8 #[.int .u8 a0, .int .u8 a1, .agg #[.int .u64 a2_0, .int .u64 a2_1]] w fun e w' => e = .returned (.bool true) ∧ Below w.heap.size w w' := by
 obtain ⟨k, h⟩ := P a0 a1 a2_0 a2_1 w0 w1 w2_0 w2_1
 refine (cutplanelaw20_CutsSides.calls k a0 a1 a2_0 a2_1 true w h).mono ?_
 rintro e w' ⟨rfl, hd⟩
 exact ⟨rfl, hd⟩
end Go.Proofs.Ytgaabjjenlbmhaa.PA
end

section
namespace Go.Proofs.Ytgaabjjenlbmhaa.Wd
open Go
theorem nat_and_lt {n a : Nat} (h : a < 2 ^ n) : a &&& 2 ^ n = 0 := by
  apply Nat.eq_of_testBit_eq
  intro i
  rw [Nat.testBit_and, Nat.testBit_two_pow, Nat.zero_testBit]
  by_cases e : n = i
  · subst e; simp [Nat.testBit_lt_two_pow h]
  · simp [e]
theorem nat_and_ge {n l : Nat} (h : l < 2 ^ n) : (2 ^ n + l) &&& 2 ^ n = 2 ^ n := by
  apply Nat.eq_of_testBit_eq
  intro i
  rw [Nat.testBit_and, Nat.testBit_two_pow]
  by_cases e : n = i
  · subst e; rw [Nat.testBit_two_pow_add_eq, Nat.testBit_lt_two_pow h]; simp
  · simp [e]
theorem nat_or_lt {n a : Nat} (h : a < 2 ^ n) : a ||| 2 ^ n = 2 ^ n + a := by
  have := Nat.two_pow_add_eq_or_of_lt h 1
  rw [Nat.mul_one] at this
  rw [this, Nat.or_comm]
theorem nat_mask {n a : Nat} (hn : n ≤ 63) (h : a < 2 ^ (n + 1)) : a &&& (2 ^ 64 - (2 ^ n + 1)) = a % 2 ^ n := by
  apply Nat.eq_of_testBit_eq
  intro i
  rw [Nat.testBit_and, Nat.testBit_mod_two_pow, Nat.testBit_two_pow_sub_succ (by exact Nat.pow_lt_pow_right (by decide) (by omega)), Nat.testBit_two_pow]
  by_cases e : i < n
  · simp [e, show n ≠ i by omega, show i < 64 by omega]
  · by_cases e2 : n = i
    · subst e2; simp
    · have : a.testBit i = false := Nat.testBit_lt_two_pow (Nat.lt_of_lt_of_le h (Nat.pow_le_pow_right (by decide) (by omega)))
      simp [this]
section
variable {w : Int}
theorem andNot31 (h0 : 0 ≤ w) (h1 : w < 4294967296) : Go.bits .andNot .u64 w 2147483648 = w % 2147483648 := by
  obtain ⟨a, rfl⟩ := Int.eq_ofNat_of_zero_le h0
  have ha : a < 2 ^ (31 + 1) := by omega
  have e := u64_andNot_nat a 2147483648 (by omega) (by decide)
  have m : a &&& 18446744071562067967 = a % 2147483648 := nat_mask (n := 31) (by decide) ha
  rw [show ((2147483648 : Int)) = ((2147483648 : Nat) : Int) from rfl, e, show (18446744073709551615 - 2147483648 : Nat) = 18446744071562067967 from rfl, m]
  omega
theorem andNot63 (h0 : 0 ≤ w) (h1 : w < 18446744073709551616) : Go.bits .andNot .u64 w 9223372036854775808 = w % 9223372036854775808 := by
  obtain ⟨a, rfl⟩ := Int.eq_ofNat_of_zero_le h0
  have ha : a < 2 ^ (63 + 1) := by omega
  have e := u64_andNot_nat a 9223372036854775808 (by omega) (by decide)
  have m : a &&& 9223372036854775807 = a % 9223372036854775808 := nat_mask (n := 63) (by decide) ha
  rw [show ((9223372036854775808 : Int)) = ((9223372036854775808 : Nat) : Int) from rfl, e, show (18446744073709551615 - 9223372036854775808 : Nat) = 9223372036854775807 from rfl, m]
  omega
theorem and31 (h0 : 0 ≤ w) (h1 : w < 4294967296) : Go.bits .and .u64 w 2147483648 = if w ≥ 2147483648 then 2147483648 else 0 := by
  obtain ⟨a, rfl⟩ := Int.eq_ofNat_of_zero_le h0
  have e := u64_and_nat a 2147483648 (by omega) (by decide)
  rw [show ((2147483648 : Int)) = ((2147483648 : Nat) : Int) from rfl, e]
  by_cases c : a < 2 ^ 31
  · have m : a &&& 2147483648 = 0 := nat_and_lt (n := 31) c
    rw [m, if_neg (by omega)]; rfl
  · obtain ⟨l, rfl⟩ : ∃ l, a = 2 ^ 31 + l := ⟨a - 2 ^ 31, by omega⟩
    have m : (2 ^ 31 + l) &&& 2147483648 = 2147483648 := nat_and_ge (n := 31) (l := l) (by omega)
    rw [m, if_pos (by omega)]
theorem and63 (h0 : 0 ≤ w) (h1 : w < 18446744073709551616) : Go.bits .and .u64 w 9223372036854775808 = if w ≥ 9223372036854775808 then 9223372036854775808 else 0 := by
  obtain ⟨a, rfl⟩ := Int.eq_ofNat_of_zero_le h0
  have e := u64_and_nat a 9223372036854775808 (by omega) (by decide)
  rw [show ((9223372036854775808 : Int)) = ((9223372036854775808 : Nat) : Int) from rfl, e]
  by_cases c : a < 2 ^ 63
  · have m : a &&& 9223372036854775808 = 0 := nat_and_lt (n := 63) c
    rw [m, if_neg (by omega)]; rfl
  · obtain ⟨l, rfl⟩ : ∃ l, a = 2 ^ 63 + l := ⟨a - 2 ^ 63, by omega⟩
    have m : (2 ^ 63 + l) &&& 9223372036854775808 = 9223372036854775808 := nat_and_ge (n := 63) (l := l) (by omega)
    rw [m, if_pos (by omega)]
theorem or31 (h0 : 0 ≤ w) (h1 : w < 2147483648) : Go.bits .or .u64 w 2147483648 = w + 2147483648 := by
  obtain ⟨a, rfl⟩ := Int.eq_ofNat_of_zero_le h0
  have e := u64_or_nat a 2147483648 (by omega) (by decide)
  have m : a ||| 2147483648 = 2 ^ 31 + a := nat_or_lt (n := 31) (by omega)
  rw [show ((2147483648 : Int)) = ((2147483648 : Nat) : Int) from rfl, e, m]
  omega
theorem or63 (h0 : 0 ≤ w) (h1 : w < 9223372036854775808) : Go.bits .or .u64 w 9223372036854775808 = w + 9223372036854775808 := by
  obtain ⟨a, rfl⟩ := Int.eq_ofNat_of_zero_le h0
  have e := u64_or_nat a 9223372036854775808 (by omega) (by decide)
  have m : a ||| 9223372036854775808 = 2 ^ 63 + a := nat_or_lt (n := 63) (by omega)
  rw [show ((9223372036854775808 : Int)) = ((9223372036854775808 : Nat) : Int) from rfl, e, m]
  omega
theorem wrapu64 (n : Int) : IntKind.u64.wrap n = n % 18446744073709551616 := by simp [IntKind.wrap, IntKind.bits, IntKind.signed]
theorem wraps_u64 (n : Int) (h₀ : 0 ≤ n) (h₁ : n < 2 ^ 64) : IntKind.u64.wrap n = n := by
  rw [wrapu64]; omega
theorem and23 (h0 : 0 ≤ w) (h1 : w < 18446744073709551616) : Go.bits .and .u64 w 8388607 = w % 8388608 :=
  bits_mask .u64 64 (by decide) wraps_u64 23 (by decide) w h0 (by omega)
theorem and52 (h0 : 0 ≤ w) (h1 : w < 18446744073709551616) : Go.bits .and .u64 w 4503599627370495 = w % 4503599627370496 :=
  bits_mask .u64 64 (by decide) wraps_u64 52 (by decide) w h0 (by omega)
end
end Go.Proofs.Ytgaabjjenlbmhaa.Wd
end

section
namespace Go.Proofs.Ytgaabjjenlbmhaa.PA
open Go.RowKit Go.Proofs.YtgaabjjenlbmhaaW.PrintWords Go.Proofs.YtgaabjjenlbmhaaW.PrintLast Go.Proofs.YtgaabjjenlbmhaaW.PrintMore Go.Proofs.Ytgaabjjenlbmhaa.Wd
set_option linter.unusedSimpArgs false
set_option linter.unusedVariables false
/-- the class of a size: P one above the fractions, I the infinite size -/
def cls (P I s : Int) : Int := if s = 0 then 1 else if s < P then 2 else if s < I then 3 else if s = I then 4 else 5
def sgn (f : Int) : Int := if f = 1 then 2147483648 else 9223372036854775808
def one (f : Int) : Int := if f = 1 then 8388608 else 4503599627370496
def infw (f : Int) : Int := if f = 1 then 2139095040 else 9218868437227405312
def nanw (f : Int) : Int := if f = 1 then 2143289344 else 9221120237041090560
def cl (f w : Int) : Int := cls (one f) (infw f) (w % sgn f)
/-- the error of a word, as Good tells it -/
def err (f w : Int) : Int := if f = 1 then (if w ≥ 4294967296 then 6 else 0) else if f = 2 then 0 else 4
/-- a good word -/
def Gd (f w : Int) : Prop := (f = 1 ∧ 0 ≤ w ∧ w < 4294967296) ∨ (f = 2 ∧ 0 ≤ w ∧ w < 18446744073709551616)
def U (w : Int) : Prop := 0 ≤ w ∧ w < 18446744073709551616
theorem Gd.u {f w : Int} (h : Gd f w) : U w := by rcases h with ⟨_, a, b⟩ | ⟨_, a, b⟩ <;> exact ⟨a, by omega⟩
theorem Gd.err {f w : Int} (h : Gd f w) : err f w = 0 := by
  rcases h with ⟨rfl, a, b⟩ | ⟨rfl, a, b⟩
  · simp [PA.err]; omega
  · simp [PA.err]
theorem gd_of {f w : Int} (h : err f w = 0) (hu : U w) : Gd f w := by
  unfold err at h
  unfold U at hu
  unfold Gd
  split at h
  · split at h
    · omega
    · omega
  · split at h <;> omega
theorem u_of {w : Int} (h : (Lit.int .u64 w).wf = true) : U w := by have := bounds_u64 h; exact ⟨by omega, by omega⟩
theorem rd_zero (w : Int) : rd [w] 0 = w := by rfl
theorem top31 : Go.bits .or .u64 2147483648 (IntKind.u64.wrap (2147483648 - 1)) = 4294967295 := by decide +kernel
theorem top63 : Go.bits .or .u64 9223372036854775808 (IntKind.u64.wrap (9223372036854775808 - 1)) = 18446744073709551615 := by decide +kernel
/-- the shape of a format -/
def shp (f : Int) : Int × Int × Int := if f = 1 then (23, 255, 2147483648) else if f = 2 then (52, 2047, 9223372036854775808) else (0, 0, 0)
theorem open_nil (k : Nat) (f : Int) : word_open.f (k + 1) f [] = some ((shp f).1, (shp f).2.1, (shp f).2.2, if f = 1 ∨ f = 2 then 0 else 4) := by
  unfold word_open.f word_shapeOf.f shp
  by_cases h1 : f = 1
  · subst h1; simp [word_open.l0]
  · by_cases h2 : f = 2
    · subst h2; simp [word_open.l0]
    · simp [h1, h2]
theorem open_one (k : Nat) (f w : Int) (hu : U w) : word_open.f (k + 2) f [w] = some ((shp f).1, (shp f).2.1, (shp f).2.2, err f w) := by
  obtain ⟨h0, h3⟩ := hu
  unfold word_open.f word_shapeOf.f shp err
  by_cases h1 : f = 1
  · subst h1
    have l1 : (([w] : List Int).length : Int) = 1 := rfl
    have w1 : wrap64 (0 + 1) = 1 := by decide +kernel
    simp only [if_true, Option.bind_some, word_open.l0, l1, rd_zero, top31, Int.zero_lt_one, Int.le_refl, w1]
    by_cases c : w ≥ 4294967296
    · rw [if_pos (by omega)]; simp [c]
    · rw [if_neg (by omega)]; simp [c]
  · by_cases h2 : f = 2
    · subst h2
      have l1 : (([w] : List Int).length : Int) = 1 := rfl
      have w1 : wrap64 (0 + 1) = 1 := by decide +kernel
      simp only [show (¬ ((2 : Int) = 1)) by decide, if_false, if_true, Option.bind_some, word_open.l0, l1, rd_zero, top63, Int.zero_lt_one, Int.le_refl, w1]
      rw [if_neg (by omega)]
      simp
    · simp [h1, h2]
theorem shape_inf1 : word_shape_inf.f 23 255 2147483648 = some 2139095040 := by decide +kernel
theorem shape_inf2 : word_shape_inf.f 52 2047 9223372036854775808 = some 9218868437227405312 := by decide +kernel
theorem shape_none1 : word_shape_none.f 23 255 2147483648 = some 2143289344 := by decide +kernel
theorem shape_none2 : word_shape_none.f 52 2047 9223372036854775808 = some 9221120237041090560 := by decide +kernel
theorem shl23 : shl .u64 1 23 = 8388608 := by decide +kernel
theorem shl52 : shl .u64 1 52 = 4503599627370496 := by decide +kernel
theorem shape_class {f w : Int} (h : Gd f w) : word_shape_class.f (shp f).1 (shp f).2.1 (shp f).2.2 w = some (cl f w) := by
  rcases h with ⟨rfl, h0, h1⟩ | ⟨rfl, h0, h1⟩
  · have e1 : shp 1 = (23, 255, 2147483648) := rfl
    rw [e1]
    simp only [word_shape_class.f, andNot31 h0 h1, shape_inf1, Option.bind_some, shl23, cl, cls, one, infw, sgn, if_true]
    repeat' split
    all_goals first | rfl | (exfalso; omega)
  · have e1 : shp 2 = (52, 2047, 9223372036854775808) := rfl
    rw [e1]
    simp only [word_shape_class.f, andNot63 h0 h1, shape_inf2, Option.bind_some, shl52, cl, cls, one, infw, sgn]
    simp only [show (¬ ((2 : Int) = 1)) by decide, if_false]
    repeat' split
    all_goals first | rfl | (exfalso; omega)
theorem split_good (k : Nat) {f w : Int} (h : Gd f w) : word_Split.f (k + 2) f w = some (decide (w ≥ sgn f), w % sgn f / one f, w % one f, 0) := by
  unfold word_Split.f
  rw [open_one k f w h.u, h.err]
  rcases h with ⟨rfl, h0, h1⟩ | ⟨rfl, h0, h1⟩
  · have e1 : shp 1 = (23, 255, 2147483648) := rfl
    have e2 : IntKind.u64.wrap (8388608 - 1) = 8388607 := by decide +kernel
    have e3 : shr .u64 (w % 2147483648) 23 = w % 2147483648 / 8388608 := rfl
    rw [e1]
    simp only [Option.bind_some, if_true, word_shape_split.f, andNot31 h0 h1, and31 h0 h1, shl23, e2, e3, sgn, one]
    rw [and23 (by omega) (by omega)]
    have e4 : wrap64 (w % 2147483648 / 8388608) = w % 2147483648 / 8388608 := by unfold wrap64; omega
    have e5 : w % 2147483648 % 8388608 = w % 8388608 := by omega
    rw [e4, e5]
    by_cases c : w ≥ 2147483648 <;> simp [c]
  · have e1 : shp 2 = (52, 2047, 9223372036854775808) := rfl
    have e2 : IntKind.u64.wrap (4503599627370496 - 1) = 4503599627370495 := by decide +kernel
    have e3 : shr .u64 (w % 9223372036854775808) 52 = w % 9223372036854775808 / 4503599627370496 := rfl
    rw [e1]
    simp only [Option.bind_some, if_true, word_shape_split.f, andNot63 h0 h1, and63 h0 h1, shl52, e2, e3, sgn, one]
    rw [and52 (by omega) (by omega)]
    have e4 : wrap64 (w % 9223372036854775808 / 4503599627370496) = w % 9223372036854775808 / 4503599627370496 := by unfold wrap64; omega
    have e5 : w % 9223372036854775808 % 4503599627370496 = w % 4503599627370496 := by omega
    rw [e4, e5]
    by_cases c : w ≥ 9223372036854775808 <;> simp [c]
theorem class_good (k : Nat) {f w : Int} (h : Gd f w) : word_Class.f (k + 2) f w = some (cl f w, 0) := by
  unfold word_Class.f
  rw [open_one k f w h.u, h.err]
  simp only [Option.bind_some, if_true, shape_class h]
theorem good_word (k : Nat) {f w : Int} (hu : U w) : word_Good.f (k + 2) f w = some (err f w) := by
  unfold word_Good.f
  rw [open_one k f w hu]
  simp only [Option.bind_some]
theorem ref_Is (f : Int) : cutplaneref03_Is.f f = some (decide (f = 1 ∨ f = 2)) := by
  unfold cutplaneref03_Is.f
  by_cases h1 : f = 1
  · simp [h1]
  · rw [if_neg h1]; by_cases h2 : f = 2 <;> simp [h1, h2]
theorem ref_Good (f w : Int) : cutplaneref03_Good.f f w = some (err f w) := by
  unfold cutplaneref03_Good.f err
  rw [ref_Is]
  by_cases h1 : f = 1
  · subst h1; simp
    split <;> rfl
  · by_cases h2 : f = 2 <;> simp [h1, h2]
theorem ref_Split (f : Int) {w : Int} (hu : U w) : cutplaneref03_Split.f f w = some (decide (w ≥ sgn f), w % sgn f / one f, w % one f) := by
  unfold cutplaneref03_Split.f sgn one
  unfold U at hu
  rw [if_pos hu]
  split <;> rfl
theorem ref_Most (f : Int) : cutplaneref03_Most.f f = some (if f = 1 then 255 else 2047) := by unfold cutplaneref03_Most.f; split <;> rfl
theorem ref_Class (k : Nat) (f : Int) {w : Int} (hu : U w) : cutplaneref03_Class.f (k + 1) f w = some (cl f w) := by
  obtain ⟨h0, h1⟩ := hu
  unfold cutplaneref03_Class.f
  rw [ref_Split f ⟨h0, h1⟩]
  simp only [Option.bind_some, cutplaneref03_Class.j0, ref_Most]
  unfold cl cls sgn one infw
  by_cases hf : f = 1
  · simp only [hf, if_true]
    by_cases a : w % 2147483648 / 8388608 = 0
    · rw [if_pos a]
      by_cases b : w % 8388608 = 0
      · rw [if_pos (by simp [b]), if_pos (by omega)]
      · rw [if_neg (by simp [b]), if_pos a, if_neg (by omega), if_pos (by omega)]
    · rw [if_neg a, if_neg (by decide), if_neg a]
      by_cases c : w % 2147483648 / 8388608 < 255
      · rw [if_pos c, if_neg (by omega), if_neg (by omega), if_pos (by omega)]
      · rw [if_neg c]
        by_cases d : w % 8388608 = 0
        · rw [if_pos d, if_neg (by omega), if_neg (by omega), if_neg (by omega), if_pos (by omega)]
        · rw [if_neg d, if_neg (by omega), if_neg (by omega), if_neg (by omega), if_neg (by omega)]
  · simp only [hf, if_false]
    by_cases a : w % 9223372036854775808 / 4503599627370496 = 0
    · rw [if_pos a]
      by_cases b : w % 4503599627370496 = 0
      · rw [if_pos (by simp [b]), if_pos (by omega)]
      · rw [if_neg (by simp [b]), if_pos a, if_neg (by omega), if_pos (by omega)]
    · rw [if_neg a, if_neg (by decide), if_neg a]
      by_cases c : w % 9223372036854775808 / 4503599627370496 < 2047
      · rw [if_pos c, if_neg (by omega), if_neg (by omega), if_pos (by omega)]
      · rw [if_neg c]
        by_cases d : w % 4503599627370496 = 0
        · rw [if_pos d, if_neg (by omega), if_neg (by omega), if_neg (by omega), if_pos (by omega)]
        · rw [if_neg d, if_neg (by omega), if_neg (by omega), if_neg (by omega), if_neg (by omega)]
theorem ref_Frac (f : Int) : cutplaneref03_Frac.f f = some (if f = 1 then 23 else 52) := by unfold cutplaneref03_Frac.f; split <;> rfl
def absw (f w : Int) : Int := if cl f w = 5 then nanw f else w % sgn f
theorem shape_none {f w : Int} (h : Gd f w) : word_shape_none.f (shp f).1 (shp f).2.1 (shp f).2.2 = some (nanw f) := by
  rcases h with ⟨rfl, _, _⟩ | ⟨rfl, _, _⟩
  · exact shape_none1
  · exact shape_none2
theorem turned_good (k : Nat) {f w : Int} (h : Gd f w) {g : Int → Int → Int → Option Int} {z : Int} (hg : g (shp f).1 (shp f).2.1 (shp f).2.2 = some z) :
    word_turned.f (k + 2) f w g = some (if cl f w = 5 then nanw f else z, 0) := by
  unfold word_turned.f
  rw [open_one k f w h.u, h.err]
  simp only [Option.bind_some, if_true, shape_class h, shape_none h, hg]
  split <;> rfl
theorem shp3 {f w : Int} (h : Gd f w) : (shp f).2.2 = sgn f := by
  rcases h with ⟨rfl, _, _⟩ | ⟨rfl, _, _⟩ <;> rfl
theorem abs_good (k : Nat) {f w : Int} (h : Gd f w) : word_Abs.f (k + 2) f w = some (absw f w, 0) := by
  unfold word_Abs.f
  rw [turned_good k h (z := w % sgn f) ?_]
  · rfl
  · unfold word_Abs_1.f
    rw [shp3 h]
    rcases h with ⟨rfl, h0, h1⟩ | ⟨rfl, h0, h1⟩
    · exact congrArg some (andNot31 h0 h1)
    · exact congrArg some (andNot63 h0 h1)
theorem sgn_cases (f : Int) : sgn f = 2147483648 ∨ sgn f = 9223372036854775808 := by unfold sgn; split <;> simp
theorem open_nil' (k : Nat) (f : Int) : word_open.f (k + 1) f ([] : List Int) = some ((shp f).1, (shp f).2.1, (shp f).2.2, if f = 1 ∨ f = 2 then 0 else 4) := open_nil k f
end Go.Proofs.Ytgaabjjenlbmhaa.PA
end

section
namespace Go.Proofs.Ytgaabjjenlbmhaa.PA
open Go.RowKit Go.Proofs.YtgaabjjenlbmhaaW.PrintWords Go.Proofs.YtgaabjjenlbmhaaW.PrintLast Go.Proofs.YtgaabjjenlbmhaaW.PrintMore Go.Proofs.Ytgaabjjenlbmhaa.Wd
set_option linter.unusedSimpArgs false
set_option linter.unusedVariables false
theorem named_good (k : Nat) {f : Int} (hf : f = 1 ∨ f = 2) (b : Bool) {g : Int → Int → Int → Option Int} {z : Int} (hg : g (shp f).1 (shp f).2.1 (shp f).2.2 = some z) (h0 : 0 ≤ z) (h1 : z < sgn f) :
    word_named.f (k + 1) f b g = some (if b then z + sgn f else z, 0) := by
  unfold word_named.f
  rw [open_nil' k f]
  simp only [Option.bind_some, if_pos hf, if_true, hg]
  have e : Go.bits .or .u64 z (shp f).2.2 = z + sgn f := by
    rcases hf with rfl | rfl
    · exact or31 h0 h1
    · exact or63 h0 h1
  rw [e]
  cases b <;> rfl
theorem named_nof (k : Nat) {f : Int} (hf : ¬ (f = 1 ∨ f = 2)) (b : Bool) {g : Int → Int → Int → Option Int} : word_named.f (k + 1) f b g = some (0, 4) := by
  unfold word_named.f
  rw [open_nil' k f]
  simp only [Option.bind_some, if_neg hf]
  rw [if_neg (by decide)]
theorem infw_lt (f : Int) : 0 ≤ infw f ∧ infw f < sgn f ∧ infw f < nanw f ∧ nanw f < sgn f ∧ one f < infw f ∧ 0 < one f := by unfold infw sgn nanw one; split <;> decide
theorem none_good (k : Nat) {f : Int} (hf : f = 1 ∨ f = 2) : word_None.f (k + 1) f = some (nanw f, 0) := by
  unfold word_None.f
  rw [named_good k hf false (z := nanw f) (by rcases hf with rfl | rfl; exact shape_none1; exact shape_none2) (by have := infw_lt f; omega) (infw_lt f).2.2.2.1]
  rfl
theorem none_nof (k : Nat) {f : Int} (hf : ¬ (f = 1 ∨ f = 2)) : word_None.f (k + 1) f = some (0, 4) := by unfold word_None.f; rw [named_nof k hf]; rfl
end Go.Proofs.Ytgaabjjenlbmhaa.PA
end

section
namespace Go.Proofs.Ytgaabjjenlbmhaa.PA
open Go.RowKit Go.Proofs.YtgaabjjenlbmhaaW.PrintWords Go.Proofs.YtgaabjjenlbmhaaW.PrintLast Go.Proofs.YtgaabjjenlbmhaaW.PrintMore Go.Proofs.Ytgaabjjenlbmhaa.Wd
set_option linter.unusedSimpArgs false
set_option linter.unusedVariables false
def errz (f a b : Int) : Int := if err f a = 0 then err f b else err f a
def Gz (f a b : Int) : Prop := Gd f a ∧ Gd f b
theorem gz_of {f a b : Int} (h : errz f a b = 0) (ha : U a) (hb : U b) : Gz f a b := by
  unfold errz at h
  by_cases e : err f a = 0
  · rw [if_pos e] at h; exact ⟨gd_of e ha, gd_of h hb⟩
  · rw [if_neg e] at h; exact absurd h e
theorem Gz.err {f a b : Int} (h : Gz f a b) : errz f a b = 0 := by unfold errz; rw [h.1.err, h.2.err]; rfl
theorem err_val (f w : Int) : err f w = 0 ∨ err f w = 4 ∨ err f w = 6 := by
  unfold PA.err; repeat' split
  all_goals simp
theorem err_four (f w : Int) : err f w = 4 ↔ ¬ (f = 1 ∨ f = 2) := by
  unfold PA.err; repeat' split
  all_goals simp_all
theorem good_pair (k : Nat) {f a b : Int} (ha : U a) (hb : U b) : pair_Good.f (k + 2) f a b = some (errz f a b) := by
  unfold pair_Good.f errz
  rw [good_word k ha]
  simp only [Option.bind_some, good_word k hb]
  split <;> rfl
theorem ref_Goodz (k : Nat) (f a b : Int) : cutplaneref10_Good.f (k + 2) f [⟨a, b⟩] = some (errz f a b) := by
  unfold cutplaneref10_Good.f errz
  rw [ref_Is]
  have l1 : (([⟨a, b⟩] : List S25).length : Int) = 1 := rfl
  have r0 : rd_T25 [⟨a, b⟩] 0 = ⟨a, b⟩ := rfl
  have w1 : wrap64 (0 + 1) = 1 := by decide +kernel
  by_cases hf : f = 1 ∨ f = 2
  · have ea := err_val f a
    have eb := err_val f b
    have fa : err f a ≠ 4 := fun c => (err_four f a).1 c hf
    have fb : err f b ≠ 4 := fun c => (err_four f b).1 c hf
    simp only [Option.bind_some, hf, decide_true, if_true, cutplaneref10_Good.l0, l1, r0, w1, ref_Good, Int.zero_lt_one, Int.le_refl]
    by_cases c : err f a = 0
    · rw [if_pos c, if_pos c]
      by_cases d : err f b = 0
      · rw [if_pos d, d]; rfl
      · rw [if_neg d]; congr 1; omega
    · rw [if_neg c, if_neg c]; congr 1; omega
  · have fa := (err_four f a).2 hf
    simp [hf, fa]
end Go.Proofs.Ytgaabjjenlbmhaa.PA
end

section
namespace Go.Proofs.Ytgaabjjenlbmhaa.Wd
open Go
/-- what a list of digits stands for -/
def vn : List Int → Nat
  | [] => 0
  | d :: t => d.toNat + 4294967296 * vn t
def Dg (l : List Int) : Prop := ∀ d ∈ l, 0 ≤ d ∧ d < 4294967296
/-- a number's digits, none of them nought at the high end -/
def dg (n : Nat) : List Int := if h : n = 0 then [] else ((n % 4294967296 : Nat) : Int) :: dg (n / 4294967296)
  termination_by n
  decreasing_by omega
theorem dg_zero : dg 0 = [] := by rw [dg]; simp
theorem dg_pos {n : Nat} (h : n ≠ 0) : dg n = ((n % 4294967296 : Nat) : Int) :: dg (n / 4294967296) := by rw [dg]; simp [h]
theorem vn_dg (n : Nat) : vn (dg n) = n := by
  induction n using Nat.strongRecOn with
  | _ n ih =>
    by_cases h : n = 0
    · subst h; rw [dg_zero]; rfl
    · rw [dg_pos h, vn, ih (n / 4294967296) (by omega)]
      have : (((n % 4294967296 : Nat) : Int)).toNat = n % 4294967296 := by omega
      rw [this]; omega
theorem dg_dg (n : Nat) : Dg (dg n) := by
  induction n using Nat.strongRecOn with
  | _ n ih =>
    by_cases h : n = 0
    · subst h; rw [dg_zero]; intro d hd; cases hd
    · rw [dg_pos h]
      intro d hd
      rcases List.mem_cons.1 hd with rfl | hd
      · omega
      · exact ih (n / 4294967296) (by omega) d hd
theorem dg_nil {n : Nat} : dg n = [] ↔ n = 0 := by
  constructor
  · intro h; have := vn_dg n; rw [h] at this; exact this.symm
  · rintro rfl; exact dg_zero
def Nm (l : List Int) : Prop := ∀ h : l ≠ [], l.getLast h ≠ 0
theorem vn_pos {l : List Int} (hd : Dg l) (hn : Nm l) (h : l ≠ []) : vn l ≠ 0 := by
  induction l with
  | nil => exact absurd rfl h
  | cons d t ih =>
    have hd0 := hd d (List.mem_cons_self ..)
    by_cases ht : t = []
    · subst ht
      have := hn h
      simp only [List.getLast_singleton] at this
      simp only [vn]; omega
    · have := ih (fun x hx => hd x (List.mem_cons_of_mem _ hx)) (fun h' => by have := hn h; rwa [List.getLast_cons h'] at this) ht
      simp only [vn]; omega
theorem eq_dg {l : List Int} (hd : Dg l) (hn : Nm l) : l = dg (vn l) := by
  induction l with
  | nil => simp only [vn]; exact dg_zero.symm
  | cons d t ih =>
    have hd0 := hd d (List.mem_cons_self ..)
    have hdt : Dg t := fun x hx => hd x (List.mem_cons_of_mem _ hx)
    have hnt : Nm t := fun h' => by have := hn (List.cons_ne_nil d t); rwa [List.getLast_cons h'] at this
    have hp := vn_pos hd hn (List.cons_ne_nil d t)
    rw [dg_pos hp]
    simp only [vn] at hp ⊢
    have e1 : (d.toNat + 4294967296 * vn t) % 4294967296 = d.toNat := by omega
    have e2 : (d.toNat + 4294967296 * vn t) / 4294967296 = vn t := by omega
    rw [e1, e2, ← ih hdt hnt]
    congr 1; omega
theorem vn_append (l m : List Int) : vn (l ++ m) = vn l + 4294967296 ^ l.length * vn m := by
  induction l with
  | nil => simp [vn]
  | cons d t ih =>
    simp only [List.cons_append, vn, ih, List.length_cons, Nat.pow_succ]
    rw [Nat.mul_add, ← Nat.mul_assoc, Nat.mul_comm 4294967296 (4294967296 ^ t.length)]
    omega
theorem vn_lt {l : List Int} (hd : Dg l) : vn l < 4294967296 ^ l.length := by
  induction l with
  | nil => simp [vn]
  | cons d t ih =>
    have hd0 := hd d (List.mem_cons_self ..)
    have := ih (fun x hx => hd x (List.mem_cons_of_mem _ hx))
    simp only [vn, List.length_cons, Nat.pow_succ]
    omega
theorem dg_length_le {n k : Nat} (h : n < 4294967296 ^ k) : (dg n).length ≤ k := by
  induction k generalizing n with
  | zero => have : n = 0 := by simpa using h
            subst this; rw [dg_zero]; simp
  | succ k ih =>
    by_cases h0 : n = 0
    · subst h0; rw [dg_zero]; simp
    · rw [dg_pos h0, List.length_cons]
      have : n / 4294967296 < 4294967296 ^ k := by rw [Nat.div_lt_iff_lt_mul (by decide)]; rwa [Nat.pow_succ] at h
      have := ih this
      omega
theorem dg_lo {n : Nat} (h : n ≠ 0) : 4294967296 ^ ((dg n).length - 1) ≤ n := by
  by_cases c : 4294967296 ^ ((dg n).length - 1) ≤ n
  · exact c
  · have := dg_length_le (n := n) (k := (dg n).length - 1) (by omega)
    have : (dg n) ≠ [] := fun z => h (dg_nil.1 z)
    have := List.length_pos_iff.2 this
    omega
theorem dg_hi (n : Nat) : n < 4294967296 ^ (dg n).length := by have := vn_lt (dg_dg n); rwa [vn_dg] at this
theorem dg_len_pos {n : Nat} (h : n ≠ 0) : 0 < (dg n).length := List.length_pos_iff.2 fun z => h (dg_nil.1 z)
theorem dg_get (n i : Nat) (h : i < (dg n).length) : (dg n)[i] = ((n / 4294967296 ^ i % 4294967296 : Nat) : Int) := by
  induction i generalizing n with
  | zero =>
    have h0 : n ≠ 0 := fun z => by subst z; rw [dg_zero] at h; simp at h
    simp only [dg_pos h0, List.getElem_cons_zero, Nat.pow_zero, Nat.div_one]
  | succ i ih =>
    have h0 : n ≠ 0 := fun z => by subst z; rw [dg_zero] at h; simp at h
    have h' : i < (dg (n / 4294967296)).length := by rw [dg_pos h0, List.length_cons] at h; omega
    have e := ih (n / 4294967296) h'
    simp only [dg_pos h0, List.getElem_cons_succ, e, Nat.div_div_eq_div_mul, Nat.pow_succ, Nat.mul_comm]
theorem vn_take_zero {l : List Int} {i : Nat} (h : i < l.length) (hz : l[i] = 0) : vn (l.take (i + 1)) = vn (l.take i) := by
  rw [List.take_succ_eq_append_getElem h, vn_append, hz]; simp [vn]
theorem dg_take {l : List Int} (hd : Dg l) (i : Nat) : Dg (l.take i) := fun d hm => hd d (List.mem_of_mem_take hm)
theorem dg_drop {l : List Int} (hd : Dg l) (i : Nat) : Dg (l.drop i) := fun d hm => hd d (List.mem_of_mem_drop hm)
theorem nm_take {l : List Int} {i : Nat} (h : i < l.length) (hz : l[i] ≠ 0) : Nm (l.take (i + 1)) := by
  intro hh
  have e : l.take (i + 1) = l.take i ++ [l[i]] := List.take_succ_eq_append_getElem h
  simp only [e, List.getLast_concat]
  exact hz
/-- how many bits a number has -/
def bl (n : Nat) : Nat := if n = 0 then 0 else n.log2 + 1
theorem bl_zero : bl 0 = 0 := rfl
theorem bl_lo {n : Nat} (h : n ≠ 0) : 2 ^ (bl n - 1) ≤ n := by
  unfold bl; rw [if_neg h]; exact Nat.log2_self_le h
theorem bl_hi (n : Nat) : n < 2 ^ bl n := by
  unfold bl; split
  · omega
  · exact Nat.lt_log2_self
theorem bl_pos {n : Nat} (h : n ≠ 0) : 0 < bl n := by unfold bl; rw [if_neg h]; omega
theorem bl_eq {n b : Nat} (h0 : 0 < b) (h1 : 2 ^ (b - 1) ≤ n) (h2 : n < 2 ^ b) : bl n = b := by
  have hn : n ≠ 0 := by have := Nat.two_pow_pos (b - 1); omega
  have a := bl_lo hn
  have c := bl_hi n
  have p := bl_pos hn
  by_cases l : bl n < b
  · have : 2 ^ bl n ≤ 2 ^ (b - 1) := Nat.pow_le_pow_right (by decide) (by omega)
    omega
  · by_cases g : b < bl n
    · have : 2 ^ b ≤ 2 ^ (bl n - 1) := Nat.pow_le_pow_right (by decide) (by omega)
      omega
    · omega
theorem bl_half {n : Nat} (h : n ≠ 0) : bl n = bl (n / 2) + 1 := by
  by_cases h1 : n / 2 = 0
  · have : n = 1 := by omega
    subst this; rfl
  · have a := bl_lo h1
    have c := bl_hi (n / 2)
    have p := bl_pos h1
    apply bl_eq (by omega)
    · have : 2 ^ (bl (n / 2) + 1 - 1) = 2 ^ (bl (n / 2) - 1) * 2 := by rw [← Nat.pow_succ]; congr 1; omega
      omega
    · rw [Nat.pow_succ]; omega
theorem pow32 (i : Nat) : 4294967296 ^ i = 2 ^ (32 * i) := by rw [Nat.pow_mul]
theorem bl_shift {n : Nat} (h : n ≠ 0) (s : Nat) : bl (n * 2 ^ s) = bl n + s := by
  have a := bl_lo h
  have c := bl_hi n
  have p := bl_pos h
  apply bl_eq (by omega)
  · have : 2 ^ (bl n + s - 1) = 2 ^ (bl n - 1) * 2 ^ s := by rw [← Nat.pow_add]; congr 1; omega
    rw [this]; exact Nat.mul_le_mul_right _ a
  · rw [Nat.pow_add]; exact Nat.mul_lt_mul_of_pos_right c (Nat.two_pow_pos s)
/-- every number but nought is an odd one times a power of two -/
theorem odd_part {n : Nat} (h : n ≠ 0) : ∃ t m, n = 2 ^ t * m ∧ m % 2 = 1 := by
  induction n using Nat.strongRecOn with
  | _ n ih =>
    by_cases o : n % 2 = 1
    · exact ⟨0, n, by simp, o⟩
    · obtain ⟨t, m, e, hm⟩ := ih (n / 2) (by omega) (by omega)
      refine ⟨t + 1, m, ?_, hm⟩
      rw [Nat.pow_succ, Nat.mul_right_comm, ← e]; omega
end Go.Proofs.Ytgaabjjenlbmhaa.Wd
end
