/- Steps of Go functions that the law CutsSides uses, told as plain Lean functions, each with the proof that its call comes to what it tells; words on memory; plain facts. No condition beyond those that each text names. -/
import Derived.Test.YtgaabjjenlbmhaaProg
import Derived.WalkMore
import Derived.Test.YtgaabjjenlbmhaaSCutsSides0
import Derived.Test.YtgaabjjenlbmhaaSCutsSides1
import Derived.Test.YtgaabjjenlbmhaaSCutsSides2
import Derived.Test.YtgaabjjenlbmhaaSCutsSides3
import Derived.Test.YtgaabjjenlbmhaaSCutsSides4
import Derived.Test.YtgaabjjenlbmhaaSCutsSides5
import Derived.Test.YtgaabjjenlbmhaaSCutsSides6
import Derived.Test.YtgaabjjenlbmhaaSCutsSides10
set_option maxHeartbeats 16000000
set_option maxRecDepth 100000
section
namespace Go.Proofs.Ytgaabjjenlbmhaa.PA
open Go.RowKit Go.Proofs.YtgaabjjenlbmhaaW.PrintWords Go.Proofs.YtgaabjjenlbmhaaW.PrintLast Go.Proofs.YtgaabjjenlbmhaaW.PrintMore
attribute [local go_sem] max2_int min2_int max_two min_two max_three min_three max_four min_four   -- for this text's walks alone
set_option linter.unusedVariables false
set_option linter.unusedSimpArgs false
def cutplaneref20_Lies.f (k : Nat) (a0 : Int) (a1_0 : Bool) (a1_1 : Int) (a1_2 : Bool) (a2_0 : Int) (a2_1 : Int) : Option (Bool) := (cutplaneref20_coordinates.f a1_0 a1_1 a1_2 a2_0 a2_1).bind fun bt800 => ((cutplaneref03_Class.f k a0 bt800.2).bind fun t802 => (if t802 = 1 then ((cutplaneref03_Class.f k a0 bt800.1).bind fun t803 => (if t803 = 5 then (some false) else ((cutplaneref20_beyond.f k a0 bt800.1 a1_1).bind fun t804 => (if t804 < 0 then (if a1_2 = true then (some true) else (if t804 > 0 then (some true) else (some false))) else (if t804 > 0 then (if a1_2 = true then (some false) else (some true)) else (some false)))))) else (some false)))
theorem cutplaneref20_Lies.calls (k : Nat) (a0 : Int) (a1_0 : Bool) (a1_1 : Int) (a1_2 : Bool) (a2_0 : Int) (a2_1 : Int) (r : Bool) (w : World) (h : cutplaneref20_Lies.f k a0 a1_0 a1_1 a1_2 a2_0 a2_1 = some r) :
  Calls Try.prog 64 #[.int .u8 a0, .agg #[.bool a1_0, .int .i64 a1_1, .bool a1_2], .agg #[.int .u64 a2_0, .int .u64 a2_1]] w fun e w' => e = .returned (.bool r) ∧ Below w.heap.size w w' := by
 have hu54 := Try.underlying54
 have hu25 := Try.underlying25
 have HB := A0_ (Below.refl w.heap.size w)
 have H := h
 clear h
 unfold cutplaneref20_Lies.f at H
 obtain ⟨⟨t800, t801⟩, A4, H⟩ := bs_ H
 try dsimp -simprocs only at H
 obtain ⟨t802, A5, H⟩ := bs_ H
 try dsimp -simprocs only at H
 by_cases c6 : t802 = 1
 ·rw [if_pos c6] at H
  have c6b0 : (t802 == 1) = true := beq_iff_eq.mpr c6
  have c6b1 : (t802 != 1) = false := bne_eq_false_iff_eq.mpr c6
  clear c6
  obtain ⟨t803, A7, H⟩ := bs_ H
  try dsimp -simprocs only at H
  by_cases c8 : t803 = 5
  ·rw [if_pos c8] at H
   have c8b0 : (t803 == 5) = true := beq_iff_eq.mpr c8
   have c8b1 : (t803 != 5) = false := bne_eq_false_iff_eq.mpr c8
   clear c8
   obtain rfl := Option.some.inj H
   go_enter Try.func64, Try.ntmps64
   go_wp2_with (first | ((with_reducible refine gate_dst (N := 4) rfl ?_); refine box_event ?hg (N := 4) ?hd (cs := #[.bool a1_0, .int .i64 a1_1, .bool a1_2]) (t := 54) ?hr ?_; (case hd => rfl); (case hg => rfl); (case hr => first | (go_simp; done) | (go_simp; rfl)); intro gb798 hg w9 hbox hb; have BK798 := A0_ (hbox); have GW798 := A0_ ((by rw [hg]; exact (below_size (qm_ HB.out)) : w.heap.size ≤ gb798)); have GE798 := GW798; replace HB := hs_ hb; clear hb hbox hg) | ((with_reducible refine gate_dst (N := 5) rfl ?_); refine box_event ?hg (N := 5) ?hd (cs := #[.int .u64 a2_0, .int .u64 a2_1]) (t := 25) ?hr ?_; (case hd => rfl); (case hg => rfl); (case hr => first | (go_simp; done) | (go_simp; rfl)); intro gb799 hg w10 hbox hb; have BK799 := A0_ (hbox); have GW799 := A0_ ((by rw [hg]; exact (below_size qz_) : w.heap.size ≤ gb799)); have GE799 := GW799; replace HB := hs_ hb; have NB798_799 := nl_ hg BK798; have NB799_798 := ng_ hg BK798; replace BK798 := bb_ BK798 hb; clear hb hbox hg; have hnb11 := NB798_799.out; have hnc11 := NB799_798.out; have hcz12 := bc3_ BK798.out; have hfz12 := bf3_ BK798.out; have hcz13 := bc2_ BK799.out; have hfz13 := bf2_ BK799.out) | ((with_reducible refine gate_callee (f := 65) rfl ?_); refine goesL_ (some 13) rfl rfl Try.func65 (by kernel_rfl) rfl #[.agg #[.bool a1_0, .int .i64 a1_1, .bool a1_2], .agg #[.int .u64 a2_0, .int .u64 a2_1]] rfl (am_ rfl) ?_; (with_reducible refine (cutplaneref20_coordinates.calls a1_0 a1_1 a1_2 a2_0 a2_1 t800 t801 _ A4.out).mono ?_); rintro e w14 ⟨rfl, hb⟩; refine ⟨_, rfl, ?_⟩; replace BK798 := bb_ BK798 hb; replace BK799 := bb_ BK799 hb; replace HB := hs_ hb; (try clear hb)) | ((with_reducible refine gate_callee (f := 41) rfl ?_); refine goesL_ (some 18) rfl rfl Try.func41 (by kernel_rfl) rfl #[.int .u8 a0, .int .u64 t801] rfl (am_ rfl) ?_; (with_reducible refine (cutplaneref03_Class.calls k a0 t801 t802 _ A5.out).mono ?_); rintro e w15 ⟨rfl, hb⟩; refine ⟨_, rfl, ?_⟩; replace BK798 := bb_ BK798 hb; replace BK799 := bb_ BK799 hb; replace HB := hs_ hb; (try clear hb)) | (go_at_call 41; (with_reducible refine (cutplaneref03_Class.calls k a0 t800 t803 _ A7.out).mono ?_); rintro e w16 ⟨rfl, hb⟩; replace BK798 := bb_ BK798 hb; replace BK799 := bb_ BK799 hb; replace HB := hs_ hb; (try clear hb)))
   go_ret
   exact ⟨by first | rfl | (simp [errW_none, errW_some] <;> rfl) | (simp [*, errW_none, errW_some] <;> rfl), qz_⟩
  ·rw [if_neg c8] at H
   have c8b0 : (t803 == 5) = false := beq_eq_false_iff_ne.mpr c8
   have c8b1 : (t803 != 5) = true := bne_iff_ne.mpr c8
   obtain ⟨t804, A17, H⟩ := bs_ H
   try dsimp -simprocs only at H
   by_cases c18 : t804 < 0
   ·rw [if_pos c18] at H
    have c18b0 : decide (t804 < 0) = true := decide_eq_true c18
    clear c18
    by_cases c19 : a1_2 = true
    ·subst c19
     rw [if_pos rfl] at H
     obtain rfl := Option.some.inj H
     go_enter Try.func64, Try.ntmps64
     go_wp2_with (first | ((with_reducible refine gate_dst (N := 4) rfl ?_); refine box_event ?hg (N := 4) ?hd (cs := #[.bool a1_0, .int .i64 a1_1, .bool true]) (t := 54) ?hr ?_; (case hd => rfl); (case hg => rfl); (case hr => first | (go_simp; done) | (go_simp; rfl)); intro gb798 hg w20 hbox hb; have BK798 := A0_ (hbox); have GW798 := A0_ ((by rw [hg]; exact (below_size (qm_ HB.out)) : w.heap.size ≤ gb798)); have GE798 := GW798; replace HB := hs_ hb; clear hb hbox hg) | ((with_reducible refine gate_dst (N := 5) rfl ?_); refine box_event ?hg (N := 5) ?hd (cs := #[.int .u64 a2_0, .int .u64 a2_1]) (t := 25) ?hr ?_; (case hd => rfl); (case hg => rfl); (case hr => first | (go_simp; done) | (go_simp; rfl)); intro gb799 hg w21 hbox hb; have BK799 := A0_ (hbox); have GW799 := A0_ ((by rw [hg]; exact (below_size qz_) : w.heap.size ≤ gb799)); have GE799 := GW799; replace HB := hs_ hb; have NB798_799 := nl_ hg BK798; have NB799_798 := ng_ hg BK798; replace BK798 := bb_ BK798 hb; clear hb hbox hg; have hnb22 := NB798_799.out; have hnc22 := NB799_798.out; have hcz23 := bc3_ BK798.out; have hfz23 := bf3_ BK798.out; have hcz24 := bc2_ BK799.out; have hfz24 := bf2_ BK799.out) | ((with_reducible refine gate_callee (f := 65) rfl ?_); refine goesL_ (some 13) rfl rfl Try.func65 (by kernel_rfl) rfl #[.agg #[.bool a1_0, .int .i64 a1_1, .bool true], .agg #[.int .u64 a2_0, .int .u64 a2_1]] rfl (am_ rfl) ?_; (with_reducible refine (cutplaneref20_coordinates.calls a1_0 a1_1 true a2_0 a2_1 t800 t801 _ A4.out).mono ?_); rintro e w25 ⟨rfl, hb⟩; refine ⟨_, rfl, ?_⟩; replace BK798 := bb_ BK798 hb; replace BK799 := bb_ BK799 hb; replace HB := hs_ hb; (try clear hb)) | ((with_reducible refine gate_callee (f := 41) rfl ?_); refine goesL_ (some 18) rfl rfl Try.func41 (by kernel_rfl) rfl #[.int .u8 a0, .int .u64 t801] rfl (am_ rfl) ?_; (with_reducible refine (cutplaneref03_Class.calls k a0 t801 t802 _ A5.out).mono ?_); rintro e w26 ⟨rfl, hb⟩; refine ⟨_, rfl, ?_⟩; replace BK798 := bb_ BK798 hb; replace BK799 := bb_ BK799 hb; replace HB := hs_ hb; (try clear hb)) | (go_at_call 41; (with_reducible refine (cutplaneref03_Class.calls k a0 t800 t803 _ A7.out).mono ?_); rintro e w27 ⟨rfl, hb⟩; replace BK798 := bb_ BK798 hb; replace BK799 := bb_ BK799 hb; replace HB := hs_ hb; (try clear hb); have hcz28 := bc3_ BK798.out; have hfz28 := bf3_ BK798.out) | ((with_reducible refine gate_callee (f := 66) rfl ?_); refine goesL_ (some 30) rfl rfl Try.func66 (by kernel_rfl) rfl #[.int .u8 a0, .int .u64 t800, .int .i64 a1_1] rfl (am_ rfl) ?_; (with_reducible refine (cutplaneref20_beyond.calls k a0 t800 a1_1 t804 _ A17.out).mono ?_); rintro e w29 ⟨rfl, hb⟩; refine ⟨_, rfl, ?_⟩; replace BK798 := bb_ BK798 hb; replace BK799 := bb_ BK799 hb; replace HB := hs_ hb; (try clear hb); have hcz30 := bc3_ BK798.out; have hfz30 := bf3_ BK798.out))
     go_ret
     exact ⟨by first | rfl | (simp [errW_none, errW_some] <;> rfl) | (simp [*, errW_none, errW_some] <;> rfl), qz_⟩
    ·replace c19 := Bool.eq_false_iff.mpr c19
     subst c19
     rw [if_neg (show ¬ (false = true) by decide)] at H
     by_cases c31 : t804 > 0
     ·rw [if_pos c31] at H
      have c31b0 : decide (0 < t804) = true := decide_eq_true c31
      clear c31
      obtain rfl := Option.some.inj H
      go_enter Try.func64, Try.ntmps64
      go_wp2_with (first | ((with_reducible refine gate_dst (N := 4) rfl ?_); refine box_event ?hg (N := 4) ?hd (cs := #[.bool a1_0, .int .i64 a1_1, .bool false]) (t := 54) ?hr ?_; (case hd => rfl); (case hg => rfl); (case hr => first | (go_simp; done) | (go_simp; rfl)); intro gb798 hg w32 hbox hb; have BK798 := A0_ (hbox); have GW798 := A0_ ((by rw [hg]; exact (below_size (qm_ HB.out)) : w.heap.size ≤ gb798)); have GE798 := GW798; replace HB := hs_ hb; clear hb hbox hg) | ((with_reducible refine gate_dst (N := 5) rfl ?_); refine box_event ?hg (N := 5) ?hd (cs := #[.int .u64 a2_0, .int .u64 a2_1]) (t := 25) ?hr ?_; (case hd => rfl); (case hg => rfl); (case hr => first | (go_simp; done) | (go_simp; rfl)); intro gb799 hg w33 hbox hb; have BK799 := A0_ (hbox); have GW799 := A0_ ((by rw [hg]; exact (below_size qz_) : w.heap.size ≤ gb799)); have GE799 := GW799; replace HB := hs_ hb; have NB798_799 := nl_ hg BK798; have NB799_798 := ng_ hg BK798; replace BK798 := bb_ BK798 hb; clear hb hbox hg; have hnb34 := NB798_799.out; have hnc34 := NB799_798.out; have hcz35 := bc3_ BK798.out; have hfz35 := bf3_ BK798.out; have hcz36 := bc2_ BK799.out; have hfz36 := bf2_ BK799.out) | ((with_reducible refine gate_callee (f := 65) rfl ?_); refine goesL_ (some 13) rfl rfl Try.func65 (by kernel_rfl) rfl #[.agg #[.bool a1_0, .int .i64 a1_1, .bool false], .agg #[.int .u64 a2_0, .int .u64 a2_1]] rfl (am_ rfl) ?_; (with_reducible refine (cutplaneref20_coordinates.calls a1_0 a1_1 false a2_0 a2_1 t800 t801 _ A4.out).mono ?_); rintro e w37 ⟨rfl, hb⟩; refine ⟨_, rfl, ?_⟩; replace BK798 := bb_ BK798 hb; replace BK799 := bb_ BK799 hb; replace HB := hs_ hb; (try clear hb)) | ((with_reducible refine gate_callee (f := 41) rfl ?_); refine goesL_ (some 18) rfl rfl Try.func41 (by kernel_rfl) rfl #[.int .u8 a0, .int .u64 t801] rfl (am_ rfl) ?_; (with_reducible refine (cutplaneref03_Class.calls k a0 t801 t802 _ A5.out).mono ?_); rintro e w38 ⟨rfl, hb⟩; refine ⟨_, rfl, ?_⟩; replace BK798 := bb_ BK798 hb; replace BK799 := bb_ BK799 hb; replace HB := hs_ hb; (try clear hb)) | (go_at_call 41; (with_reducible refine (cutplaneref03_Class.calls k a0 t800 t803 _ A7.out).mono ?_); rintro e w39 ⟨rfl, hb⟩; replace BK798 := bb_ BK798 hb; replace BK799 := bb_ BK799 hb; replace HB := hs_ hb; (try clear hb); have hcz40 := bc3_ BK798.out; have hfz40 := bf3_ BK798.out) | ((with_reducible refine gate_callee (f := 66) rfl ?_); refine goesL_ (some 30) rfl rfl Try.func66 (by kernel_rfl) rfl #[.int .u8 a0, .int .u64 t800, .int .i64 a1_1] rfl (am_ rfl) ?_; (with_reducible refine (cutplaneref20_beyond.calls k a0 t800 a1_1 t804 _ A17.out).mono ?_); rintro e w41 ⟨rfl, hb⟩; refine ⟨_, rfl, ?_⟩; replace BK798 := bb_ BK798 hb; replace BK799 := bb_ BK799 hb; replace HB := hs_ hb; (try clear hb); have hcz42 := bc3_ BK798.out; have hfz42 := bf3_ BK798.out))
      go_ret
      exact ⟨by first | rfl | (simp [errW_none, errW_some] <;> rfl) | (simp [*, errW_none, errW_some] <;> rfl), qz_⟩
     ·rw [if_neg c31] at H
      have c31b0 : decide (0 < t804) = false := decide_eq_false c31
      clear c31
      obtain rfl := Option.some.inj H
      go_enter Try.func64, Try.ntmps64
      go_wp2_with (first | ((with_reducible refine gate_dst (N := 4) rfl ?_); refine box_event ?hg (N := 4) ?hd (cs := #[.bool a1_0, .int .i64 a1_1, .bool false]) (t := 54) ?hr ?_; (case hd => rfl); (case hg => rfl); (case hr => first | (go_simp; done) | (go_simp; rfl)); intro gb798 hg w43 hbox hb; have BK798 := A0_ (hbox); have GW798 := A0_ ((by rw [hg]; exact (below_size (qm_ HB.out)) : w.heap.size ≤ gb798)); have GE798 := GW798; replace HB := hs_ hb; clear hb hbox hg) | ((with_reducible refine gate_dst (N := 5) rfl ?_); refine box_event ?hg (N := 5) ?hd (cs := #[.int .u64 a2_0, .int .u64 a2_1]) (t := 25) ?hr ?_; (case hd => rfl); (case hg => rfl); (case hr => first | (go_simp; done) | (go_simp; rfl)); intro gb799 hg w44 hbox hb; have BK799 := A0_ (hbox); have GW799 := A0_ ((by rw [hg]; exact (below_size qz_) : w.heap.size ≤ gb799)); have GE799 := GW799; replace HB := hs_ hb; have NB798_799 := nl_ hg BK798; have NB799_798 := ng_ hg BK798; replace BK798 := bb_ BK798 hb; clear hb hbox hg; have hnb45 := NB798_799.out; have hnc45 := NB799_798.out; have hcz46 := bc3_ BK798.out; have hfz46 := bf3_ BK798.out; have hcz47 := bc2_ BK799.out; have hfz47 := bf2_ BK799.out) | ((with_reducible refine gate_callee (f := 65) rfl ?_); refine goesL_ (some 13) rfl rfl Try.func65 (by kernel_rfl) rfl #[.agg #[.bool a1_0, .int .i64 a1_1, .bool false], .agg #[.int .u64 a2_0, .int .u64 a2_1]] rfl (am_ rfl) ?_; (with_reducible refine (cutplaneref20_coordinates.calls a1_0 a1_1 false a2_0 a2_1 t800 t801 _ A4.out).mono ?_); rintro e w48 ⟨rfl, hb⟩; refine ⟨_, rfl, ?_⟩; replace BK798 := bb_ BK798 hb; replace BK799 := bb_ BK799 hb; replace HB := hs_ hb; (try clear hb)) | ((with_reducible refine gate_callee (f := 41) rfl ?_); refine goesL_ (some 18) rfl rfl Try.func41 (by kernel_rfl) rfl #[.int .u8 a0, .int .u64 t801] rfl (am_ rfl) ?_; (with_reducible refine (cutplaneref03_Class.calls k a0 t801 t802 _ A5.out).mono ?_); rintro e w49 ⟨rfl, hb⟩; refine ⟨_, rfl, ?_⟩; replace BK798 := bb_ BK798 hb; replace BK799 := bb_ BK799 hb; replace HB := hs_ hb; (try clear hb)) | (go_at_call 41; (with_reducible refine (cutplaneref03_Class.calls k a0 t800 t803 _ A7.out).mono ?_); rintro e w50 ⟨rfl, hb⟩; replace BK798 := bb_ BK798 hb; replace BK799 := bb_ BK799 hb; replace HB := hs_ hb; (try clear hb); have hcz51 := bc3_ BK798.out; have hfz51 := bf3_ BK798.out) | ((with_reducible refine gate_callee (f := 66) rfl ?_); refine goesL_ (some 30) rfl rfl Try.func66 (by kernel_rfl) rfl #[.int .u8 a0, .int .u64 t800, .int .i64 a1_1] rfl (am_ rfl) ?_; (with_reducible refine (cutplaneref20_beyond.calls k a0 t800 a1_1 t804 _ A17.out).mono ?_); rintro e w52 ⟨rfl, hb⟩; refine ⟨_, rfl, ?_⟩; replace BK798 := bb_ BK798 hb; replace BK799 := bb_ BK799 hb; replace HB := hs_ hb; (try clear hb); have hcz53 := bc3_ BK798.out; have hfz53 := bf3_ BK798.out))
      go_ret
      exact ⟨by first | rfl | (simp [errW_none, errW_some] <;> rfl) | (simp [*, errW_none, errW_some] <;> rfl), qz_⟩
   ·rw [if_neg c18] at H
    have c18b0 : decide (t804 < 0) = false := decide_eq_false c18
    clear c18
    by_cases c54 : t804 > 0
    ·rw [if_pos c54] at H
     have c54b0 : decide (0 < t804) = true := decide_eq_true c54
     clear c54
     by_cases c55 : a1_2 = true
     ·subst c55
      rw [if_pos rfl] at H
      obtain rfl := Option.some.inj H
      go_enter Try.func64, Try.ntmps64
      go_wp2_with (first | ((with_reducible refine gate_dst (N := 4) rfl ?_); refine box_event ?hg (N := 4) ?hd (cs := #[.bool a1_0, .int .i64 a1_1, .bool true]) (t := 54) ?hr ?_; (case hd => rfl); (case hg => rfl); (case hr => first | (go_simp; done) | (go_simp; rfl)); intro gb798 hg w56 hbox hb; have BK798 := A0_ (hbox); have GW798 := A0_ ((by rw [hg]; exact (below_size (qm_ HB.out)) : w.heap.size ≤ gb798)); have GE798 := GW798; replace HB := hs_ hb; clear hb hbox hg) | ((with_reducible refine gate_dst (N := 5) rfl ?_); refine box_event ?hg (N := 5) ?hd (cs := #[.int .u64 a2_0, .int .u64 a2_1]) (t := 25) ?hr ?_; (case hd => rfl); (case hg => rfl); (case hr => first | (go_simp; done) | (go_simp; rfl)); intro gb799 hg w57 hbox hb; have BK799 := A0_ (hbox); have GW799 := A0_ ((by rw [hg]; exact (below_size qz_) : w.heap.size ≤ gb799)); have GE799 := GW799; replace HB := hs_ hb; have NB798_799 := nl_ hg BK798; have NB799_798 := ng_ hg BK798; replace BK798 := bb_ BK798 hb; clear hb hbox hg; have hnb58 := NB798_799.out; have hnc58 := NB799_798.out; have hcz59 := bc3_ BK798.out; have hfz59 := bf3_ BK798.out; have hcz60 := bc2_ BK799.out; have hfz60 := bf2_ BK799.out) | ((with_reducible refine gate_callee (f := 65) rfl ?_); refine goesL_ (some 13) rfl rfl Try.func65 (by kernel_rfl) rfl #[.agg #[.bool a1_0, .int .i64 a1_1, .bool true], .agg #[.int .u64 a2_0, .int .u64 a2_1]] rfl (am_ rfl) ?_; (with_reducible refine (cutplaneref20_coordinates.calls a1_0 a1_1 true a2_0 a2_1 t800 t801 _ A4.out).mono ?_); rintro e w61 ⟨rfl, hb⟩; refine ⟨_, rfl, ?_⟩; replace BK798 := bb_ BK798 hb; replace BK799 := bb_ BK799 hb; replace HB := hs_ hb; (try clear hb)) | ((with_reducible refine gate_callee (f := 41) rfl ?_); refine goesL_ (some 18) rfl rfl Try.func41 (by kernel_rfl) rfl #[.int .u8 a0, .int .u64 t801] rfl (am_ rfl) ?_; (with_reducible refine (cutplaneref03_Class.calls k a0 t801 t802 _ A5.out).mono ?_); rintro e w62 ⟨rfl, hb⟩; refine ⟨_, rfl, ?_⟩; replace BK798 := bb_ BK798 hb; replace BK799 := bb_ BK799 hb; replace HB := hs_ hb; (try clear hb)) | (go_at_call 41; (with_reducible refine (cutplaneref03_Class.calls k a0 t800 t803 _ A7.out).mono ?_); rintro e w63 ⟨rfl, hb⟩; replace BK798 := bb_ BK798 hb; replace BK799 := bb_ BK799 hb; replace HB := hs_ hb; (try clear hb); have hcz64 := bc3_ BK798.out; have hfz64 := bf3_ BK798.out) | ((with_reducible refine gate_callee (f := 66) rfl ?_); refine goesL_ (some 30) rfl rfl Try.func66 (by kernel_rfl) rfl #[.int .u8 a0, .int .u64 t800, .int .i64 a1_1] rfl (am_ rfl) ?_; (with_reducible refine (cutplaneref20_beyond.calls k a0 t800 a1_1 t804 _ A17.out).mono ?_); rintro e w65 ⟨rfl, hb⟩; refine ⟨_, rfl, ?_⟩; replace BK798 := bb_ BK798 hb; replace BK799 := bb_ BK799 hb; replace HB := hs_ hb; (try clear hb); have hcz66 := bc3_ BK798.out; have hfz66 := bf3_ BK798.out))
      go_ret
      exact ⟨by first | rfl | (simp [errW_none, errW_some] <;> rfl) | (simp [*, errW_none, errW_some] <;> rfl), qz_⟩
     ·replace c55 := Bool.eq_false_iff.mpr c55
      subst c55
      rw [if_neg (show ¬ (false = true) by decide)] at H
      obtain rfl := Option.some.inj H
      go_enter Try.func64, Try.ntmps64
      go_wp2_with (first | ((with_reducible refine gate_dst (N := 4) rfl ?_); refine box_event ?hg (N := 4) ?hd (cs := #[.bool a1_0, .int .i64 a1_1, .bool false]) (t := 54) ?hr ?_; (case hd => rfl); (case hg => rfl); (case hr => first | (go_simp; done) | (go_simp; rfl)); intro gb798 hg w67 hbox hb; have BK798 := A0_ (hbox); have GW798 := A0_ ((by rw [hg]; exact (below_size (qm_ HB.out)) : w.heap.size ≤ gb798)); have GE798 := GW798; replace HB := hs_ hb; clear hb hbox hg) | ((with_reducible refine gate_dst (N := 5) rfl ?_); refine box_event ?hg (N := 5) ?hd (cs := #[.int .u64 a2_0, .int .u64 a2_1]) (t := 25) ?hr ?_; (case hd => rfl); (case hg => rfl); (case hr => first | (go_simp; done) | (go_simp; rfl)); intro gb799 hg w68 hbox hb; have BK799 := A0_ (hbox); have GW799 := A0_ ((by rw [hg]; exact (below_size qz_) : w.heap.size ≤ gb799)); have GE799 := GW799; replace HB := hs_ hb; have NB798_799 := nl_ hg BK798; have NB799_798 := ng_ hg BK798; replace BK798 := bb_ BK798 hb; clear hb hbox hg; have hnb69 := NB798_799.out; have hnc69 := NB799_798.out; have hcz70 := bc3_ BK798.out; have hfz70 := bf3_ BK798.out; have hcz71 := bc2_ BK799.out; have hfz71 := bf2_ BK799.out) | ((with_reducible refine gate_callee (f := 65) rfl ?_); refine goesL_ (some 13) rfl rfl Try.func65 (by kernel_rfl) rfl #[.agg #[.bool a1_0, .int .i64 a1_1, .bool false], .agg #[.int .u64 a2_0, .int .u64 a2_1]] rfl (am_ rfl) ?_; (with_reducible refine (cutplaneref20_coordinates.calls a1_0 a1_1 false a2_0 a2_1 t800 t801 _ A4.out).mono ?_); rintro e w72 ⟨rfl, hb⟩; refine ⟨_, rfl, ?_⟩; replace BK798 := bb_ BK798 hb; replace BK799 := bb_ BK799 hb; replace HB := hs_ hb; (try clear hb)) | ((with_reducible refine gate_callee (f := 41) rfl ?_); refine goesL_ (some 18) rfl rfl Try.func41 (by kernel_rfl) rfl #[.int .u8 a0, .int .u64 t801] rfl (am_ rfl) ?_; (with_reducible refine (cutplaneref03_Class.calls k a0 t801 t802 _ A5.out).mono ?_); rintro e w73 ⟨rfl, hb⟩; refine ⟨_, rfl, ?_⟩; replace BK798 := bb_ BK798 hb; replace BK799 := bb_ BK799 hb; replace HB := hs_ hb; (try clear hb)) | (go_at_call 41; (with_reducible refine (cutplaneref03_Class.calls k a0 t800 t803 _ A7.out).mono ?_); rintro e w74 ⟨rfl, hb⟩; replace BK798 := bb_ BK798 hb; replace BK799 := bb_ BK799 hb; replace HB := hs_ hb; (try clear hb); have hcz75 := bc3_ BK798.out; have hfz75 := bf3_ BK798.out) | ((with_reducible refine gate_callee (f := 66) rfl ?_); refine goesL_ (some 30) rfl rfl Try.func66 (by kernel_rfl) rfl #[.int .u8 a0, .int .u64 t800, .int .i64 a1_1] rfl (am_ rfl) ?_; (with_reducible refine (cutplaneref20_beyond.calls k a0 t800 a1_1 t804 _ A17.out).mono ?_); rintro e w76 ⟨rfl, hb⟩; refine ⟨_, rfl, ?_⟩; replace BK798 := bb_ BK798 hb; replace BK799 := bb_ BK799 hb; replace HB := hs_ hb; (try clear hb); have hcz77 := bc3_ BK798.out; have hfz77 := bf3_ BK798.out))
      go_ret
      exact ⟨by first | rfl | (simp [errW_none, errW_some] <;> rfl) | (simp [*, errW_none, errW_some] <;> rfl), qz_⟩
    ·rw [if_neg c54] at H
     have c54b0 : decide (0 < t804) = false := decide_eq_false c54
     clear c54
     obtain rfl := Option.some.inj H
     go_enter Try.func64, Try.ntmps64
     go_wp2_with (first | ((with_reducible refine gate_dst (N := 4) rfl ?_); refine box_event ?hg (N := 4) ?hd (cs := #[.bool a1_0, .int .i64 a1_1, .bool a1_2]) (t := 54) ?hr ?_; (case hd => rfl); (case hg => rfl); (case hr => first | (go_simp; done) | (go_simp; rfl)); intro gb798 hg w78 hbox hb; have BK798 := A0_ (hbox); have GW798 := A0_ ((by rw [hg]; exact (below_size (qm_ HB.out)) : w.heap.size ≤ gb798)); have GE798 := GW798; replace HB := hs_ hb; clear hb hbox hg) | ((with_reducible refine gate_dst (N := 5) rfl ?_); refine box_event ?hg (N := 5) ?hd (cs := #[.int .u64 a2_0, .int .u64 a2_1]) (t := 25) ?hr ?_; (case hd => rfl); (case hg => rfl); (case hr => first | (go_simp; done) | (go_simp; rfl)); intro gb799 hg w79 hbox hb; have BK799 := A0_ (hbox); have GW799 := A0_ ((by rw [hg]; exact (below_size qz_) : w.heap.size ≤ gb799)); have GE799 := GW799; replace HB := hs_ hb; have NB798_799 := nl_ hg BK798; have NB799_798 := ng_ hg BK798; replace BK798 := bb_ BK798 hb; clear hb hbox hg; have hnb80 := NB798_799.out; have hnc80 := NB799_798.out; have hcz81 := bc3_ BK798.out; have hfz81 := bf3_ BK798.out; have hcz82 := bc2_ BK799.out; have hfz82 := bf2_ BK799.out) | ((with_reducible refine gate_callee (f := 65) rfl ?_); refine goesL_ (some 13) rfl rfl Try.func65 (by kernel_rfl) rfl #[.agg #[.bool a1_0, .int .i64 a1_1, .bool a1_2], .agg #[.int .u64 a2_0, .int .u64 a2_1]] rfl (am_ rfl) ?_; (with_reducible refine (cutplaneref20_coordinates.calls a1_0 a1_1 a1_2 a2_0 a2_1 t800 t801 _ A4.out).mono ?_); rintro e w83 ⟨rfl, hb⟩; refine ⟨_, rfl, ?_⟩; replace BK798 := bb_ BK798 hb; replace BK799 := bb_ BK799 hb; replace HB := hs_ hb; (try clear hb)) | ((with_reducible refine gate_callee (f := 41) rfl ?_); refine goesL_ (some 18) rfl rfl Try.func41 (by kernel_rfl) rfl #[.int .u8 a0, .int .u64 t801] rfl (am_ rfl) ?_; (with_reducible refine (cutplaneref03_Class.calls k a0 t801 t802 _ A5.out).mono ?_); rintro e w84 ⟨rfl, hb⟩; refine ⟨_, rfl, ?_⟩; replace BK798 := bb_ BK798 hb; replace BK799 := bb_ BK799 hb; replace HB := hs_ hb; (try clear hb)) | (go_at_call 41; (with_reducible refine (cutplaneref03_Class.calls k a0 t800 t803 _ A7.out).mono ?_); rintro e w85 ⟨rfl, hb⟩; replace BK798 := bb_ BK798 hb; replace BK799 := bb_ BK799 hb; replace HB := hs_ hb; (try clear hb); have hcz86 := bc3_ BK798.out; have hfz86 := bf3_ BK798.out) | ((with_reducible refine gate_callee (f := 66) rfl ?_); refine goesL_ (some 30) rfl rfl Try.func66 (by kernel_rfl) rfl #[.int .u8 a0, .int .u64 t800, .int .i64 a1_1] rfl (am_ rfl) ?_; (with_reducible refine (cutplaneref20_beyond.calls k a0 t800 a1_1 t804 _ A17.out).mono ?_); rintro e w87 ⟨rfl, hb⟩; refine ⟨_, rfl, ?_⟩; replace BK798 := bb_ BK798 hb; replace BK799 := bb_ BK799 hb; replace HB := hs_ hb; (try clear hb)))
     go_ret
     exact ⟨by first | rfl | (simp [errW_none, errW_some] <;> rfl) | (simp [*, errW_none, errW_some] <;> rfl), qz_⟩
 ·rw [if_neg c6] at H
  have c6b0 : (t802 == 1) = false := beq_eq_false_iff_ne.mpr c6
  have c6b1 : (t802 != 1) = true := bne_iff_ne.mpr c6
  obtain rfl := Option.some.inj H
  go_enter Try.func64, Try.ntmps64
  go_wp2_with (first | ((with_reducible refine gate_dst (N := 4) rfl ?_); refine box_event ?hg (N := 4) ?hd (cs := #[.bool a1_0, .int .i64 a1_1, .bool a1_2]) (t := 54) ?hr ?_; (case hd => rfl); (case hg => rfl); (case hr => first | (go_simp; done) | (go_simp; rfl)); intro gb798 hg w88 hbox hb; have BK798 := A0_ (hbox); have GW798 := A0_ ((by rw [hg]; exact (below_size (qm_ HB.out)) : w.heap.size ≤ gb798)); have GE798 := GW798; replace HB := hs_ hb; clear hb hbox hg) | ((with_reducible refine gate_dst (N := 5) rfl ?_); refine box_event ?hg (N := 5) ?hd (cs := #[.int .u64 a2_0, .int .u64 a2_1]) (t := 25) ?hr ?_; (case hd => rfl); (case hg => rfl); (case hr => first | (go_simp; done) | (go_simp; rfl)); intro gb799 hg w89 hbox hb; have BK799 := A0_ (hbox); have GW799 := A0_ ((by rw [hg]; exact (below_size qz_) : w.heap.size ≤ gb799)); have GE799 := GW799; replace HB := hs_ hb; have NB798_799 := nl_ hg BK798; have NB799_798 := ng_ hg BK798; replace BK798 := bb_ BK798 hb; clear hb hbox hg; have hnb90 := NB798_799.out; have hnc90 := NB799_798.out; have hcz91 := bc3_ BK798.out; have hfz91 := bf3_ BK798.out; have hcz92 := bc2_ BK799.out; have hfz92 := bf2_ BK799.out) | ((with_reducible refine gate_callee (f := 65) rfl ?_); refine goesL_ (some 13) rfl rfl Try.func65 (by kernel_rfl) rfl #[.agg #[.bool a1_0, .int .i64 a1_1, .bool a1_2], .agg #[.int .u64 a2_0, .int .u64 a2_1]] rfl (am_ rfl) ?_; (with_reducible refine (cutplaneref20_coordinates.calls a1_0 a1_1 a1_2 a2_0 a2_1 t800 t801 _ A4.out).mono ?_); rintro e w93 ⟨rfl, hb⟩; refine ⟨_, rfl, ?_⟩; replace BK798 := bb_ BK798 hb; replace BK799 := bb_ BK799 hb; replace HB := hs_ hb; (try clear hb)) | ((with_reducible refine gate_callee (f := 41) rfl ?_); refine goesL_ (some 18) rfl rfl Try.func41 (by kernel_rfl) rfl #[.int .u8 a0, .int .u64 t801] rfl (am_ rfl) ?_; (with_reducible refine (cutplaneref03_Class.calls k a0 t801 t802 _ A5.out).mono ?_); rintro e w94 ⟨rfl, hb⟩; refine ⟨_, rfl, ?_⟩; replace BK798 := bb_ BK798 hb; replace BK799 := bb_ BK799 hb; replace HB := hs_ hb; (try clear hb)))
  go_ret
  exact ⟨by first | rfl | (simp [errW_none, errW_some] <;> rfl) | (simp [*, errW_none, errW_some] <;> rfl), qz_⟩
end Go.Proofs.Ytgaabjjenlbmhaa.PA
end

section
namespace Go.Proofs.Ytgaabjjenlbmhaa.PA
open Go.RowKit Go.Proofs.YtgaabjjenlbmhaaW.PrintWords Go.Proofs.YtgaabjjenlbmhaaW.PrintLast Go.Proofs.YtgaabjjenlbmhaaW.PrintMore
attribute [local go_sem] max2_int min2_int max_two min_two max_three min_three max_four min_four   -- for this text's walks alone
set_option linter.unusedVariables false
set_option linter.unusedSimpArgs false
def cutplaneref20_On.l0 : Nat → Int → List (S54) → Int → Int → Int → Option (Bool × Int × Bool × Bool)
 | 0, _, _, _, _, _ => none
 | k + 1, x0, x8, x9, x806000, x806001 => if x9 < (x8.length : Int) then (if 0 ≤ x9 then ((cutplaneref20_Lies.f k x0 ((rd_T54 x8 x9).f0) ((rd_T54 x8 x9).f1) ((rd_T54 x8 x9).f2) x806000 x806001).bind fun t811 => (if t811 = true then (some ((rd_T54 x8 x9).f0, (rd_T54 x8 x9).f1, (rd_T54 x8 x9).f2, true)) else (cutplaneref20_On.l0 k x0 x8 (wrap64 (x9 + 1)) x806000 x806001))) else (none)) else (some (false, 0, false, false))
def cutplaneref20_On.f (k : Nat) (a0 : Int) (a1 : Int) (a2_0 : Int) (a2_1 : Int) : Option (Bool × Int × Bool × Bool) := (cutplaneref20_Rays.f k a1).bind fun t807 => (cutplaneref20_On.l0 k a0 t807 0 a2_0 a2_1)
theorem cutplaneref20_On.calls (k : Nat) (a0 : Int) (a1 : Int) (a2_0 : Int) (a2_1 : Int) (r1 : Bool) (r2 : Int) (r3 : Bool) (r4 : Bool) (w : World) (h : cutplaneref20_On.f k a0 a1 a2_0 a2_1 = some (r1, r2, r3, r4)) :
  Calls Try.prog 38 #[.int .u8 a0, .int .u8 a1, .agg #[.int .u64 a2_0, .int .u64 a2_1]] w fun e w' => e = .returned (.tuple #[.agg #[.bool r1, .int .i64 r2, .bool r3], .bool r4]) ∧ Below w.heap.size w w' := by
 have hu25 := Try.underlying25
 have hu54 := Try.underlying54
 have HB := A0_ (Below.refl w.heap.size w)
 have H := h
 clear h
 unfold cutplaneref20_On.f at H
 obtain ⟨t807, A4, H⟩ := bs_ H
 try dsimp -simprocs only at H
 have H' := A0_ H
 clear H
 go_enter Try.func38, Try.ntmps38
 go_wp2_with (first | ((with_reducible refine gate_dst (N := 5) rfl ?_); refine box_event ?hg (N := 5) ?hd (cs := #[.int .u64 a2_0, .int .u64 a2_1]) (t := 25) ?hr ?_; (case hd => rfl); (case hg => rfl); (case hr => first | (go_simp; done) | (go_simp; rfl)); intro gb805 hg w5 hbox hb; have BK805 := A0_ (hbox); have GW805 := A0_ ((by rw [hg]; exact (below_size (qm_ HB.out)) : w.heap.size ≤ gb805)); have GE805 := GW805; replace HB := hs_ hb; clear hb hbox hg) | ((with_reducible refine gate_dst (N := 6) rfl ?_); refine box_event ?hg (N := 6) ?hd (cs := #[.bool false, .int .i64 0, .bool false]) (t := 54) ?hr ?_; (case hd => rfl); (case hg => rfl); (case hr => first | (go_simp; done) | (go_simp; rfl)); intro gb806 hg w6 hbox hb; have BK806 := A0_ (hbox); have GW806 := A0_ ((by rw [hg]; exact (below_size qz_) : w.heap.size ≤ gb806)); have GE806 := GW806; replace HB := hs_ hb; have NB805_806 := nl_ hg BK805; have NB806_805 := ng_ hg BK805; replace BK805 := bb_ BK805 hb; clear hb hbox hg) | ((with_reducible refine gate_callee (f := 45) rfl ?_); refine goesL_ (some 11) rfl rfl Try.func45 (by kernel_rfl) rfl #[.int .u8 a1] rfl (am_ rfl) ?_; (with_reducible refine (cutplaneref20_Rays.calls k a1 t807 _ A4.out).mono ?_); rintro e w7 ⟨v808, rfl, ho0, hb⟩; refine ⟨_, rfl, ?_⟩; have HO809 := A0_ (Kd.R_lower (Kd.R_newB ho0 (bm_ BK806.out)) (below_size qz_)); replace BK805 := bb_ BK805 hb; replace BK806 := bb_ BK806 hb; replace HB := hs_ hb; (try clear hb); (try clear ho0)))
 go_loopg [9] k (fun kq v9 w' => ∃ (x9_1 : Int) (x807000_1 : Bool) (x807001_1 : Int) (x807002_1 : Bool), v9 = .int .i64 x9_1 ∧ Aside0 (cutplaneref20_On.l0 kq a0 t807 x9_1 a2_0 a2_1 = some (r1, r2, r3, r4)) ∧ Aside0 (kq ≤ k) ∧ Aside0 (Kd.R k54 54 w' w.heap.size (fun k_ => k_ ≠ gb806) v808 t807) ∧ Aside0 (w'.heap[gb805]? = some (.cells #[.int .u64 a2_0, .int .u64 a2_1] 25 (0, 0))) ∧ Aside0 (w'.heap[gb806]? = some (.cells #[.bool x807000_1, .int .i64 x807001_1, .bool x807002_1] 54 (0, 0))) ∧ Aside0 (Below w.heap.size w w'))
 case atStart => exact ⟨(0), (false), (0), (false), (by first | rfl | (simp; done) | (simp [*]; done)), H', ⟨Nat.le_refl _⟩, ⟨by (with_reducible repeat (first | apply Kd.R_alloc | apply Kd.R_drewN | apply Kd.R_drew)); exact Kd.R_mono HO809.out (fun _ hk => hk.2)⟩, ⟨bm_ BK805.out⟩, ⟨bm_ BK806.out⟩, ⟨qz_⟩⟩
 case round =>
  clear H'
  try clear p2
  try clear c3
  try clear c4
  obtain ⟨x9_1, x807000_1, x807001_1, x807002_1, rfl, HA, HK1, HO_8, BK805, BK806, HB⟩ := hrel
  cases gk with
  | zero => exact absurd HA.out (by simp [cutplaneref20_On.l0])
  | succ k1 =>
   have H := HA.out
   clear HA
   simp only [cutplaneref20_On.l0] at H
   by_cases c8 : x9_1 < (t807.length : Int)
   ·rw [if_pos c8] at H
    have c8b0 : decide (x9_1 < (t807.length : Int)) = true := decide_eq_true c8
    clear c8
    obtain ⟨c9, H⟩ := ic_ H
    have c9b0 : decide (0 ≤ x9_1) = true := decide_eq_true c9
    clear c9
    obtain ⟨t811, A10, H⟩ := bs_ H
    try dsimp -simprocs only at H
    by_cases c11 : t811 = true
    ·subst c11
     rw [if_pos rfl] at H
     simp only [Option.some.injEq, Prod.mk.injEq] at H
     obtain ⟨rfl, rfl, rfl, rfl⟩ := H
     obtain ⟨Ao12, co12, eo12⟩ := Kd.R_slice HO_8.out
     subst eo12
     try go_wp2
     replace HO_8 := A0_ (Kd.R_drew HO_8.out)
     replace BK805 := A0_ (blk_drew BK805.out)
     replace BK806 := A0_ (blk_drew BK806.out)
     replace HB := A0_ (below_drew1 HB.out)
     have p810 : 0 ≤ (x9_1 : Int) := of_decide_eq_true (by first | (with_reducible assumption) | assumption)
     have q810 : x9_1 < (t807.length : Int) := of_decide_eq_true (by first | (with_reducible assumption) | assumption)
     obtain ⟨ad810, e810, hx810_0, hx810_1, hx810_2⟩ := at_T54 (Kd.R_reads' HO_8.out).2.2 x9_1 p810 q810
     cases e810
     replace p810 := eq_true p810
     replace q810 := eq_true q810
     refine start_ (n := 7) (S := fun w' => w'.cell? ⟨gb805, 0, none⟩ = some (.int .u64 a2_0) ∧ w'.cell? ⟨gb805, 1, none⟩ = some (.int .u64 a2_1) ∧ w'.cell? (ad810.add ((x9_1).toNat * 3)) = some (.bool ((rd_T54 t807 x9_1).f0)) ∧ w'.cell? ⟨(ad810.add ((x9_1).toNat * 3)).block, (ad810.add ((x9_1).toNat * 3)).off + 1, none⟩ = some (.int .i64 ((rd_T54 t807 x9_1).f1)) ∧ w'.cell? ⟨(ad810.add ((x9_1).toNat * 3)).block, (ad810.add ((x9_1).toNat * 3)).off + 2, none⟩ = some (.bool ((rd_T54 t807 x9_1).f2))) (ds := []) #[false, false, false, false, false, false, false] (by kernel_rfl) rfl rfl ⟨bC_ BK805.out 0, bC_ BK805.out 1, hx810_0, hx810_1, hx810_2⟩ (fun hHeld => ?_)
     generalize wr.drew = w13 at HO_8 BK805 BK806 HB hx810_0 hx810_1 hx810_2 hHeld ⊢
     refine pure_ (i := 0) (N := some 18) (v := ?_) (a' := ?_) #[true, false, false, false, false, false, false] rfl rfl (by kernel_rfl) (fun _ _ _ h => h) (Or.inl ⟨by rfl, ?_⟩) ?_ ?_
     rotate_left
     ·intro w'
      go_simp
      with_reducible rfl
     rotate_left
     ·simp only [Act.put, sp_, i64_w, i32_w]
      rfl
     refine pure_ (i := 1) (N := some 19) (v := ?_) (a' := ?_) #[true, true, false, false, false, false, false] rfl rfl (by kernel_rfl) (fun _ _ _ h => h) (Or.inl ⟨by rfl, ?_⟩) ?_ ?_
     rotate_left
     ·intro w'
      go_simp
      with_reducible rfl
     rotate_left
     ·simp only [Act.put, sp_, i64_w, i32_w]
      rfl
     refine pure_ (i := 2) (N := some 20) (v := ?_) (a' := ?_) #[true, true, true, false, false, false, false] rfl rfl (by kernel_rfl) (fun _ _ _ h => h) (Or.inl ⟨by rfl, ?_⟩) ?_ ?_
     rotate_left
     ·intro w'
      go_simp
      with_reducible rfl
     rotate_left
     ·simp only [Act.put, sp_, i64_w, i32_w]
      rfl
     refine pure_ (i := 3) (N := some 21) (v := ?_) (a' := ?_) #[true, true, true, true, false, false, false] rfl rfl (by kernel_rfl) (fun _ _ _ h => h) (Or.inl ⟨by rfl, ?_⟩) ?_ ?_
     rotate_left
     ·intro w'
      go_simp
      with_reducible rfl
     rotate_left
     ·simp only [Act.put, sp_, i64_w, i32_w]
      rfl
     refine take_ (i := 4) (N := some 22) (v := ?_) (a' := ?_) #[true, true, true, true, true, false, false] rfl rfl (by kernel_rfl) (fun _ _ _ h => h) (Or.inl ⟨by rfl, ?_⟩) hHeld ?_ ?_
     rotate_left
     ·rintro w' ⟨s0, s1, s2, s3, s4⟩
      go_simp
      with_reducible rfl
     rotate_left
     ·simp only [Act.put, sp_, i64_w, i32_w]
      rfl
     refine take_ (i := 5) (N := some 23) (v := ?_) (a' := ?_) #[true, true, true, true, true, true, false] rfl rfl (by kernel_rfl) (fun _ _ _ h => h) (Or.inl ⟨by rfl, ?_⟩) hHeld ?_ ?_
     rotate_left
     ·rintro w' ⟨s0, s1, s2, s3, s4⟩
      go_simp
      with_reducible rfl
     rotate_left
     ·simp only [Act.put, sp_, i64_w, i32_w]
      rfl
     refine one_ (i := 6) (N := some 24) #[true, true, true, true, true, true, true] rfl rfl (by kernel_rfl) (by decide) (fun K hK => ?_)
     refine goes_ Try.func64 (by kernel_rfl) rfl #[.int .u8 a0, .agg #[.bool ((rd_T54 t807 x9_1).f0), .int .i64 ((rd_T54 t807 x9_1).f1), .bool ((rd_T54 t807 x9_1).f2)], .agg #[.int .u64 a2_0, .int .u64 a2_1]] (by rfl) rfl rfl (am_ rfl) ?_
     with_reducible refine (cutplaneref20_Lies.calls k1 a0 ((rd_T54 t807 x9_1).f0) ((rd_T54 t807 x9_1).f1) ((rd_T54 t807 x9_1).f2) a2_0 a2_1 true _ A10.out).mono ?_
     rintro e w14 ⟨rfl, hb⟩
     have HS2_ := (hb.cell (World.block_lt_of_cell? _ _ (hHeld.2.2.1))).trans (hHeld.2.2.1)
     have HS3_ := (hb.cell (World.block_lt_of_cell? _ _ (hHeld.2.2.2.1))).trans (hHeld.2.2.2.1)
     have HS4_ := (hb.cell (World.block_lt_of_cell? _ _ (hHeld.2.2.2.2))).trans (hHeld.2.2.2.2)
     refine ⟨_, rfl, ?_⟩
     replace HO_8 := A0_ (Kd.R_below (by exact rm_ HO_8.out) hb)
     replace BK805 := bb_ BK805 hb
     replace BK806 := bb_ BK806 hb
     replace HB := hs_ hb
     (try clear hb)
     refine hK.out _ _ ⟨bC_ BK805.out 0, bC_ BK805.out 1, HS2_, HS3_, HS4_⟩ (fun hHeld => ?_)
     clear hK K
     refine norm_ (a' := ?_) ?_ ?_
     rotate_left
     ·show Act.put _ (some 24) _ = _
      simp only [Act.put, sp_, i64_w, i32_w]
      rfl
     refine done_ (by kernel_rfl) ?_
     have p812 : 0 ≤ (x9_1 : Int) := of_decide_eq_true (by first | (with_reducible assumption) | assumption)
     have q812 : x9_1 < (t807.length : Int) := of_decide_eq_true (by first | (with_reducible assumption) | assumption)
     obtain ⟨ad812, e812, hx812_0, hx812_1, hx812_2⟩ := at_T54 (Kd.R_reads' HO_8.out).2.2 x9_1 p812 q812
     obtain rfl : ad810 = ad812 := (by injection e812)
     replace p812 := eq_true p812
     replace q812 := eq_true q812
     have hnb15 := NB806_805.out
     have hnc15 := NB805_806.out
     have hcz16 := bc3_ BK806.out
     have hfz16 := bf3_ BK806.out
     try go_wp2
     refine bodyPost_ret (results_ct rfl _ _ gb806 54 #[.bool ((rd_T54 t807 x9_1).f0), .int .i64 ((rd_T54 t807 x9_1).f1), .bool ((rd_T54 t807 x9_1).f2)] (0, 0) _ rfl (by (with_reducible repeat first | apply bN_ | apply bD_ | apply bA_); refine blk_put (cs := #[.bool ((rd_T54 t807 x9_1).f0), .int .i64 ((rd_T54 t807 x9_1).f1), .bool x807002_1]) ?_ 2 _ rfl; refine blk_put (cs := #[.bool ((rd_T54 t807 x9_1).f0), .int .i64 x807001_1, .bool x807002_1]) ?_ 1 _ rfl; refine blk_put (cs := #[.bool x807000_1, .int .i64 x807001_1, .bool x807002_1]) ?_ 0 _ rfl; exact bm_ BK806.out) Try.underlying54 rfl (by kernel_rfl)) rfl ?_
     exact ⟨by first | rfl | (simp [errW_none, errW_some] <;> rfl) | (simp [*, errW_none, errW_some] <;> rfl), qz_⟩
    ·replace c11 := Bool.eq_false_iff.mpr c11
     subst c11
     rw [if_neg (show ¬ (false = true) by decide)] at H
     have H' := A0_ H
     clear H
     obtain ⟨Ao17, co17, eo17⟩ := Kd.R_slice HO_8.out
     subst eo17
     try go_wp2
     replace HO_8 := A0_ (Kd.R_drew HO_8.out)
     replace BK805 := A0_ (blk_drew BK805.out)
     replace BK806 := A0_ (blk_drew BK806.out)
     replace HB := A0_ (below_drew1 HB.out)
     have p810 : 0 ≤ (x9_1 : Int) := of_decide_eq_true (by first | (with_reducible assumption) | assumption)
     have q810 : x9_1 < (t807.length : Int) := of_decide_eq_true (by first | (with_reducible assumption) | assumption)
     obtain ⟨ad810, e810, hx810_0, hx810_1, hx810_2⟩ := at_T54 (Kd.R_reads' HO_8.out).2.2 x9_1 p810 q810
     cases e810
     replace p810 := eq_true p810
     replace q810 := eq_true q810
     refine start_ (n := 7) (S := fun w' => w'.cell? ⟨gb805, 0, none⟩ = some (.int .u64 a2_0) ∧ w'.cell? ⟨gb805, 1, none⟩ = some (.int .u64 a2_1) ∧ w'.cell? (ad810.add ((x9_1).toNat * 3)) = some (.bool ((rd_T54 t807 x9_1).f0)) ∧ w'.cell? ⟨(ad810.add ((x9_1).toNat * 3)).block, (ad810.add ((x9_1).toNat * 3)).off + 1, none⟩ = some (.int .i64 ((rd_T54 t807 x9_1).f1)) ∧ w'.cell? ⟨(ad810.add ((x9_1).toNat * 3)).block, (ad810.add ((x9_1).toNat * 3)).off + 2, none⟩ = some (.bool ((rd_T54 t807 x9_1).f2))) (ds := []) #[false, false, false, false, false, false, false] (by kernel_rfl) rfl rfl ⟨bC_ BK805.out 0, bC_ BK805.out 1, hx810_0, hx810_1, hx810_2⟩ (fun hHeld => ?_)
     generalize wr.drew = w18 at HO_8 BK805 BK806 HB hx810_0 hx810_1 hx810_2 hHeld ⊢
     refine pure_ (i := 0) (N := some 18) (v := ?_) (a' := ?_) #[true, false, false, false, false, false, false] rfl rfl (by kernel_rfl) (fun _ _ _ h => h) (Or.inl ⟨by rfl, ?_⟩) ?_ ?_
     rotate_left
     ·intro w'
      go_simp
      with_reducible rfl
     rotate_left
     ·simp only [Act.put, sp_, i64_w, i32_w]
      rfl
     refine pure_ (i := 1) (N := some 19) (v := ?_) (a' := ?_) #[true, true, false, false, false, false, false] rfl rfl (by kernel_rfl) (fun _ _ _ h => h) (Or.inl ⟨by rfl, ?_⟩) ?_ ?_
     rotate_left
     ·intro w'
      go_simp
      with_reducible rfl
     rotate_left
     ·simp only [Act.put, sp_, i64_w, i32_w]
      rfl
     refine pure_ (i := 2) (N := some 20) (v := ?_) (a' := ?_) #[true, true, true, false, false, false, false] rfl rfl (by kernel_rfl) (fun _ _ _ h => h) (Or.inl ⟨by rfl, ?_⟩) ?_ ?_
     rotate_left
     ·intro w'
      go_simp
      with_reducible rfl
     rotate_left
     ·simp only [Act.put, sp_, i64_w, i32_w]
      rfl
     refine pure_ (i := 3) (N := some 21) (v := ?_) (a' := ?_) #[true, true, true, true, false, false, false] rfl rfl (by kernel_rfl) (fun _ _ _ h => h) (Or.inl ⟨by rfl, ?_⟩) ?_ ?_
     rotate_left
     ·intro w'
      go_simp
      with_reducible rfl
     rotate_left
     ·simp only [Act.put, sp_, i64_w, i32_w]
      rfl
     refine take_ (i := 4) (N := some 22) (v := ?_) (a' := ?_) #[true, true, true, true, true, false, false] rfl rfl (by kernel_rfl) (fun _ _ _ h => h) (Or.inl ⟨by rfl, ?_⟩) hHeld ?_ ?_
     rotate_left
     ·rintro w' ⟨s0, s1, s2, s3, s4⟩
      go_simp
      with_reducible rfl
     rotate_left
     ·simp only [Act.put, sp_, i64_w, i32_w]
      rfl
     refine take_ (i := 5) (N := some 23) (v := ?_) (a' := ?_) #[true, true, true, true, true, true, false] rfl rfl (by kernel_rfl) (fun _ _ _ h => h) (Or.inl ⟨by rfl, ?_⟩) hHeld ?_ ?_
     rotate_left
     ·rintro w' ⟨s0, s1, s2, s3, s4⟩
      go_simp
      with_reducible rfl
     rotate_left
     ·simp only [Act.put, sp_, i64_w, i32_w]
      rfl
     refine one_ (i := 6) (N := some 24) #[true, true, true, true, true, true, true] rfl rfl (by kernel_rfl) (by decide) (fun K hK => ?_)
     refine goes_ Try.func64 (by kernel_rfl) rfl #[.int .u8 a0, .agg #[.bool ((rd_T54 t807 x9_1).f0), .int .i64 ((rd_T54 t807 x9_1).f1), .bool ((rd_T54 t807 x9_1).f2)], .agg #[.int .u64 a2_0, .int .u64 a2_1]] (by rfl) rfl rfl (am_ rfl) ?_
     with_reducible refine (cutplaneref20_Lies.calls k1 a0 ((rd_T54 t807 x9_1).f0) ((rd_T54 t807 x9_1).f1) ((rd_T54 t807 x9_1).f2) a2_0 a2_1 false _ A10.out).mono ?_
     rintro e w19 ⟨rfl, hb⟩
     have HS2_ := (hb.cell (World.block_lt_of_cell? _ _ (hHeld.2.2.1))).trans (hHeld.2.2.1)
     have HS3_ := (hb.cell (World.block_lt_of_cell? _ _ (hHeld.2.2.2.1))).trans (hHeld.2.2.2.1)
     have HS4_ := (hb.cell (World.block_lt_of_cell? _ _ (hHeld.2.2.2.2))).trans (hHeld.2.2.2.2)
     refine ⟨_, rfl, ?_⟩
     replace HO_8 := A0_ (Kd.R_below (by exact rm_ HO_8.out) hb)
     replace BK805 := bb_ BK805 hb
     replace BK806 := bb_ BK806 hb
     replace HB := hs_ hb
     (try clear hb)
     refine hK.out _ _ ⟨bC_ BK805.out 0, bC_ BK805.out 1, HS2_, HS3_, HS4_⟩ (fun hHeld => ?_)
     clear hK K
     refine norm_ (a' := ?_) ?_ ?_
     rotate_left
     ·show Act.put _ (some 24) _ = _
      simp only [Act.put, sp_, i64_w, i32_w]
      rfl
     refine done_ (by kernel_rfl) ?_
     try go_wp2
     go_roundg k1
     case measure => have := HK1.out; omega
     case rel => exact ⟨(wrap64 (x9_1 + 1)), (x807000_1), (x807001_1), (x807002_1), (by first | rfl | (simp; done) | (simp [*]; done)), H', ⟨by have := HK1.out; omega⟩, ⟨by exact rm_ HO_8.out⟩, ⟨bm_ BK805.out⟩, ⟨bm_ BK806.out⟩, ⟨qz_⟩⟩
   ·rw [if_neg c8] at H
    have c8b0 : decide (x9_1 < (t807.length : Int)) = false := decide_eq_false c8
    clear c8
    simp only [Option.some.injEq, Prod.mk.injEq] at H
    obtain ⟨rfl, rfl, rfl, rfl⟩ := H
    obtain ⟨Ao20, co20, eo20⟩ := Kd.R_slice HO_8.out
    subst eo20
    have hnb21 := NB806_805.out
    have hnc21 := NB805_806.out
    have hcz22 := bc3_ BK806.out
    have hfz22 := bf3_ BK806.out
    go_wp2
    refine bodyPost_ret (results_ct rfl _ _ gb806 54 #[.bool false, .int .i64 0, .bool false] (0, 0) _ rfl (by (with_reducible repeat first | apply bN_ | apply bD_ | apply bA_); refine blk_put (cs := #[.bool false, .int .i64 0, .bool x807002_1]) ?_ 2 _ rfl; refine blk_put (cs := #[.bool false, .int .i64 x807001_1, .bool x807002_1]) ?_ 1 _ rfl; refine blk_put (cs := #[.bool x807000_1, .int .i64 x807001_1, .bool x807002_1]) ?_ 0 _ rfl; exact bm_ BK806.out) Try.underlying54 rfl (by kernel_rfl)) rfl ?_
    exact ⟨by first | rfl | (simp [errW_none, errW_some] <;> rfl) | (simp [*, errW_none, errW_some] <;> rfl), qz_⟩
end Go.Proofs.Ytgaabjjenlbmhaa.PA
end

section
namespace Go.Proofs.Ytgaabjjenlbmhaa.PA
open Go.RowKit Go.Proofs.YtgaabjjenlbmhaaW.PrintWords Go.Proofs.YtgaabjjenlbmhaaW.PrintLast Go.Proofs.YtgaabjjenlbmhaaW.PrintMore
attribute [local go_sem] max2_int min2_int max_two min_two max_three min_three max_four min_four   -- for this text's walks alone
set_option linter.unusedVariables false
set_option linter.unusedSimpArgs false
def cutplaneref20_Side.f (a0 : Int) (a1_0 : Bool) (a1_1 : Int) (a1_2 : Bool) (a2_0 : Int) (a2_1 : Int) : Option (Int) := (cutplaneref20_coordinates.f a1_0 a1_1 a1_2 a2_0 a2_1).bind fun bt815 => ((cutplaneref03_Split.f a0 bt815.2).bind fun bt817 => (if bt817.1 = true then (some (-1)) else (some 1)))
theorem cutplaneref20_Side.calls (a0 : Int) (a1_0 : Bool) (a1_1 : Int) (a1_2 : Bool) (a2_0 : Int) (a2_1 : Int) (r : Int) (w : World) (h : cutplaneref20_Side.f a0 a1_0 a1_1 a1_2 a2_0 a2_1 = some r) :
  Calls Try.prog 40 #[.int .u8 a0, .agg #[.bool a1_0, .int .i64 a1_1, .bool a1_2], .agg #[.int .u64 a2_0, .int .u64 a2_1]] w fun e w' => e = .returned (.int .i64 r) ∧ Below w.heap.size w w' := by
 have hfd84_0 : ∀ (v0_ v1_ v2_ : Value) (w : World), (Instr.field 84 (.agg #[v0_, v1_, v2_]) 0).run Try.prog w = .ok v0_ w := fun _ _ _ _ => by kernel_rfl
 have hu54 := Try.underlying54
 have hu25 := Try.underlying25
 have HB := A0_ (Below.refl w.heap.size w)
 have H := h
 clear h
 unfold cutplaneref20_Side.f at H
 obtain ⟨⟨t815, t816⟩, A4, H⟩ := bs_ H
 try dsimp -simprocs only at H
 obtain ⟨⟨t817, t818, t819⟩, A5, H⟩ := bs_ H
 try dsimp -simprocs only at H
 by_cases c6 : t817 = true
 ·subst c6
  rw [if_pos rfl] at H
  obtain rfl := Option.some.inj H
  go_enter Try.func40, Try.ntmps40
  go_wp2_with (first | ((with_reducible refine gate_dst (N := 4) rfl ?_); refine box_event ?hg (N := 4) ?hd (cs := #[.bool a1_0, .int .i64 a1_1, .bool a1_2]) (t := 54) ?hr ?_; (case hd => rfl); (case hg => rfl); (case hr => first | (go_simp; done) | (go_simp; rfl)); intro gb813 hg w7 hbox hb; have BK813 := A0_ (hbox); have GW813 := A0_ ((by rw [hg]; exact (below_size (qm_ HB.out)) : w.heap.size ≤ gb813)); have GE813 := GW813; replace HB := hs_ hb; clear hb hbox hg) | ((with_reducible refine gate_dst (N := 5) rfl ?_); refine box_event ?hg (N := 5) ?hd (cs := #[.int .u64 a2_0, .int .u64 a2_1]) (t := 25) ?hr ?_; (case hd => rfl); (case hg => rfl); (case hr => first | (go_simp; done) | (go_simp; rfl)); intro gb814 hg w8 hbox hb; have BK814 := A0_ (hbox); have GW814 := A0_ ((by rw [hg]; exact (below_size qz_) : w.heap.size ≤ gb814)); have GE814 := GW814; replace HB := hs_ hb; have NB813_814 := nl_ hg BK813; have NB814_813 := ng_ hg BK813; replace BK813 := bb_ BK813 hb; clear hb hbox hg; have hnb9 := NB813_814.out; have hnc9 := NB814_813.out; have hcz10 := bc3_ BK813.out; have hfz10 := bf3_ BK813.out; have hcz11 := bc2_ BK814.out; have hfz11 := bf2_ BK814.out) | ((with_reducible refine gate_callee (f := 65) rfl ?_); refine goesL_ (some 12) rfl rfl Try.func65 (by kernel_rfl) rfl #[.agg #[.bool a1_0, .int .i64 a1_1, .bool a1_2], .agg #[.int .u64 a2_0, .int .u64 a2_1]] rfl (am_ rfl) ?_; (with_reducible refine (cutplaneref20_coordinates.calls a1_0 a1_1 a1_2 a2_0 a2_1 t815 t816 _ A4.out).mono ?_); rintro e w12 ⟨rfl, hb⟩; refine ⟨_, rfl, ?_⟩; replace BK813 := bb_ BK813 hb; replace BK814 := bb_ BK814 hb; replace HB := hs_ hb; (try clear hb)) | ((with_reducible refine gate_callee (f := 58) rfl ?_); refine goesL_ (some 17) rfl rfl Try.func58 (by kernel_rfl) rfl #[.int .u8 a0, .int .u64 t816] rfl (am_ rfl) ?_; (with_reducible refine (cutplaneref03_Split.calls a0 t816 true t818 t819 _ A5.out).mono ?_); rintro e w13 ⟨rfl, hb⟩; refine ⟨_, rfl, ?_⟩; replace BK813 := bb_ BK813 hb; replace BK814 := bb_ BK814 hb; replace HB := hs_ hb; (try clear hb)))
  go_ret
  exact ⟨by first | rfl | (simp [errW_none, errW_some] <;> rfl) | (simp [*, errW_none, errW_some] <;> rfl), qz_⟩
 ·replace c6 := Bool.eq_false_iff.mpr c6
  subst c6
  rw [if_neg (show ¬ (false = true) by decide)] at H
  obtain rfl := Option.some.inj H
  go_enter Try.func40, Try.ntmps40
  go_wp2_with (first | ((with_reducible refine gate_dst (N := 4) rfl ?_); refine box_event ?hg (N := 4) ?hd (cs := #[.bool a1_0, .int .i64 a1_1, .bool a1_2]) (t := 54) ?hr ?_; (case hd => rfl); (case hg => rfl); (case hr => first | (go_simp; done) | (go_simp; rfl)); intro gb813 hg w14 hbox hb; have BK813 := A0_ (hbox); have GW813 := A0_ ((by rw [hg]; exact (below_size (qm_ HB.out)) : w.heap.size ≤ gb813)); have GE813 := GW813; replace HB := hs_ hb; clear hb hbox hg) | ((with_reducible refine gate_dst (N := 5) rfl ?_); refine box_event ?hg (N := 5) ?hd (cs := #[.int .u64 a2_0, .int .u64 a2_1]) (t := 25) ?hr ?_; (case hd => rfl); (case hg => rfl); (case hr => first | (go_simp; done) | (go_simp; rfl)); intro gb814 hg w15 hbox hb; have BK814 := A0_ (hbox); have GW814 := A0_ ((by rw [hg]; exact (below_size qz_) : w.heap.size ≤ gb814)); have GE814 := GW814; replace HB := hs_ hb; have NB813_814 := nl_ hg BK813; have NB814_813 := ng_ hg BK813; replace BK813 := bb_ BK813 hb; clear hb hbox hg; have hnb16 := NB813_814.out; have hnc16 := NB814_813.out; have hcz17 := bc3_ BK813.out; have hfz17 := bf3_ BK813.out; have hcz18 := bc2_ BK814.out; have hfz18 := bf2_ BK814.out) | ((with_reducible refine gate_callee (f := 65) rfl ?_); refine goesL_ (some 12) rfl rfl Try.func65 (by kernel_rfl) rfl #[.agg #[.bool a1_0, .int .i64 a1_1, .bool a1_2], .agg #[.int .u64 a2_0, .int .u64 a2_1]] rfl (am_ rfl) ?_; (with_reducible refine (cutplaneref20_coordinates.calls a1_0 a1_1 a1_2 a2_0 a2_1 t815 t816 _ A4.out).mono ?_); rintro e w19 ⟨rfl, hb⟩; refine ⟨_, rfl, ?_⟩; replace BK813 := bb_ BK813 hb; replace BK814 := bb_ BK814 hb; replace HB := hs_ hb; (try clear hb)) | ((with_reducible refine gate_callee (f := 58) rfl ?_); refine goesL_ (some 17) rfl rfl Try.func58 (by kernel_rfl) rfl #[.int .u8 a0, .int .u64 t816] rfl (am_ rfl) ?_; (with_reducible refine (cutplaneref03_Split.calls a0 t816 false t818 t819 _ A5.out).mono ?_); rintro e w20 ⟨rfl, hb⟩; refine ⟨_, rfl, ?_⟩; replace BK813 := bb_ BK813 hb; replace BK814 := bb_ BK814 hb; replace HB := hs_ hb; (try clear hb)))
  go_ret
  exact ⟨by first | rfl | (simp [errW_none, errW_some] <;> rfl) | (simp [*, errW_none, errW_some] <;> rfl), qz_⟩
end Go.Proofs.Ytgaabjjenlbmhaa.PA
end

section
namespace Go.Proofs.Ytgaabjjenlbmhaa.PA
open Go.RowKit Go.Proofs.YtgaabjjenlbmhaaW.PrintWords Go.Proofs.YtgaabjjenlbmhaaW.PrintLast Go.Proofs.YtgaabjjenlbmhaaW.PrintMore
attribute [local go_sem] max2_int min2_int max_two min_two max_three min_three max_four min_four   -- for this text's walks alone
set_option linter.unusedVariables false
set_option linter.unusedSimpArgs false
mutual
def cutplaneref20_Signs.j0 : Nat → Int → Int → Int → Int → Int → Bool → Option (Int × Int)
 | 0, _, _, _, _, _, _ => none
 | k + 1, x0, x10, x12, x13, x27, x38 => if x38 = true then (some (x13, x12)) else (if x27 = 11 then (if x13 > 0 then (some (0, wrap64 (-x12))) else (some (1, wrap64 (-x12)))) else (if x27 = 12 then (cutplaneref20_Signs.j1 k x0 x10 x12 x13 (x27 == 12)) else (cutplaneref20_Signs.j1 k x0 x10 x12 x13 (x27 == 13))))
def cutplaneref20_Signs.j1 : Nat → Int → Int → Int → Int → Bool → Option (Int × Int)
 | 0, _, _, _, _, _ => none
 | k + 1, x0, x10, x12, x13, x51 => if x51 = true then (some (x12, x13)) else ((cutplaneref20_beyond.f k x0 x10 (-1)).bind fun t827 => (if t827 < 0 then (some (1, x12)) else (some (0, x12))))
end
def cutplaneref20_Signs.f (k : Nat) (a0 : Int) (a1 : Int) (a2_0 : Bool) (a2_1 : Int) (a2_2 : Bool) (a3_0 : Int) (a3_1 : Int) : Option (Int × Int) := (cutplaneref20_coordinates.f a2_0 a2_1 a2_2 a3_0 a3_1).bind fun bt822 => ((cutplaneref20_Side.f a0 a2_0 a2_1 a2_2 a3_0 a3_1).bind fun t824 => ((cutplaneref20_beyond.f k a0 bt822.1 0).bind fun t825 => (if a1 = 1 then (some (0, t824)) else (if a1 = 3 then ((cutplaneref20_beyond.f k a0 bt822.1 (-1)).bind fun t826 => (some (wrap64 (-t826), t824))) else (if a1 = 10 then (cutplaneref20_Signs.j0 k a0 bt822.1 t824 t825 a1 (a1 == 10)) else (cutplaneref20_Signs.j0 k a0 bt822.1 t824 t825 a1 (a1 == 15)))))))
theorem cutplaneref20_Signs.calls (k : Nat) (a0 : Int) (a1 : Int) (a2_0 : Bool) (a2_1 : Int) (a2_2 : Bool) (a3_0 : Int) (a3_1 : Int) (r1 : Int) (r2 : Int) (w : World) (h : cutplaneref20_Signs.f k a0 a1 a2_0 a2_1 a2_2 a3_0 a3_1 = some (r1, r2)) :
  Calls Try.prog 39 #[.int .u8 a0, .int .u8 a1, .agg #[.bool a2_0, .int .i64 a2_1, .bool a2_2], .agg #[.int .u64 a3_0, .int .u64 a3_1]] w fun e w' => e = .returned (.tuple #[.int .i64 r1, .int .i64 r2]) ∧ Below w.heap.size w w' := by
 have hu54 := Try.underlying54
 have hu25 := Try.underlying25
 have HB := A0_ (Below.refl w.heap.size w)
 have H := h
 clear h
 unfold cutplaneref20_Signs.f at H
 obtain ⟨⟨t822, t823⟩, A5, H⟩ := bs_ H
 try dsimp -simprocs only at H
 obtain ⟨t824, A6, H⟩ := bs_ H
 try dsimp -simprocs only at H
 obtain ⟨t825, A7, H⟩ := bs_ H
 try dsimp -simprocs only at H
 by_cases c8 : a1 = 1
 ·rw [if_pos c8] at H
  have c8b0 : (a1 == 1) = true := beq_iff_eq.mpr c8
  have c8b1 : (a1 != 1) = false := bne_eq_false_iff_eq.mpr c8
  clear c8
  simp only [Option.some.injEq, Prod.mk.injEq] at H
  obtain ⟨rfl, rfl⟩ := H
  go_enter Try.func39, Try.ntmps39
  go_wp2_with (first | ((with_reducible refine gate_dst (N := 6) rfl ?_); refine box_event ?hg (N := 6) ?hd (cs := #[.bool a2_0, .int .i64 a2_1, .bool a2_2]) (t := 54) ?hr ?_; (case hd => rfl); (case hg => rfl); (case hr => first | (go_simp; done) | (go_simp; rfl)); intro gb820 hg w9 hbox hb; have BK820 := A0_ (hbox); have GW820 := A0_ ((by rw [hg]; exact (below_size (qm_ HB.out)) : w.heap.size ≤ gb820)); have GE820 := GW820; replace HB := hs_ hb; clear hb hbox hg) | ((with_reducible refine gate_dst (N := 7) rfl ?_); refine box_event ?hg (N := 7) ?hd (cs := #[.int .u64 a3_0, .int .u64 a3_1]) (t := 25) ?hr ?_; (case hd => rfl); (case hg => rfl); (case hr => first | (go_simp; done) | (go_simp; rfl)); intro gb821 hg w10 hbox hb; have BK821 := A0_ (hbox); have GW821 := A0_ ((by rw [hg]; exact (below_size qz_) : w.heap.size ≤ gb821)); have GE821 := GW821; replace HB := hs_ hb; have NB820_821 := nl_ hg BK820; have NB821_820 := ng_ hg BK820; replace BK820 := bb_ BK820 hb; clear hb hbox hg; have hnb11 := NB820_821.out; have hnc11 := NB821_820.out; have hcz12 := bc3_ BK820.out; have hfz12 := bf3_ BK820.out; have hcz13 := bc2_ BK821.out; have hfz13 := bf2_ BK821.out) | ((with_reducible refine gate_callee (f := 65) rfl ?_); refine goesL_ (some 17) rfl rfl Try.func65 (by kernel_rfl) rfl #[.agg #[.bool a2_0, .int .i64 a2_1, .bool a2_2], .agg #[.int .u64 a3_0, .int .u64 a3_1]] rfl (am_ rfl) ?_; (with_reducible refine (cutplaneref20_coordinates.calls a2_0 a2_1 a2_2 a3_0 a3_1 t822 t823 _ A5.out).mono ?_); rintro e w14 ⟨rfl, hb⟩; refine ⟨_, rfl, ?_⟩; replace BK820 := bb_ BK820 hb; replace BK821 := bb_ BK821 hb; replace HB := hs_ hb; (try clear hb); have hcz15 := bc3_ BK820.out; have hfz15 := bf3_ BK820.out; have hcz16 := bc2_ BK821.out; have hfz16 := bf2_ BK821.out) | ((with_reducible refine gate_callee (f := 40) rfl ?_); refine goesL_ (some 23) rfl rfl Try.func40 (by kernel_rfl) rfl #[.int .u8 a0, .agg #[.bool a2_0, .int .i64 a2_1, .bool a2_2], .agg #[.int .u64 a3_0, .int .u64 a3_1]] rfl (am_ rfl) ?_; (with_reducible refine (cutplaneref20_Side.calls a0 a2_0 a2_1 a2_2 a3_0 a3_1 t824 _ A6.out).mono ?_); rintro e w17 ⟨rfl, hb⟩; refine ⟨_, rfl, ?_⟩; replace BK820 := bb_ BK820 hb; replace BK821 := bb_ BK821 hb; replace HB := hs_ hb; (try clear hb)) | ((with_reducible refine gate_callee (f := 66) rfl ?_); refine goesL_ (some 26) rfl rfl Try.func66 (by kernel_rfl) rfl #[.int .u8 a0, .int .u64 t822, .int .i64 0] rfl (am_ rfl) ?_; (with_reducible refine (cutplaneref20_beyond.calls k a0 t822 0 t825 _ A7.out).mono ?_); rintro e w18 ⟨rfl, hb⟩; refine ⟨_, rfl, ?_⟩; replace BK820 := bb_ BK820 hb; replace BK821 := bb_ BK821 hb; replace HB := hs_ hb; (try clear hb)))
  go_ret2
  exact ⟨by first | rfl | (simp [errW_none, errW_some] <;> rfl) | (simp [*, errW_none, errW_some] <;> rfl), qz_⟩
 ·rw [if_neg c8] at H
  have c8b0 : (a1 == 1) = false := beq_eq_false_iff_ne.mpr c8
  have c8b1 : (a1 != 1) = true := bne_iff_ne.mpr c8
  by_cases c19 : a1 = 3
  ·rw [if_pos c19] at H
   have c19b0 : (a1 == 3) = true := beq_iff_eq.mpr c19
   have c19b1 : (a1 != 3) = false := bne_eq_false_iff_eq.mpr c19
   clear c19
   obtain ⟨t826, A20, H⟩ := bs_ H
   try dsimp -simprocs only at H
   simp only [Option.some.injEq, Prod.mk.injEq] at H
   obtain ⟨rfl, rfl⟩ := H
   go_enter Try.func39, Try.ntmps39
   go_wp2_with (first | ((with_reducible refine gate_dst (N := 6) rfl ?_); refine box_event ?hg (N := 6) ?hd (cs := #[.bool a2_0, .int .i64 a2_1, .bool a2_2]) (t := 54) ?hr ?_; (case hd => rfl); (case hg => rfl); (case hr => first | (go_simp; done) | (go_simp; rfl)); intro gb820 hg w21 hbox hb; have BK820 := A0_ (hbox); have GW820 := A0_ ((by rw [hg]; exact (below_size (qm_ HB.out)) : w.heap.size ≤ gb820)); have GE820 := GW820; replace HB := hs_ hb; clear hb hbox hg) | ((with_reducible refine gate_dst (N := 7) rfl ?_); refine box_event ?hg (N := 7) ?hd (cs := #[.int .u64 a3_0, .int .u64 a3_1]) (t := 25) ?hr ?_; (case hd => rfl); (case hg => rfl); (case hr => first | (go_simp; done) | (go_simp; rfl)); intro gb821 hg w22 hbox hb; have BK821 := A0_ (hbox); have GW821 := A0_ ((by rw [hg]; exact (below_size qz_) : w.heap.size ≤ gb821)); have GE821 := GW821; replace HB := hs_ hb; have NB820_821 := nl_ hg BK820; have NB821_820 := ng_ hg BK820; replace BK820 := bb_ BK820 hb; clear hb hbox hg; have hnb23 := NB820_821.out; have hnc23 := NB821_820.out; have hcz24 := bc3_ BK820.out; have hfz24 := bf3_ BK820.out; have hcz25 := bc2_ BK821.out; have hfz25 := bf2_ BK821.out) | ((with_reducible refine gate_callee (f := 65) rfl ?_); refine goesL_ (some 17) rfl rfl Try.func65 (by kernel_rfl) rfl #[.agg #[.bool a2_0, .int .i64 a2_1, .bool a2_2], .agg #[.int .u64 a3_0, .int .u64 a3_1]] rfl (am_ rfl) ?_; (with_reducible refine (cutplaneref20_coordinates.calls a2_0 a2_1 a2_2 a3_0 a3_1 t822 t823 _ A5.out).mono ?_); rintro e w26 ⟨rfl, hb⟩; refine ⟨_, rfl, ?_⟩; replace BK820 := bb_ BK820 hb; replace BK821 := bb_ BK821 hb; replace HB := hs_ hb; (try clear hb); have hcz27 := bc3_ BK820.out; have hfz27 := bf3_ BK820.out; have hcz28 := bc2_ BK821.out; have hfz28 := bf2_ BK821.out) | ((with_reducible refine gate_callee (f := 40) rfl ?_); refine goesL_ (some 23) rfl rfl Try.func40 (by kernel_rfl) rfl #[.int .u8 a0, .agg #[.bool a2_0, .int .i64 a2_1, .bool a2_2], .agg #[.int .u64 a3_0, .int .u64 a3_1]] rfl (am_ rfl) ?_; (with_reducible refine (cutplaneref20_Side.calls a0 a2_0 a2_1 a2_2 a3_0 a3_1 t824 _ A6.out).mono ?_); rintro e w29 ⟨rfl, hb⟩; refine ⟨_, rfl, ?_⟩; replace BK820 := bb_ BK820 hb; replace BK821 := bb_ BK821 hb; replace HB := hs_ hb; (try clear hb)) | ((with_reducible refine gate_callee (f := 66) rfl ?_); refine goesL_ (some 26) rfl rfl Try.func66 (by kernel_rfl) rfl #[.int .u8 a0, .int .u64 t822, .int .i64 0] rfl (am_ rfl) ?_; (with_reducible refine (cutplaneref20_beyond.calls k a0 t822 0 t825 _ A7.out).mono ?_); rintro e w30 ⟨rfl, hb⟩; refine ⟨_, rfl, ?_⟩; replace BK820 := bb_ BK820 hb; replace BK821 := bb_ BK821 hb; replace HB := hs_ hb; (try clear hb)) | ((with_reducible refine gate_callee (f := 66) rfl ?_); refine goesL_ (some 35) rfl rfl Try.func66 (by kernel_rfl) rfl #[.int .u8 a0, .int .u64 t822, .int .i64 (-1)] rfl (am_ rfl) ?_; (with_reducible refine (cutplaneref20_beyond.calls k a0 t822 (-1) t826 _ A20.out).mono ?_); rintro e w31 ⟨rfl, hb⟩; refine ⟨_, rfl, ?_⟩; replace BK820 := bb_ BK820 hb; replace BK821 := bb_ BK821 hb; replace HB := hs_ hb; (try clear hb)))
   go_ret2
   exact ⟨by first | rfl | (simp [errW_none, errW_some] <;> rfl) | (simp [*, errW_none, errW_some] <;> rfl), qz_⟩
  ·rw [if_neg c19] at H
   have c19b0 : (a1 == 3) = false := beq_eq_false_iff_ne.mpr c19
   have c19b1 : (a1 != 3) = true := bne_iff_ne.mpr c19
   have HC32 := A0_ H
   clear H
   go_enter Try.func39, Try.ntmps39
   go_upto_if 38 with (first | ((with_reducible refine gate_dst (N := 6) rfl ?_); refine box_event ?hg (N := 6) ?hd (cs := #[.bool a2_0, .int .i64 a2_1, .bool a2_2]) (t := 54) ?hr ?_; (case hd => rfl); (case hg => rfl); (case hr => first | (go_simp; done) | (go_simp; rfl)); intro gb820 hg w33 hbox hb; have BK820 := A0_ (hbox); have GW820 := A0_ ((by rw [hg]; exact (below_size (qm_ HB.out)) : w.heap.size ≤ gb820)); have GE820 := GW820; replace HB := hs_ hb; clear hb hbox hg) | ((with_reducible refine gate_dst (N := 7) rfl ?_); refine box_event ?hg (N := 7) ?hd (cs := #[.int .u64 a3_0, .int .u64 a3_1]) (t := 25) ?hr ?_; (case hd => rfl); (case hg => rfl); (case hr => first | (go_simp; done) | (go_simp; rfl)); intro gb821 hg w34 hbox hb; have BK821 := A0_ (hbox); have GW821 := A0_ ((by rw [hg]; exact (below_size qz_) : w.heap.size ≤ gb821)); have GE821 := GW821; replace HB := hs_ hb; have NB820_821 := nl_ hg BK820; have NB821_820 := ng_ hg BK820; replace BK820 := bb_ BK820 hb; clear hb hbox hg; have hnb35 := NB820_821.out; have hnc35 := NB821_820.out; have hcz36 := bc3_ BK820.out; have hfz36 := bf3_ BK820.out; have hcz37 := bc2_ BK821.out; have hfz37 := bf2_ BK821.out) | ((with_reducible refine gate_callee (f := 65) rfl ?_); refine goesL_ (some 17) rfl rfl Try.func65 (by kernel_rfl) rfl #[.agg #[.bool a2_0, .int .i64 a2_1, .bool a2_2], .agg #[.int .u64 a3_0, .int .u64 a3_1]] rfl (am_ rfl) ?_; (with_reducible refine (cutplaneref20_coordinates.calls a2_0 a2_1 a2_2 a3_0 a3_1 t822 t823 _ A5.out).mono ?_); rintro e w38 ⟨rfl, hb⟩; refine ⟨_, rfl, ?_⟩; replace BK820 := bb_ BK820 hb; replace BK821 := bb_ BK821 hb; replace HB := hs_ hb; (try clear hb); have hcz39 := bc3_ BK820.out; have hfz39 := bf3_ BK820.out; have hcz40 := bc2_ BK821.out; have hfz40 := bf2_ BK821.out) | ((with_reducible refine gate_callee (f := 40) rfl ?_); refine goesL_ (some 23) rfl rfl Try.func40 (by kernel_rfl) rfl #[.int .u8 a0, .agg #[.bool a2_0, .int .i64 a2_1, .bool a2_2], .agg #[.int .u64 a3_0, .int .u64 a3_1]] rfl (am_ rfl) ?_; (with_reducible refine (cutplaneref20_Side.calls a0 a2_0 a2_1 a2_2 a3_0 a3_1 t824 _ A6.out).mono ?_); rintro e w41 ⟨rfl, hb⟩; refine ⟨_, rfl, ?_⟩; replace BK820 := bb_ BK820 hb; replace BK821 := bb_ BK821 hb; replace HB := hs_ hb; (try clear hb)) | ((with_reducible refine gate_callee (f := 66) rfl ?_); refine goesL_ (some 26) rfl rfl Try.func66 (by kernel_rfl) rfl #[.int .u8 a0, .int .u64 t822, .int .i64 0] rfl (am_ rfl) ?_; (with_reducible refine (cutplaneref20_beyond.calls k a0 t822 0 t825 _ A7.out).mono ?_); rintro e w42 ⟨rfl, hb⟩; refine ⟨_, rfl, ?_⟩; replace BK820 := bb_ BK820 hb; replace BK821 := bb_ BK821 hb; replace HB := hs_ hb; (try clear hb)))
   (try simp only [Act.put, sp_])
   go_cut [38] (fun v38 wc => ∃ (kq : Nat) (x38_31 : Bool), v38 = .bool x38_31 ∧ Aside0 (cutplaneref20_Signs.j0 kq a0 t822 t824 t825 a1 x38_31 = some (r1, r2)) ∧ Aside0 (kq ≤ k) ∧ Aside0 (wc.heap[gb820]? = some (.cells #[.bool a2_0, .int .i64 a2_1, .bool a2_2] 54 (0, 0))) ∧ Aside0 (wc.heap[gb821]? = some (.cells #[.int .u64 a3_0, .int .u64 a3_1] 25 (0, 0))) ∧ Aside0 (Below w.heap.size w wc))
   case first =>
    have H := HC32.out
    clear HC32
    by_cases c43 : a1 = 10
    ·rw [if_pos c43] at H
     have c43b0 : (a1 == 10) = true := beq_iff_eq.mpr c43
     have c43b1 : (a1 != 10) = false := bne_eq_false_iff_eq.mpr c43
     clear c43
     (first | rw [c43b0] | (simp only [i64_w, i32_w]; rw [c43b0]) | skip)
     have H' := A0_ H
     clear H
     go_wp2
     go_meet
     case rel => exact ⟨_, ((a1 == 10)), (by first | rfl | (simp; done) | (simp [*]; done)), H', ⟨by first | omega | exact Nat.le_refl _⟩, ⟨bm_ BK820.out⟩, ⟨bm_ BK821.out⟩, ⟨qz_⟩⟩
    ·rw [if_neg c43] at H
     have c43b0 : (a1 == 10) = false := beq_eq_false_iff_ne.mpr c43
     have c43b1 : (a1 != 10) = true := bne_iff_ne.mpr c43
     (first | rw [c43b0] | (simp only [i64_w, i32_w]; rw [c43b0]) | skip)
     have H' := A0_ H
     clear H
     go_wp2
     go_meet
     case rel => exact ⟨_, ((a1 == 15)), (by first | rfl | (simp; done) | (simp [*]; done)), H', ⟨by first | omega | exact Nat.le_refl _⟩, ⟨bm_ BK820.out⟩, ⟨bm_ BK821.out⟩, ⟨qz_⟩⟩
   case rest =>
    clear HC32
    try clear c1
    try clear c2
    try clear p2
    try clear c3
    try clear c4
    try clear c6
    try clear p6
    try clear c8
    try clear c8b0
    try clear c8b1
    try clear c11
    try clear c19
    try clear c19b0
    try clear c19b1
    try clear c23
    try clear c35
    try clear c39
    try clear c40
    try clear c43
    try clear c43b0
    try clear c43b1
    try clear hcz12
    try clear hcz13
    try clear hcz15
    try clear hcz16
    try clear hcz24
    try clear hcz25
    try clear hcz27
    try clear hcz28
    try clear hcz36
    try clear hcz37
    try clear hcz39
    try clear hcz40
    try clear hfz12
    try clear hfz13
    try clear hfz15
    try clear hfz16
    try clear hfz24
    try clear hfz25
    try clear hfz27
    try clear hfz28
    try clear hfz36
    try clear hfz37
    try clear hfz39
    try clear hfz40
    obtain ⟨kq, x38_31, rfl, HA, HJ31, BK820, BK821, HB⟩ := hcut
    cases kq with
    | zero => exact absurd HA.out (by simp [cutplaneref20_Signs.j0])
    | succ kj31 =>
     have H := HA.out
     clear HA
     simp only [cutplaneref20_Signs.j0] at H
     by_cases c44 : x38_31 = true
     ·subst c44
      rw [if_pos rfl] at H
      simp only [Option.some.injEq, Prod.mk.injEq] at H
      obtain ⟨rfl, rfl⟩ := H
      go_wp2
      go_ret2
      exact ⟨by first | rfl | (simp [errW_none, errW_some] <;> rfl) | (simp [*, errW_none, errW_some] <;> rfl), qz_⟩
     ·replace c44 := Bool.eq_false_iff.mpr c44
      subst c44
      rw [if_neg (show ¬ (false = true) by decide)] at H
      by_cases c45 : a1 = 11
      ·rw [if_pos c45] at H
       have c45b0 : (a1 == 11) = true := beq_iff_eq.mpr c45
       have c45b1 : (a1 != 11) = false := bne_eq_false_iff_eq.mpr c45
       clear c45
       by_cases c46 : t825 > 0
       ·rw [if_pos c46] at H
        have c46b0 : decide (0 < t825) = true := decide_eq_true c46
        clear c46
        simp only [Option.some.injEq, Prod.mk.injEq] at H
        obtain ⟨rfl, rfl⟩ := H
        go_wp2
        go_ret2
        exact ⟨by first | rfl | (simp [errW_none, errW_some] <;> rfl) | (simp [*, errW_none, errW_some] <;> rfl), qz_⟩
       ·rw [if_neg c46] at H
        have c46b0 : decide (0 < t825) = false := decide_eq_false c46
        clear c46
        simp only [Option.some.injEq, Prod.mk.injEq] at H
        obtain ⟨rfl, rfl⟩ := H
        go_wp2
        go_ret2
        exact ⟨by first | rfl | (simp [errW_none, errW_some] <;> rfl) | (simp [*, errW_none, errW_some] <;> rfl), qz_⟩
      ·rw [if_neg c45] at H
       have c45b0 : (a1 == 11) = false := beq_eq_false_iff_ne.mpr c45
       have c45b1 : (a1 != 11) = true := bne_iff_ne.mpr c45
       have HC47 := A0_ H
       clear H
       go_upto_if 51 with (fail)
       go_cut [51] (fun v51 wc => ∃ (kq : Nat) (x51_46 : Bool), v51 = .bool x51_46 ∧ Aside0 (cutplaneref20_Signs.j1 kq a0 t822 t824 t825 x51_46 = some (r1, r2)) ∧ Aside0 (kq ≤ kj31) ∧ Aside0 (wc.heap[gb820]? = some (.cells #[.bool a2_0, .int .i64 a2_1, .bool a2_2] 54 (0, 0))) ∧ Aside0 (wc.heap[gb821]? = some (.cells #[.int .u64 a3_0, .int .u64 a3_1] 25 (0, 0))) ∧ Aside0 (Below w.heap.size w wc))
       case first =>
        have H := HC47.out
        clear HC47
        by_cases c48 : a1 = 12
        ·rw [if_pos c48] at H
         have c48b0 : (a1 == 12) = true := beq_iff_eq.mpr c48
         have c48b1 : (a1 != 12) = false := bne_eq_false_iff_eq.mpr c48
         clear c48
         (first | rw [c48b0] | (simp only [i64_w, i32_w]; rw [c48b0]) | skip)
         have H' := A0_ H
         clear H
         go_wp2
         go_meet
         case rel => exact ⟨_, ((a1 == 12)), (by first | rfl | (simp; done) | (simp [*]; done)), H', ⟨by have := HJ31.out; first | omega | exact Nat.le_refl _⟩, ⟨bm_ BK820.out⟩, ⟨bm_ BK821.out⟩, ⟨qz_⟩⟩
        ·rw [if_neg c48] at H
         have c48b0 : (a1 == 12) = false := beq_eq_false_iff_ne.mpr c48
         have c48b1 : (a1 != 12) = true := bne_iff_ne.mpr c48
         (first | rw [c48b0] | (simp only [i64_w, i32_w]; rw [c48b0]) | skip)
         have H' := A0_ H
         clear H
         go_wp2
         go_meet
         case rel => exact ⟨_, ((a1 == 13)), (by first | rfl | (simp; done) | (simp [*]; done)), H', ⟨by have := HJ31.out; first | omega | exact Nat.le_refl _⟩, ⟨bm_ BK820.out⟩, ⟨bm_ BK821.out⟩, ⟨qz_⟩⟩
       case rest =>
        clear HC47
        try clear c1
        try clear c2
        try clear p2
        try clear c3
        try clear c4
        try clear c6
        try clear p6
        try clear c8
        try clear c8b0
        try clear c8b1
        try clear c11
        try clear c19
        try clear c19b0
        try clear c19b1
        try clear c23
        try clear c35
        try clear c39
        try clear c40
        try clear c43
        try clear c43b0
        try clear c43b1
        try clear c44
        try clear c45
        try clear c45b0
        try clear c45b1
        try clear c46
        try clear c46b0
        try clear c48
        try clear c48b0
        try clear c48b1
        try clear hcz12
        try clear hcz13
        try clear hcz15
        try clear hcz16
        try clear hcz24
        try clear hcz25
        try clear hcz27
        try clear hcz28
        try clear hcz36
        try clear hcz37
        try clear hcz39
        try clear hcz40
        try clear hfz12
        try clear hfz13
        try clear hfz15
        try clear hfz16
        try clear hfz24
        try clear hfz25
        try clear hfz27
        try clear hfz28
        try clear hfz36
        try clear hfz37
        try clear hfz39
        try clear hfz40
        try clear p2
        try clear p6
        obtain ⟨kq, x51_46, rfl, HA, HJ46, BK820, BK821, HB⟩ := hcut
        cases kq with
        | zero => exact absurd HA.out (by simp [cutplaneref20_Signs.j1])
        | succ kj46 =>
         have H := HA.out
         clear HA
         simp only [cutplaneref20_Signs.j1] at H
         by_cases c49 : x51_46 = true
         ·subst c49
          rw [if_pos rfl] at H
          simp only [Option.some.injEq, Prod.mk.injEq] at H
          obtain ⟨rfl, rfl⟩ := H
          go_wp2
          go_ret2
          exact ⟨by first | rfl | (simp [errW_none, errW_some] <;> rfl) | (simp [*, errW_none, errW_some] <;> rfl), qz_⟩
         ·replace c49 := Bool.eq_false_iff.mpr c49
          subst c49
          rw [if_neg (show ¬ (false = true) by decide)] at H
          obtain ⟨t827, A50, H⟩ := bs_ H
          try dsimp -simprocs only at H
          by_cases c51 : t827 < 0
          ·rw [if_pos c51] at H
           have c51b0 : decide (t827 < 0) = true := decide_eq_true c51
           clear c51
           simp only [Option.some.injEq, Prod.mk.injEq] at H
           obtain ⟨rfl, rfl⟩ := H
           go_wp2_with (first | ((with_reducible refine gate_callee (f := 66) rfl ?_); refine goesL_ (some 58) rfl rfl Try.func66 (by kernel_rfl) rfl #[.int .u8 a0, .int .u64 t822, .int .i64 (-1)] rfl (am_ rfl) ?_; (with_reducible refine (cutplaneref20_beyond.calls kj46 a0 t822 (-1) t827 _ A50.out).mono ?_); rintro e w52 ⟨rfl, hb⟩; refine ⟨_, rfl, ?_⟩; replace BK820 := bb_ BK820 hb; replace BK821 := bb_ BK821 hb; replace HB := hs_ hb; (try clear hb)))
           go_ret2
           exact ⟨by first | rfl | (simp [errW_none, errW_some] <;> rfl) | (simp [*, errW_none, errW_some] <;> rfl), qz_⟩
          ·rw [if_neg c51] at H
           have c51b0 : decide (t827 < 0) = false := decide_eq_false c51
           clear c51
           simp only [Option.some.injEq, Prod.mk.injEq] at H
           obtain ⟨rfl, rfl⟩ := H
           go_wp2_with (first | ((with_reducible refine gate_callee (f := 66) rfl ?_); refine goesL_ (some 58) rfl rfl Try.func66 (by kernel_rfl) rfl #[.int .u8 a0, .int .u64 t822, .int .i64 (-1)] rfl (am_ rfl) ?_; (with_reducible refine (cutplaneref20_beyond.calls kj46 a0 t822 (-1) t827 _ A50.out).mono ?_); rintro e w53 ⟨rfl, hb⟩; refine ⟨_, rfl, ?_⟩; replace BK820 := bb_ BK820 hb; replace BK821 := bb_ BK821 hb; replace HB := hs_ hb; (try clear hb)))
           go_ret2
           exact ⟨by first | rfl | (simp [errW_none, errW_some] <;> rfl) | (simp [*, errW_none, errW_some] <;> rfl), qz_⟩
end Go.Proofs.Ytgaabjjenlbmhaa.PA
end
