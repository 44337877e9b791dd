/- Steps of Go functions that the law SpecialQuotients uses, told as plain Lean functions, each with the proof that its call comes to what it tells; words on memory; plain facts. No condition beyond those that each text names. -/
import Derived.Test.YtlgapmhjaaajfaaGreatProg
import Derived.WalkMore
import Derived.Test.YtlgapmhjaaajfaaGreatSSpecialQuotients0
import Derived.Test.YtlgapmhjaaajfaaGreatSSpecialQuotients1
import Derived.Test.YtlgapmhjaaajfaaGreatSSpecialQuotients2
import Derived.Test.YtlgapmhjaaajfaaGreatSSpecialQuotients3
import Derived.Test.YtlgapmhjaaajfaaGreatSSpecialQuotients5
set_option maxHeartbeats 16000000
set_option maxRecDepth 100000
section
namespace Go.Proofs.YtlgapmhjaaajfaaGreat.PA
open Go.RowKit Go.Proofs.YtlgapmhjaaajfaaGreatW.PrintWords Go.Proofs.YtlgapmhjaaajfaaGreatW.PrintLast Go.Proofs.YtlgapmhjaaajfaaGreatW.PrintMore
attribute [local go_sem] max2_int min2_int max_two min_two max_three min_three max_four min_four   -- for this text's walks alone
set_option linter.unusedVariables false
set_option linter.unusedSimpArgs false
def cutplaneref03_Class.j0 : Nat → Int → Bool → Bool → Int → Int → Option (Int)
 | 0, _, _, _, _, _ => none
 | k + 1, x0, x16, x357000, x357001, x357002 => if x16 = true then (some 1) else (if x357001 = 0 then (some 2) else ((cutplaneref03_Most.f x0).bind fun t357 => (if x357001 < t357 then (some 3) else (if x357002 = 0 then (some 4) else (some 5)))))
def cutplaneref03_Class.f (k : Nat) (a0 : Int) (a1 : Int) : Option (Int) := (cutplaneref03_Split.f a0 a1).bind fun bt353 => (if bt353.2.1 = 0 then (cutplaneref03_Class.j0 k a0 (bt353.2.2 == 0) bt353.1 bt353.2.1 bt353.2.2) else (cutplaneref03_Class.j0 k a0 false bt353.1 bt353.2.1 bt353.2.2))
theorem cutplaneref03_Class.mono_l : ∀ k, (∀ y0 y1 y2 y3 y4, LeO (cutplaneref03_Class.j0 k y0 y1 y2 y3 y4) (cutplaneref03_Class.j0 (k + 1) y0 y1 y2 y3 y4))
 | 0 => fun _ _ _ _ _ r h => by simp [cutplaneref03_Class.j0] at h
 | k + 1 => by
  have ih0 := cutplaneref03_Class.mono_l k
  ·intro y0 y1 y2 y3 y4
   unfold cutplaneref03_Class.j0
   repeat' first
   | (with_reducible exact ih0 _ _ _ _ _)
   | (with_reducible exact LeO.refl _)
   | (with_reducible exact LeO.none _)
   | (with_reducible refine LeO.ite ?_ ?_)
   | (with_reducible refine LeO.bind ?_ (fun _ => ?_))
   | exact ih0 _ _ _ _ _
   | exact LeO.none _
   | refine LeO.ite ?_ ?_
   | refine LeO.bind ?_ (fun _ => ?_)
theorem cutplaneref03_Class.mono : ∀ a0 a1 k, LeO (cutplaneref03_Class.f k a0 a1) (cutplaneref03_Class.f (k + 1) a0 a1) := by
 intro a0 a1 k
 have ih0 := cutplaneref03_Class.mono_l k
 unfold cutplaneref03_Class.f
 repeat' first
   | (with_reducible exact ih0 _ _ _ _ _)
   | (with_reducible exact LeO.refl _)
   | (with_reducible exact LeO.none _)
   | (with_reducible refine LeO.ite ?_ ?_)
   | (with_reducible refine LeO.bind ?_ (fun _ => ?_))
   | exact ih0 _ _ _ _ _
   | exact LeO.none _
   | refine LeO.ite ?_ ?_
   | refine LeO.bind ?_ (fun _ => ?_)
theorem cutplaneref03_Class.calls (k : Nat) (a0 : Int) (a1 : Int) (r : Int) (w : World) (h : cutplaneref03_Class.f k a0 a1 = some r) :
  Calls Tryz.prog 40 #[.int .u8 a0, .int .u64 a1] w fun e w' => e = .returned (.int .u8 r) ∧ Below w.heap.size w w' := by
 have hu61 := Tryz.underlying61
 have HB := A0_ (Below.refl w.heap.size w)
 have H := h
 clear h
 unfold cutplaneref03_Class.f at H
 obtain ⟨⟨t353, t354, t355⟩, A3, H⟩ := bs_ H
 try dsimp -simprocs only at H
 have HC4 := A0_ H
 clear H
 go_enter Tryz.func40, Tryz.ntmps40
 go_upto_region 2 with (first | (go_at_call 23; (with_reducible refine (cutplaneref03_Split.calls a0 a1 t353 t354 t355 _ A3.out).mono ?_); rintro e w5 ⟨rfl, hb⟩; replace HB := hs_ hb; (try clear hb)) | ((with_reducible refine gate_dst (N := 5) rfl ?_); refine box_event ?hg (N := 5) ?hd (cs := #[.bool false, .int .i64 0, .int .u64 0]) (t := 61) ?hr ?_; (case hd => rfl); (case hg => rfl); (case hr => first | (go_simp; done) | (go_simp; rfl)); intro gb356 hg w6 hbox hb; have BK356 := A0_ (hbox); have GW356 := A0_ ((by rw [hg]; exact (below_size (qm_ HB.out)) : w.heap.size ≤ gb356)); have GE356 := GW356; replace HB := hs_ hb; clear hb hbox hg; have hcz7 := bc3_ BK356.out; have hfz7 := bf3_ BK356.out))
 repeat (go_quiet (first | (go_at_call 23; (with_reducible refine (cutplaneref03_Split.calls a0 a1 t353 t354 t355 _ A3.out).mono ?_); rintro e w5 ⟨rfl, hb⟩; replace HB := hs_ hb; (try clear hb)) | ((with_reducible refine gate_dst (N := 5) rfl ?_); refine box_event ?hg (N := 5) ?hd (cs := #[.bool false, .int .i64 0, .int .u64 0]) (t := 61) ?hr ?_; (case hd => rfl); (case hg => rfl); (case hr => first | (go_simp; done) | (go_simp; rfl)); intro gb356 hg w6 hbox hb; have BK356 := A0_ (hbox); have GW356 := A0_ ((by rw [hg]; exact (below_size (qm_ HB.out)) : w.heap.size ≤ gb356)); have GE356 := GW356; replace HB := hs_ hb; clear hb hbox hg; have hcz7 := bc3_ BK356.out; have hfz7 := bf3_ BK356.out)); go_upto_region 2 with (first | (go_at_call 23; (with_reducible refine (cutplaneref03_Split.calls a0 a1 t353 t354 t355 _ A3.out).mono ?_); rintro e w5 ⟨rfl, hb⟩; replace HB := hs_ hb; (try clear hb)) | ((with_reducible refine gate_dst (N := 5) rfl ?_); refine box_event ?hg (N := 5) ?hd (cs := #[.bool false, .int .i64 0, .int .u64 0]) (t := 61) ?hr ?_; (case hd => rfl); (case hg => rfl); (case hr => first | (go_simp; done) | (go_simp; rfl)); intro gb356 hg w6 hbox hb; have BK356 := A0_ (hbox); have GW356 := A0_ ((by rw [hg]; exact (below_size (qm_ HB.out)) : w.heap.size ≤ gb356)); have GE356 := GW356; replace HB := hs_ hb; clear hb hbox hg; have hcz7 := bc3_ BK356.out; have hfz7 := bf3_ BK356.out)))
 (try simp only [Act.put, sp_])
 go_cut [16] (fun v16 wc => ∃ (kq : Nat) (x16_3 : Bool), v16 = .bool x16_3 ∧ Aside0 (cutplaneref03_Class.j0 kq a0 x16_3 t353 t354 t355 = some r) ∧ Aside0 (kq ≤ k) ∧ Aside0 (wc.heap[gb356]? = some (.cells #[.bool t353, .int .i64 t354, .int .u64 t355] 61 (0, 0))) ∧ Aside0 (Below w.heap.size w wc))
 case first =>
  have H := HC4.out
  clear HC4
  by_cases c8 : t354 = 0
  ·rw [if_pos c8] at H
   have c8b0 : (t354 == 0) = true := beq_iff_eq.mpr c8
   have c8b1 : (t354 != 0) = false := bne_eq_false_iff_eq.mpr c8
   clear c8
   (first | rw [c8b0] | (simp only [i64_w, i32_w]; rw [c8b0]) | skip)
   have H' := A0_ H
   clear H
   have hcz9 := bc3_ BK356.out
   have hfz9 := bf3_ BK356.out
   go_wp2
   repeat (go_quiet (fail); try go_wp2)
   go_meet
   case rel => exact ⟨_, ((t355 == 0)), (by first | rfl | (simp; done) | (simp [*]; done)), H', ⟨by first | omega | exact Nat.le_refl _⟩, ⟨by (with_reducible repeat first | apply bN_ | apply bD_ | apply bA_); refine blk_put (cs := #[.bool t353, .int .i64 t354, .int .u64 0]) ?_ 2 _ rfl; refine blk_put (cs := #[.bool t353, .int .i64 0, .int .u64 0]) ?_ 1 _ rfl; refine blk_put (cs := #[.bool false, .int .i64 0, .int .u64 0]) ?_ 0 _ rfl; exact bm_ BK356.out⟩, ⟨qz_⟩⟩
  ·rw [if_neg c8] at H
   have c8b0 : (t354 == 0) = false := beq_eq_false_iff_ne.mpr c8
   have c8b1 : (t354 != 0) = true := bne_iff_ne.mpr c8
   (first | rw [c8b0] | (simp only [i64_w, i32_w]; rw [c8b0]) | skip)
   have H' := A0_ H
   clear H
   have hcz10 := bc3_ BK356.out
   have hfz10 := bf3_ BK356.out
   go_wp2
   repeat (go_quiet (fail); try go_wp2)
   go_meet
   case rel => exact ⟨_, (false), (by first | rfl | (simp; done) | (simp [*]; done)), H', ⟨by first | omega | exact Nat.le_refl _⟩, ⟨by (with_reducible repeat first | apply bN_ | apply bD_ | apply bA_); refine blk_put (cs := #[.bool t353, .int .i64 t354, .int .u64 0]) ?_ 2 _ rfl; refine blk_put (cs := #[.bool t353, .int .i64 0, .int .u64 0]) ?_ 1 _ rfl; refine blk_put (cs := #[.bool false, .int .i64 0, .int .u64 0]) ?_ 0 _ rfl; exact bm_ BK356.out⟩, ⟨qz_⟩⟩
 case rest =>
  clear HC4
  try clear p2
  try clear c4
  try clear c8
  try clear c8b0
  try clear c8b1
  try clear hcz10
  try clear hcz7
  try clear hcz9
  try clear hfz10
  try clear hfz7
  try clear hfz9
  obtain ⟨kq, x16_3, rfl, HA, HJ3, BK356, HB⟩ := hcut
  cases kq with
  | zero => exact absurd HA.out (by simp [cutplaneref03_Class.j0])
  | succ kj3 =>
   have H := HA.out
   clear HA
   simp only [cutplaneref03_Class.j0] at H
   by_cases c11 : x16_3 = true
   ·subst c11
    rw [if_pos rfl] at H
    obtain rfl := Option.some.inj H
    go_wp2
    repeat (go_quiet (fail); try go_wp2)
    go_ret
    exact ⟨by first | rfl | (simp [errW_none, errW_some] <;> rfl) | (simp [*, errW_none, errW_some] <;> rfl), qz_⟩
   ·replace c11 := Bool.eq_false_iff.mpr c11
    subst c11
    rw [if_neg (show ¬ (false = true) by decide)] at H
    by_cases c12 : t354 = 0
    ·rw [if_pos c12] at H
     have c12b0 : (t354 == 0) = true := beq_iff_eq.mpr c12
     have c12b1 : (t354 != 0) = false := bne_eq_false_iff_eq.mpr c12
     clear c12
     obtain rfl := Option.some.inj H
     have hcz13 := bc3_ BK356.out
     have hfz13 := bf3_ BK356.out
     go_wp2
     repeat (go_quiet (fail); try go_wp2)
     go_ret
     exact ⟨by first | rfl | (simp [errW_none, errW_some] <;> rfl) | (simp [*, errW_none, errW_some] <;> rfl), qz_⟩
    ·rw [if_neg c12] at H
     have c12b0 : (t354 == 0) = false := beq_eq_false_iff_ne.mpr c12
     have c12b1 : (t354 != 0) = true := bne_iff_ne.mpr c12
     obtain ⟨t357, A14, H⟩ := bs_ H
     try dsimp -simprocs only at H
     by_cases c15 : t354 < t357
     ·rw [if_pos c15] at H
      have c15b0 : decide (t354 < t357) = true := decide_eq_true c15
      clear c15
      obtain rfl := Option.some.inj H
      have hcz16 := bc3_ BK356.out
      have hfz16 := bf3_ BK356.out
      go_wp2_with (first | (go_at_call 45; (with_reducible refine (cutplaneref03_Most.calls a0 t357 _ A14.out).mono ?_); rintro e w' ⟨rfl, ⟨nd, rfl⟩⟩; (try first | exact ⟨rfl, _, World.drewN_drewN _ _ _⟩ | exact ⟨rfl, _, Eq.trans (World.drewN_drewN _ _ _) (congrArg (World.drewN _) (Nat.add_assoc _ _ _))⟩)))
      repeat (go_quiet (first | (go_at_call 45; (with_reducible refine (cutplaneref03_Most.calls a0 t357 _ A14.out).mono ?_); rintro e w' ⟨rfl, ⟨nd, rfl⟩⟩; (try first | exact ⟨rfl, _, World.drewN_drewN _ _ _⟩ | exact ⟨rfl, _, Eq.trans (World.drewN_drewN _ _ _) (congrArg (World.drewN _) (Nat.add_assoc _ _ _))⟩))); try go_wp2_with (first | (go_at_call 45; (with_reducible refine (cutplaneref03_Most.calls a0 t357 _ A14.out).mono ?_); rintro e w' ⟨rfl, ⟨nd, rfl⟩⟩; (try first | exact ⟨rfl, _, World.drewN_drewN _ _ _⟩ | exact ⟨rfl, _, Eq.trans (World.drewN_drewN _ _ _) (congrArg (World.drewN _) (Nat.add_assoc _ _ _))⟩))))
      go_ret
      exact ⟨by first | rfl | (simp [errW_none, errW_some] <;> rfl) | (simp [*, errW_none, errW_some] <;> rfl), qz_⟩
     ·rw [if_neg c15] at H
      have c15b0 : decide (t354 < t357) = false := decide_eq_false c15
      clear c15
      by_cases c17 : t355 = 0
      ·rw [if_pos c17] at H
       have c17b0 : (t355 == 0) = true := beq_iff_eq.mpr c17
       have c17b1 : (t355 != 0) = false := bne_eq_false_iff_eq.mpr c17
       clear c17
       obtain rfl := Option.some.inj H
       have hcz18 := bc3_ BK356.out
       have hfz18 := bf3_ BK356.out
       go_wp2_with (first | (go_at_call 45; (with_reducible refine (cutplaneref03_Most.calls a0 t357 _ A14.out).mono ?_); rintro e w' ⟨rfl, ⟨nd, rfl⟩⟩; (try first | exact ⟨rfl, _, World.drewN_drewN _ _ _⟩ | exact ⟨rfl, _, Eq.trans (World.drewN_drewN _ _ _) (congrArg (World.drewN _) (Nat.add_assoc _ _ _))⟩)))
       repeat (go_quiet (first | (go_at_call 45; (with_reducible refine (cutplaneref03_Most.calls a0 t357 _ A14.out).mono ?_); rintro e w' ⟨rfl, ⟨nd, rfl⟩⟩; (try first | exact ⟨rfl, _, World.drewN_drewN _ _ _⟩ | exact ⟨rfl, _, Eq.trans (World.drewN_drewN _ _ _) (congrArg (World.drewN _) (Nat.add_assoc _ _ _))⟩))); try go_wp2_with (first | (go_at_call 45; (with_reducible refine (cutplaneref03_Most.calls a0 t357 _ A14.out).mono ?_); rintro e w' ⟨rfl, ⟨nd, rfl⟩⟩; (try first | exact ⟨rfl, _, World.drewN_drewN _ _ _⟩ | exact ⟨rfl, _, Eq.trans (World.drewN_drewN _ _ _) (congrArg (World.drewN _) (Nat.add_assoc _ _ _))⟩))))
       go_ret
       exact ⟨by first | rfl | (simp [errW_none, errW_some] <;> rfl) | (simp [*, errW_none, errW_some] <;> rfl), qz_⟩
      ·rw [if_neg c17] at H
       have c17b0 : (t355 == 0) = false := beq_eq_false_iff_ne.mpr c17
       have c17b1 : (t355 != 0) = true := bne_iff_ne.mpr c17
       obtain rfl := Option.some.inj H
       have hcz19 := bc3_ BK356.out
       have hfz19 := bf3_ BK356.out
       go_wp2_with (first | (go_at_call 45; (with_reducible refine (cutplaneref03_Most.calls a0 t357 _ A14.out).mono ?_); rintro e w' ⟨rfl, ⟨nd, rfl⟩⟩; (try first | exact ⟨rfl, _, World.drewN_drewN _ _ _⟩ | exact ⟨rfl, _, Eq.trans (World.drewN_drewN _ _ _) (congrArg (World.drewN _) (Nat.add_assoc _ _ _))⟩)))
       repeat (go_quiet (first | (go_at_call 45; (with_reducible refine (cutplaneref03_Most.calls a0 t357 _ A14.out).mono ?_); rintro e w' ⟨rfl, ⟨nd, rfl⟩⟩; (try first | exact ⟨rfl, _, World.drewN_drewN _ _ _⟩ | exact ⟨rfl, _, Eq.trans (World.drewN_drewN _ _ _) (congrArg (World.drewN _) (Nat.add_assoc _ _ _))⟩))); try go_wp2_with (first | (go_at_call 45; (with_reducible refine (cutplaneref03_Most.calls a0 t357 _ A14.out).mono ?_); rintro e w' ⟨rfl, ⟨nd, rfl⟩⟩; (try first | exact ⟨rfl, _, World.drewN_drewN _ _ _⟩ | exact ⟨rfl, _, Eq.trans (World.drewN_drewN _ _ _) (congrArg (World.drewN _) (Nat.add_assoc _ _ _))⟩))))
       go_ret
       exact ⟨by first | rfl | (simp [errW_none, errW_some] <;> rfl) | (simp [*, errW_none, errW_some] <;> rfl), qz_⟩
end Go.Proofs.YtlgapmhjaaajfaaGreat.PA
end

section
namespace Go.Proofs.YtlgapmhjaaajfaaGreat.PA
open Go.RowKit Go.Proofs.YtlgapmhjaaajfaaGreatW.PrintWords Go.Proofs.YtlgapmhjaaajfaaGreatW.PrintLast Go.Proofs.YtlgapmhjaaajfaaGreatW.PrintMore
attribute [local go_sem] max2_int min2_int max_two min_two max_three min_three max_four min_four   -- for this text's walks alone
set_option linter.unusedVariables false
set_option linter.unusedSimpArgs false
mutual
def cutplaneref10_Class.j0 : Nat → Int → Int → Bool → Option (Int)
 | 0, _, _, _ => none
 | k + 1, x5, x6, x20 => if x20 = true then (some 3) else (if x5 = 5 then (cutplaneref10_Class.j1 k x5 x6 true) else (cutplaneref10_Class.j1 k x5 x6 (x6 == 5)))
def cutplaneref10_Class.j1 : Nat → Int → Int → Bool → Option (Int)
 | 0, _, _, _ => none
 | k + 1, x5, x6, x26 => if x26 = true then (some 4) else (if x5 = 1 then (if x6 = 1 then (some 1) else (some 2)) else (some 2))
end
def cutplaneref10_Class.f (k : Nat) (a0 : Int) (a1_0 : Int) (a1_1 : Int) : Option (Int) := (cutplaneref03_Class.f k a0 a1_0).bind fun t359 => ((cutplaneref03_Class.f k a0 a1_1).bind fun t360 => (if t359 = 4 then (cutplaneref10_Class.j0 k t359 t360 true) else (cutplaneref10_Class.j0 k t359 t360 (t360 == 4))))
def cutplaneref10_Class.T1 : Bool × List (List Nat × List Nat) := (true, [([], []), ([], []), ([1], [1]), ([0, 2], [0, 2]), ([], []), ([], []), ([5], [5]), ([4, 6, 3], [4, 6]), ([3, 7, 0, 1, 2, 3], [3]), ([7, 8, 0, 1, 2, 3, 4, 5, 6, 7, 8], [7])])
def cutplaneref10_Class.B1 : List Nat := [0, 0, 2, 7, 0, 0, 32, 127, 255, 511]
theorem cutplaneref10_Class.tab1 : rtab .any (opsOf Tryz.f18 1) = cutplaneref10_Class.T1 := by kernel_rfl
theorem cutplaneref10_Class.bits1 : waitsOk cutplaneref10_Class.T1.2 cutplaneref10_Class.B1 = true := by kernel_rfl
theorem cutplaneref10_Class.calls (k : Nat) (a0 : Int) (a1_0 : Int) (a1_1 : Int) (r : Int) (w : World) (h : cutplaneref10_Class.f k a0 a1_0 a1_1 = some r) :
  Calls Tryz.prog 18 #[.int .u8 a0, .agg #[.int .u64 a1_0, .int .u64 a1_1]] w fun e w' => e = .returned (.int .u8 r) ∧ Below w.heap.size w w' := by
 have hu26 := Tryz.underlying26
 have HB := A0_ (Below.refl w.heap.size w)
 have H := h
 clear h
 unfold cutplaneref10_Class.f at H
 obtain ⟨t359, A3, H⟩ := bs_ H
 try dsimp -simprocs only at H
 obtain ⟨t360, A4, H⟩ := bs_ H
 try dsimp -simprocs only at H
 have HC5 := A0_ H
 clear H
 go_enter Tryz.func18, Tryz.ntmps18
 try go_wp2_with (first | ((with_reducible refine gate_dst (N := 3) rfl ?_); refine box_event ?hg (N := 3) ?hd (cs := #[.int .u64 a1_0, .int .u64 a1_1]) (t := 26) ?hr ?_; (case hd => rfl); (case hg => rfl); (case hr => first | (go_simp; done) | (go_simp; rfl)); intro gb358 hg w6 hbox hb; have BK358 := A0_ (hbox); have GW358 := A0_ ((by rw [hg]; exact (below_size (qm_ HB.out)) : w.heap.size ≤ gb358)); have GE358 := GW358; replace HB := hs_ hb; clear hb hbox hg))
 replace BK358 := A0_ (blk_drew BK358.out)
 replace HB := A0_ (below_drew1 HB.out)
 refine start_ (n := 10) (S := fun w' => w'.cell? ⟨gb358, 0, none⟩ = some (.int .u64 a1_0) ∧ w'.cell? ⟨gb358, 1, none⟩ = some (.int .u64 a1_1)) (ds := []) #[false, false, false, false, false, false, false, false, false, false] (by kernel_rfl) rfl rfl ⟨bC_ BK358.out 0, bC_ BK358.out 1⟩ (fun hHeld => ?_); refine with_tabW cutplaneref10_Class.tab1 cutplaneref10_Class.bits1 (fun HT_ HW_ => ?_)
 generalize w6.drew = w7 at BK358 HB hHeld ⊢
 refine pure_ (i := 0) (N := some 7) (v := ?_) (a' := ?_) #[true, false, false, false, false, false, false, false, false, false] rfl rfl (any_of HT_.out (by kernel_rfl)) (fun _ _ _ h => h) (Or.inl ⟨by rfl, ?_⟩) ?_ ?_
 rotate_left
 ·intro w'
  go_simp
  with_reducible rfl
 rotate_left
 ·simp only [Act.put, sp_, i64_w, i32_w]
  rfl
 refine pure_ (i := 1) (N := some 8) (v := ?_) (a' := ?_) #[true, true, false, false, false, false, false, false, false, false] rfl rfl (any_of HT_.out (by kernel_rfl)) (fun _ _ _ h => h) (Or.inl ⟨by rfl, ?_⟩) ?_ ?_
 rotate_left
 ·intro w'
  go_simp
  with_reducible rfl
 rotate_left
 ·simp only [Act.put, sp_, i64_w, i32_w]
  rfl
 refine pure_ (i := 4) (N := some 11) (v := ?_) (a' := ?_) #[true, true, false, false, true, false, false, false, false, false] rfl rfl (any_of HT_.out (by kernel_rfl)) (fun _ _ _ h => h) (Or.inl ⟨by rfl, ?_⟩) ?_ ?_
 rotate_left
 ·intro w'
  go_simp
  with_reducible rfl
 rotate_left
 ·simp only [Act.put, sp_, i64_w, i32_w]
  rfl
 refine pure_ (i := 5) (N := some 12) (v := ?_) (a' := ?_) #[true, true, false, false, true, true, false, false, false, false] rfl rfl (any_of HT_.out (by kernel_rfl)) (fun _ _ _ h => h) (Or.inl ⟨by rfl, ?_⟩) ?_ ?_
 rotate_left
 ·intro w'
  go_simp
  with_reducible rfl
 rotate_left
 ·simp only [Act.put, sp_, i64_w, i32_w]
  rfl
 refine take_ (i := 2) (N := some 9) (v := ?_) (a' := ?_) #[true, true, true, false, true, true, false, false, false, false] rfl rfl (take_ofW HT_.out HW_.out (by kernel_rfl)) (fun _ _ _ h => h) (Or.inl ⟨by rfl, ?_⟩) hHeld ?_ ?_
 rotate_left
 ·rintro w' ⟨s0, s1⟩
  go_simp
  with_reducible rfl
 rotate_left
 ·simp only [Act.put, sp_, i64_w, i32_w]
  rfl
 refine take_ (i := 6) (N := some 13) (v := ?_) (a' := ?_) #[true, true, true, false, true, true, true, false, false, false] rfl rfl (take_ofW HT_.out HW_.out (by kernel_rfl)) (fun _ _ _ h => h) (Or.inl ⟨by rfl, ?_⟩) hHeld ?_ ?_
 rotate_left
 ·rintro w' ⟨s0, s1⟩
  go_simp
  with_reducible rfl
 rotate_left
 ·simp only [Act.put, sp_, i64_w, i32_w]
  rfl
 refine one_ (i := 3) (N := some 10) #[true, true, true, true, true, true, true, false, false, false] rfl rfl (one_of HT_.out (by kernel_rfl)) (by decide) (fun K hK => ?_)
 refine goes_ Tryz.func40 (by kernel_rfl) rfl #[.int .u8 a0, .int .u64 a1_0] (by rfl) rfl rfl (am_ rfl) ?_
 with_reducible refine (cutplaneref03_Class.calls k a0 a1_0 t359 _ A3.out).mono ?_
 rintro e w8 ⟨rfl, hb⟩
 refine ⟨_, rfl, ?_⟩
 replace BK358 := bb_ BK358 hb
 replace HB := hs_ hb
 (try clear hb)
 refine hK.out _ _ ⟨bC_ BK358.out 0, bC_ BK358.out 1⟩ (fun hHeld => ?_)
 clear hK K
 refine norm_ (a' := ?_) ?_ ?_
 rotate_left
 ·show Act.put _ (some 10) _ = _
  simp only [Act.put, sp_, i64_w, i32_w]
  rfl
 refine one_ (i := 7) (N := some 14) #[true, true, true, true, true, true, true, true, false, false] rfl rfl (one_of HT_.out (by kernel_rfl)) (by decide) (fun K hK => ?_)
 refine goes_ Tryz.func40 (by kernel_rfl) rfl #[.int .u8 a0, .int .u64 a1_1] (by rfl) rfl rfl (am_ rfl) ?_
 with_reducible refine (cutplaneref03_Class.calls k a0 a1_1 t360 _ A4.out).mono ?_
 rintro e w9 ⟨rfl, hb⟩
 refine ⟨_, rfl, ?_⟩
 replace BK358 := bb_ BK358 hb
 replace HB := hs_ hb
 (try clear hb)
 refine hK.out _ _ ⟨bC_ BK358.out 0, bC_ BK358.out 1⟩ (fun hHeld => ?_)
 clear hK K
 refine norm_ (a' := ?_) ?_ ?_
 rotate_left
 ·show Act.put _ (some 14) _ = _
  simp only [Act.put, sp_, i64_w, i32_w]
  rfl
 refine pure_ (i := 8) (N := some 5) (v := ?_) (a' := ?_) #[true, true, true, true, true, true, true, true, true, false] rfl rfl (any_of HT_.out (by kernel_rfl)) (fun _ _ _ h => h) (Or.inl ⟨by rfl, ?_⟩) ?_ ?_
 rotate_left
 ·intro w'
  go_simp
  with_reducible rfl
 rotate_left
 ·simp only [Act.put, sp_, i64_w, i32_w]
  rfl
 refine pure_ (i := 9) (N := some 6) (v := ?_) (a' := ?_) #[true, true, true, true, true, true, true, true, true, true] rfl rfl (any_of HT_.out (by kernel_rfl)) (fun _ _ _ h => h) (Or.inl ⟨by rfl, ?_⟩) ?_ ?_
 rotate_left
 ·intro w'
  go_simp
  with_reducible rfl
 rotate_left
 ·simp only [Act.put, sp_, i64_w, i32_w]
  rfl
 refine done_ (done_of HT_.out (by kernel_rfl)) ?_
 go_upto_region 2 with (fail)
 go_cut [20] (fun v20 wc => ∃ (kq : Nat) (x20_4 : Bool), v20 = .bool x20_4 ∧ Aside0 (cutplaneref10_Class.j0 kq t359 t360 x20_4 = some r) ∧ Aside0 (kq ≤ k) ∧ Aside0 (wc.heap[gb358]? = some (.cells #[.int .u64 a1_0, .int .u64 a1_1] 26 (0, 0))) ∧ Aside0 (Below w.heap.size w wc))
 case first =>
  have H := HC5.out
  clear HC5
  by_cases c10 : t359 = 4
  ·rw [if_pos c10] at H
   have c10b0 : (t359 == 4) = true := beq_iff_eq.mpr c10
   have c10b1 : (t359 != 4) = false := bne_eq_false_iff_eq.mpr c10
   clear c10
   (first | rw [c10b0] | (simp only [i64_w, i32_w]; rw [c10b0]) | skip)
   have H' := A0_ H
   clear H
   go_wp2
   go_meet
   case rel => exact ⟨_, (true), (by first | rfl | (simp; done) | (simp [*]; done)), H', ⟨by first | omega | exact Nat.le_refl _⟩, ⟨bm_ BK358.out⟩, ⟨qz_⟩⟩
  ·rw [if_neg c10] at H
   have c10b0 : (t359 == 4) = false := beq_eq_false_iff_ne.mpr c10
   have c10b1 : (t359 != 4) = true := bne_iff_ne.mpr c10
   (first | rw [c10b0] | (simp only [i64_w, i32_w]; rw [c10b0]) | skip)
   have H' := A0_ H
   clear H
   go_wp2
   go_meet
   case rel => exact ⟨_, ((t360 == 4)), (by first | rfl | (simp; done) | (simp [*]; done)), H', ⟨by first | omega | exact Nat.le_refl _⟩, ⟨bm_ BK358.out⟩, ⟨qz_⟩⟩
 case rest =>
  clear HC5
  try clear c1
  try clear p2
  try clear c4
  try clear c10
  try clear c10b0
  try clear c10b1
  obtain ⟨kq, x20_4, rfl, HA, HJ4, BK358, HB⟩ := hcut
  cases kq with
  | zero => exact absurd HA.out (by simp [cutplaneref10_Class.j0])
  | succ kj4 =>
   have H := HA.out
   clear HA
   simp only [cutplaneref10_Class.j0] at H
   by_cases c11 : x20_4 = true
   ·subst c11
    rw [if_pos rfl] at H
    obtain rfl := Option.some.inj H
    go_wp2
    go_ret
    exact ⟨by first | rfl | (simp [errW_none, errW_some] <;> rfl) | (simp [*, errW_none, errW_some] <;> rfl), qz_⟩
   ·replace c11 := Bool.eq_false_iff.mpr c11
    subst c11
    rw [if_neg (show ¬ (false = true) by decide)] at H
    have HC12 := A0_ H
    clear H
    go_upto_region 4 with (fail)
    go_cut [26] (fun v26 wc => ∃ (kq : Nat) (x26_11 : Bool), v26 = .bool x26_11 ∧ Aside0 (cutplaneref10_Class.j1 kq t359 t360 x26_11 = some r) ∧ Aside0 (kq ≤ kj4) ∧ Aside0 (wc.heap[gb358]? = some (.cells #[.int .u64 a1_0, .int .u64 a1_1] 26 (0, 0))) ∧ Aside0 (Below w.heap.size w wc))
    case first =>
     have H := HC12.out
     clear HC12
     by_cases c13 : t359 = 5
     ·rw [if_pos c13] at H
      have c13b0 : (t359 == 5) = true := beq_iff_eq.mpr c13
      have c13b1 : (t359 != 5) = false := bne_eq_false_iff_eq.mpr c13
      clear c13
      (first | rw [c13b0] | (simp only [i64_w, i32_w]; rw [c13b0]) | skip)
      have H' := A0_ H
      clear H
      go_wp2
      go_meet
      case rel => exact ⟨_, (true), (by first | rfl | (simp; done) | (simp [*]; done)), H', ⟨by have := HJ4.out; first | omega | exact Nat.le_refl _⟩, ⟨bm_ BK358.out⟩, ⟨qz_⟩⟩
     ·rw [if_neg c13] at H
      have c13b0 : (t359 == 5) = false := beq_eq_false_iff_ne.mpr c13
      have c13b1 : (t359 != 5) = true := bne_iff_ne.mpr c13
      (first | rw [c13b0] | (simp only [i64_w, i32_w]; rw [c13b0]) | skip)
      have H' := A0_ H
      clear H
      go_wp2
      go_meet
      case rel => exact ⟨_, ((t360 == 5)), (by first | rfl | (simp; done) | (simp [*]; done)), H', ⟨by have := HJ4.out; first | omega | exact Nat.le_refl _⟩, ⟨bm_ BK358.out⟩, ⟨qz_⟩⟩
    case rest =>
     clear HC12
     try clear c1
     try clear p2
     try clear c4
     try clear c10
     try clear c10b0
     try clear c10b1
     try clear c11
     try clear c13
     try clear c13b0
     try clear c13b1
     try clear p2
     obtain ⟨kq, x26_11, rfl, HA, HJ11, BK358, HB⟩ := hcut
     cases kq with
     | zero => exact absurd HA.out (by simp [cutplaneref10_Class.j1])
     | succ kj11 =>
      have H := HA.out
      clear HA
      simp only [cutplaneref10_Class.j1] at H
      by_cases c14 : x26_11 = true
      ·subst c14
       rw [if_pos rfl] at H
       obtain rfl := Option.some.inj H
       go_wp2
       go_ret
       exact ⟨by first | rfl | (simp [errW_none, errW_some] <;> rfl) | (simp [*, errW_none, errW_some] <;> rfl), qz_⟩
      ·replace c14 := Bool.eq_false_iff.mpr c14
       subst c14
       rw [if_neg (show ¬ (false = true) by decide)] at H
       by_cases c15 : t359 = 1
       ·rw [if_pos c15] at H
        have c15b0 : (t359 == 1) = true := beq_iff_eq.mpr c15
        have c15b1 : (t359 != 1) = false := bne_eq_false_iff_eq.mpr c15
        clear c15
        by_cases c16 : t360 = 1
        ·rw [if_pos c16] at H
         have c16b0 : (t360 == 1) = true := beq_iff_eq.mpr c16
         have c16b1 : (t360 != 1) = false := bne_eq_false_iff_eq.mpr c16
         clear c16
         obtain rfl := Option.some.inj H
         go_wp2
         go_ret
         exact ⟨by first | rfl | (simp [errW_none, errW_some] <;> rfl) | (simp [*, errW_none, errW_some] <;> rfl), qz_⟩
        ·rw [if_neg c16] at H
         have c16b0 : (t360 == 1) = false := beq_eq_false_iff_ne.mpr c16
         have c16b1 : (t360 != 1) = true := bne_iff_ne.mpr c16
         obtain rfl := Option.some.inj H
         go_wp2
         go_ret
         exact ⟨by first | rfl | (simp [errW_none, errW_some] <;> rfl) | (simp [*, errW_none, errW_some] <;> rfl), qz_⟩
       ·rw [if_neg c15] at H
        have c15b0 : (t359 == 1) = false := beq_eq_false_iff_ne.mpr c15
        have c15b1 : (t359 != 1) = true := bne_iff_ne.mpr c15
        obtain rfl := Option.some.inj H
        go_wp2
        go_ret
        exact ⟨by first | rfl | (simp [errW_none, errW_some] <;> rfl) | (simp [*, errW_none, errW_some] <;> rfl), qz_⟩
end Go.Proofs.YtlgapmhjaaajfaaGreat.PA
end

section
namespace Go.Proofs.YtlgapmhjaaajfaaGreat.PA
open Go.RowKit Go.Proofs.YtlgapmhjaaajfaaGreatW.PrintWords Go.Proofs.YtlgapmhjaaajfaaGreatW.PrintLast Go.Proofs.YtlgapmhjaaajfaaGreatW.PrintMore
attribute [local go_sem] max2_int min2_int max_two min_two max_three min_three max_four min_four   -- for this text's walks alone
set_option linter.unusedVariables false
set_option linter.unusedSimpArgs false
def cutplaneref03_Finite.f (k : Nat) (a0 : Int) (a1 : Int) : Option (Bool) := (cutplaneref03_Class.f k a0 a1).bind fun t361 => (if t361 = 4 then (some false) else (some (t361 != 5)))
theorem cutplaneref03_Finite.calls (k : Nat) (a0 : Int) (a1 : Int) (r : Bool) (w : World) (h : cutplaneref03_Finite.f k a0 a1 = some r) :
  Calls Tryz.prog 41 #[.int .u8 a0, .int .u64 a1] w fun e w' => e = .returned (.bool r) ∧ Below w.heap.size w w' := by
 have HB := A0_ (Below.refl w.heap.size w)
 have H := h
 clear h
 unfold cutplaneref03_Finite.f at H
 obtain ⟨t361, A3, H⟩ := bs_ H
 try dsimp -simprocs only at H
 by_cases c4 : t361 = 4
 ·rw [if_pos c4] at H
  have c4b0 : (t361 == 4) = true := beq_iff_eq.mpr c4
  have c4b1 : (t361 != 4) = false := bne_eq_false_iff_eq.mpr c4
  clear c4
  obtain rfl := Option.some.inj H
  go_enter Tryz.func41, Tryz.ntmps41
  go_wp2_with (first | ((with_reducible refine gate_callee (f := 40) rfl ?_); refine goesL_ (some 8) rfl rfl Tryz.func40 (by kernel_rfl) rfl #[.int .u8 a0, .int .u64 a1] rfl (am_ rfl) ?_; (with_reducible refine (cutplaneref03_Class.calls k a0 a1 t361 _ A3.out).mono ?_); rintro e w5 ⟨rfl, hb⟩; refine ⟨_, rfl, ?_⟩; replace HB := hs_ hb; (try clear hb)))
  go_ret
  exact ⟨by first | rfl | (simp [errW_none, errW_some] <;> rfl) | (simp [*, errW_none, errW_some] <;> rfl), qm_ HB.out⟩
 ·rw [if_neg c4] at H
  have c4b0 : (t361 == 4) = false := beq_eq_false_iff_ne.mpr c4
  have c4b1 : (t361 != 4) = true := bne_iff_ne.mpr c4
  obtain rfl := Option.some.inj H
  go_enter Tryz.func41, Tryz.ntmps41
  go_wp2_with (first | ((with_reducible refine gate_callee (f := 40) rfl ?_); refine goesL_ (some 8) rfl rfl Tryz.func40 (by kernel_rfl) rfl #[.int .u8 a0, .int .u64 a1] rfl (am_ rfl) ?_; (with_reducible refine (cutplaneref03_Class.calls k a0 a1 t361 _ A3.out).mono ?_); rintro e w6 ⟨rfl, hb⟩; refine ⟨_, rfl, ?_⟩; replace HB := hs_ hb; (try clear hb)))
  go_ret
  exact ⟨by first | rfl | (simp [errW_none, errW_some] <;> rfl) | (simp [*, errW_none, errW_some] <;> rfl), qm_ HB.out⟩
def cutplaneref10_Finite.f (k : Nat) (a0 : Int) (a1_0 : Int) (a1_1 : Int) : Option (Bool) := (cutplaneref03_Finite.f k a0 a1_0).bind fun t363 => (if t363 = true then ((cutplaneref03_Finite.f k a0 a1_1).bind fun t364 => (some t364)) else (some false))
theorem cutplaneref10_Finite.calls (k : Nat) (a0 : Int) (a1_0 : Int) (a1_1 : Int) (r : Bool) (w : World) (h : cutplaneref10_Finite.f k a0 a1_0 a1_1 = some r) :
  Calls Tryz.prog 19 #[.int .u8 a0, .agg #[.int .u64 a1_0, .int .u64 a1_1]] w fun e w' => e = .returned (.bool r) ∧ Below w.heap.size w w' := by
 have hu26 := Tryz.underlying26
 have HB := A0_ (Below.refl w.heap.size w)
 have H := h
 clear h
 unfold cutplaneref10_Finite.f at H
 obtain ⟨t363, A3, H⟩ := bs_ H
 try dsimp -simprocs only at H
 by_cases c4 : t363 = true
 ·subst c4
  rw [if_pos rfl] at H
  obtain ⟨t364, A5, H⟩ := bs_ H
  try dsimp -simprocs only at H
  obtain rfl := Option.some.inj H
  go_enter Tryz.func19, Tryz.ntmps19
  go_wp2_with (first | ((with_reducible refine gate_dst (N := 3) rfl ?_); refine box_event ?hg (N := 3) ?hd (cs := #[.int .u64 a1_0, .int .u64 a1_1]) (t := 26) ?hr ?_; (case hd => rfl); (case hg => rfl); (case hr => first | (go_simp; done) | (go_simp; rfl)); intro gb362 hg w6 hbox hb; have BK362 := A0_ (hbox); have GW362 := A0_ ((by rw [hg]; exact (below_size (qm_ HB.out)) : w.heap.size ≤ gb362)); have GE362 := GW362; replace HB := hs_ hb; clear hb hbox hg; have hcz7 := bc2_ BK362.out; have hfz7 := bf2_ BK362.out) | ((with_reducible refine gate_callee (f := 41) rfl ?_); refine goesL_ (some 8) rfl rfl Tryz.func41 (by kernel_rfl) rfl #[.int .u8 a0, .int .u64 a1_0] rfl (am_ rfl) ?_; (with_reducible refine (cutplaneref03_Finite.calls k a0 a1_0 true _ A3.out).mono ?_); rintro e w8 ⟨rfl, hb⟩; refine ⟨_, rfl, ?_⟩; replace BK362 := bb_ BK362 hb; replace HB := hs_ hb; (try clear hb); have hcz9 := bc2_ BK362.out; have hfz9 := bf2_ BK362.out) | (go_at_call 41; (with_reducible refine (cutplaneref03_Finite.calls k a0 a1_1 t364 _ A5.out).mono ?_); rintro e w10 ⟨rfl, hb⟩; replace BK362 := bb_ BK362 hb; replace HB := hs_ hb; (try clear hb)))
  go_ret
  exact ⟨by first | rfl | (simp [errW_none, errW_some] <;> rfl) | (simp [*, errW_none, errW_some] <;> rfl), qz_⟩
 ·replace c4 := Bool.eq_false_iff.mpr c4
  subst c4
  rw [if_neg (show ¬ (false = true) by decide)] at H
  obtain rfl := Option.some.inj H
  go_enter Tryz.func19, Tryz.ntmps19
  go_wp2_with (first | ((with_reducible refine gate_dst (N := 3) rfl ?_); refine box_event ?hg (N := 3) ?hd (cs := #[.int .u64 a1_0, .int .u64 a1_1]) (t := 26) ?hr ?_; (case hd => rfl); (case hg => rfl); (case hr => first | (go_simp; done) | (go_simp; rfl)); intro gb362 hg w11 hbox hb; have BK362 := A0_ (hbox); have GW362 := A0_ ((by rw [hg]; exact (below_size (qm_ HB.out)) : w.heap.size ≤ gb362)); have GE362 := GW362; replace HB := hs_ hb; clear hb hbox hg; have hcz12 := bc2_ BK362.out; have hfz12 := bf2_ BK362.out) | ((with_reducible refine gate_callee (f := 41) rfl ?_); refine goesL_ (some 8) rfl rfl Tryz.func41 (by kernel_rfl) rfl #[.int .u8 a0, .int .u64 a1_0] rfl (am_ rfl) ?_; (with_reducible refine (cutplaneref03_Finite.calls k a0 a1_0 false _ A3.out).mono ?_); rintro e w13 ⟨rfl, hb⟩; refine ⟨_, rfl, ?_⟩; replace BK362 := bb_ BK362 hb; replace HB := hs_ hb; (try clear hb)))
  go_ret
  exact ⟨by first | rfl | (simp [errW_none, errW_some] <;> rfl) | (simp [*, errW_none, errW_some] <;> rfl), qz_⟩
def cutplaneref03_Join.f (a0 : Int) (a1_0 : Bool) (a1_1 : Int) (a1_2 : Int) : Option (Int) := (cutplaneref03_Frac.f a0).bind fun t366 => (if 0 ≤ t366 then (if a1_0 = true then ((cutplaneref03_Sign.f a0).bind fun t367 => (some (IntKind.u64.wrap ((IntKind.u64.wrap ((shl .u64 (IntKind.u64.wrap (a1_1)) t366) + a1_2)) + t367)))) else (some (IntKind.u64.wrap ((shl .u64 (IntKind.u64.wrap (a1_1)) t366) + a1_2)))) else (none))
theorem cutplaneref03_Join.calls (a0 : Int) (a1_0 : Bool) (a1_1 : Int) (a1_2 : Int) (r : Int) (w : World) (h : cutplaneref03_Join.f a0 a1_0 a1_1 a1_2 = some r) :
  Calls Tryz.prog 44 #[.int .u8 a0, .agg #[.bool a1_0, .int .i64 a1_1, .int .u64 a1_2]] w fun e w' => e = .returned (.int .u64 r) ∧ Below w.heap.size w w' := by
 have hu61 := Tryz.underlying61
 have HB := A0_ (Below.refl w.heap.size w)
 have H := h
 clear h
 unfold cutplaneref03_Join.f at H
 obtain ⟨t366, A3, H⟩ := bs_ H
 try dsimp -simprocs only at H
 obtain ⟨c4, H⟩ := ic_ H
 have c4b0 := eq_true c4
 have c4b1 : decide (0 ≤ t366) = true := decide_eq_true c4
 clear c4
 obtain ⟨ji5, hji5⟩ : ∃ j_ : Int, (shl .u64 (IntKind.u64.wrap (a1_1)) t366) = j_ := ⟨_, rfl⟩
 replace H : (if a1_0 = true then ((cutplaneref03_Sign.f a0).bind fun t367 => (some (IntKind.u64.wrap ((IntKind.u64.wrap ((ji5) + a1_2)) + t367)))) else (some (IntKind.u64.wrap ((ji5) + a1_2)))) = some r := by first | (rw [hji5] at H; exact H) | (simp only [hji5] at H ⊢; exact H)
 (try rw [hji5] at A3)
 have hji5_ : (IntKind.u64.wrap ((IntKind.u64.wrap (a1_1)) * 2 ^ min t366.toNat 64)) = ji5 := hji5
 have hji5z : t366 ≤ 64 → (IntKind.u64.wrap ((IntKind.u64.wrap (a1_1)) * 2 ^ t366.toNat)) = ji5 := shl_small hji5
 by_cases c6 : a1_0 = true
 ·subst c6
  rw [if_pos rfl] at H
  obtain ⟨t367, A7, H⟩ := bs_ H
  try dsimp -simprocs only at H
  obtain rfl := Option.some.inj H
  go_enter Tryz.func44, Tryz.ntmps44
  go_wp2_with (first | ((with_reducible refine gate_dst (N := 3) rfl ?_); refine box_event ?hg (N := 3) ?hd (cs := #[.bool true, .int .i64 a1_1, .int .u64 a1_2]) (t := 61) ?hr ?_; (case hd => rfl); (case hg => rfl); (case hr => first | (go_simp; done) | (go_simp; rfl)); intro gb365 hg w8 hbox hb; have BK365 := A0_ (hbox); have GW365 := A0_ ((by rw [hg]; exact (below_size (qm_ HB.out)) : w.heap.size ≤ gb365)); have GE365 := GW365; replace HB := hs_ hb; clear hb hbox hg; have hcz9 := bc3_ BK365.out; have hfz9 := bf3_ BK365.out) | (go_at_call 47; (with_reducible refine (cutplaneref03_Frac.calls a0 t366 _ A3.out).mono ?_); rintro e w' ⟨rfl, ⟨nd, rfl⟩⟩; (try first | exact ⟨rfl, _, World.drewN_drewN _ _ _⟩ | exact ⟨rfl, _, Eq.trans (World.drewN_drewN _ _ _) (congrArg (World.drewN _) (Nat.add_assoc _ _ _))⟩)) | (go_at_call 46; (with_reducible refine (cutplaneref03_Sign.calls a0 t367 _ A7.out).mono ?_); rintro e w' ⟨rfl, ⟨nd, rfl⟩⟩; (try first | exact ⟨rfl, _, World.drewN_drewN _ _ _⟩ | exact ⟨rfl, _, Eq.trans (World.drewN_drewN _ _ _) (congrArg (World.drewN _) (Nat.add_assoc _ _ _))⟩)))
  repeat (go_quiet (first | ((with_reducible refine gate_dst (N := 3) rfl ?_); refine box_event ?hg (N := 3) ?hd (cs := #[.bool true, .int .i64 a1_1, .int .u64 a1_2]) (t := 61) ?hr ?_; (case hd => rfl); (case hg => rfl); (case hr => first | (go_simp; done) | (go_simp; rfl)); intro gb365 hg w8 hbox hb; have BK365 := A0_ (hbox); have GW365 := A0_ ((by rw [hg]; exact (below_size (qm_ HB.out)) : w.heap.size ≤ gb365)); have GE365 := GW365; replace HB := hs_ hb; clear hb hbox hg; have hcz9 := bc3_ BK365.out; have hfz9 := bf3_ BK365.out) | (go_at_call 47; (with_reducible refine (cutplaneref03_Frac.calls a0 t366 _ A3.out).mono ?_); rintro e w' ⟨rfl, ⟨nd, rfl⟩⟩; (try first | exact ⟨rfl, _, World.drewN_drewN _ _ _⟩ | exact ⟨rfl, _, Eq.trans (World.drewN_drewN _ _ _) (congrArg (World.drewN _) (Nat.add_assoc _ _ _))⟩)) | (go_at_call 46; (with_reducible refine (cutplaneref03_Sign.calls a0 t367 _ A7.out).mono ?_); rintro e w' ⟨rfl, ⟨nd, rfl⟩⟩; (try first | exact ⟨rfl, _, World.drewN_drewN _ _ _⟩ | exact ⟨rfl, _, Eq.trans (World.drewN_drewN _ _ _) (congrArg (World.drewN _) (Nat.add_assoc _ _ _))⟩))); try go_wp2_with (first | ((with_reducible refine gate_dst (N := 3) rfl ?_); refine box_event ?hg (N := 3) ?hd (cs := #[.bool true, .int .i64 a1_1, .int .u64 a1_2]) (t := 61) ?hr ?_; (case hd => rfl); (case hg => rfl); (case hr => first | (go_simp; done) | (go_simp; rfl)); intro gb365 hg w8 hbox hb; have BK365 := A0_ (hbox); have GW365 := A0_ ((by rw [hg]; exact (below_size (qm_ HB.out)) : w.heap.size ≤ gb365)); have GE365 := GW365; replace HB := hs_ hb; clear hb hbox hg; have hcz9 := bc3_ BK365.out; have hfz9 := bf3_ BK365.out) | (go_at_call 47; (with_reducible refine (cutplaneref03_Frac.calls a0 t366 _ A3.out).mono ?_); rintro e w' ⟨rfl, ⟨nd, rfl⟩⟩; (try first | exact ⟨rfl, _, World.drewN_drewN _ _ _⟩ | exact ⟨rfl, _, Eq.trans (World.drewN_drewN _ _ _) (congrArg (World.drewN _) (Nat.add_assoc _ _ _))⟩)) | (go_at_call 46; (with_reducible refine (cutplaneref03_Sign.calls a0 t367 _ A7.out).mono ?_); rintro e w' ⟨rfl, ⟨nd, rfl⟩⟩; (try first | exact ⟨rfl, _, World.drewN_drewN _ _ _⟩ | exact ⟨rfl, _, Eq.trans (World.drewN_drewN _ _ _) (congrArg (World.drewN _) (Nat.add_assoc _ _ _))⟩))))
  go_ret
  exact ⟨by first | rfl | (simp [errW_none, errW_some] <;> rfl) | (simp only [← hji5]; first | rfl | (simp [errW_none, errW_some] <;> rfl)) | (simp [*, errW_none, errW_some] <;> rfl), qz_⟩
 ·replace c6 := Bool.eq_false_iff.mpr c6
  subst c6
  rw [if_neg (show ¬ (false = true) by decide)] at H
  obtain rfl := Option.some.inj H
  go_enter Tryz.func44, Tryz.ntmps44
  go_wp2_with (first | ((with_reducible refine gate_dst (N := 3) rfl ?_); refine box_event ?hg (N := 3) ?hd (cs := #[.bool false, .int .i64 a1_1, .int .u64 a1_2]) (t := 61) ?hr ?_; (case hd => rfl); (case hg => rfl); (case hr => first | (go_simp; done) | (go_simp; rfl)); intro gb365 hg w10 hbox hb; have BK365 := A0_ (hbox); have GW365 := A0_ ((by rw [hg]; exact (below_size (qm_ HB.out)) : w.heap.size ≤ gb365)); have GE365 := GW365; replace HB := hs_ hb; clear hb hbox hg; have hcz11 := bc3_ BK365.out; have hfz11 := bf3_ BK365.out) | (go_at_call 47; (with_reducible refine (cutplaneref03_Frac.calls a0 t366 _ A3.out).mono ?_); rintro e w' ⟨rfl, ⟨nd, rfl⟩⟩; (try first | exact ⟨rfl, _, World.drewN_drewN _ _ _⟩ | exact ⟨rfl, _, Eq.trans (World.drewN_drewN _ _ _) (congrArg (World.drewN _) (Nat.add_assoc _ _ _))⟩)))
  repeat (go_quiet (first | ((with_reducible refine gate_dst (N := 3) rfl ?_); refine box_event ?hg (N := 3) ?hd (cs := #[.bool false, .int .i64 a1_1, .int .u64 a1_2]) (t := 61) ?hr ?_; (case hd => rfl); (case hg => rfl); (case hr => first | (go_simp; done) | (go_simp; rfl)); intro gb365 hg w10 hbox hb; have BK365 := A0_ (hbox); have GW365 := A0_ ((by rw [hg]; exact (below_size (qm_ HB.out)) : w.heap.size ≤ gb365)); have GE365 := GW365; replace HB := hs_ hb; clear hb hbox hg; have hcz11 := bc3_ BK365.out; have hfz11 := bf3_ BK365.out) | (go_at_call 47; (with_reducible refine (cutplaneref03_Frac.calls a0 t366 _ A3.out).mono ?_); rintro e w' ⟨rfl, ⟨nd, rfl⟩⟩; (try first | exact ⟨rfl, _, World.drewN_drewN _ _ _⟩ | exact ⟨rfl, _, Eq.trans (World.drewN_drewN _ _ _) (congrArg (World.drewN _) (Nat.add_assoc _ _ _))⟩))); try go_wp2_with (first | ((with_reducible refine gate_dst (N := 3) rfl ?_); refine box_event ?hg (N := 3) ?hd (cs := #[.bool false, .int .i64 a1_1, .int .u64 a1_2]) (t := 61) ?hr ?_; (case hd => rfl); (case hg => rfl); (case hr => first | (go_simp; done) | (go_simp; rfl)); intro gb365 hg w10 hbox hb; have BK365 := A0_ (hbox); have GW365 := A0_ ((by rw [hg]; exact (below_size (qm_ HB.out)) : w.heap.size ≤ gb365)); have GE365 := GW365; replace HB := hs_ hb; clear hb hbox hg; have hcz11 := bc3_ BK365.out; have hfz11 := bf3_ BK365.out) | (go_at_call 47; (with_reducible refine (cutplaneref03_Frac.calls a0 t366 _ A3.out).mono ?_); rintro e w' ⟨rfl, ⟨nd, rfl⟩⟩; (try first | exact ⟨rfl, _, World.drewN_drewN _ _ _⟩ | exact ⟨rfl, _, Eq.trans (World.drewN_drewN _ _ _) (congrArg (World.drewN _) (Nat.add_assoc _ _ _))⟩))))
  go_ret
  exact ⟨by first | rfl | (simp [errW_none, errW_some] <;> rfl) | (simp only [← hji5]; first | rfl | (simp [errW_none, errW_some] <;> rfl)) | (simp [*, errW_none, errW_some] <;> rfl), qz_⟩
def cutplaneref03_None.f (a0 : Int) : Option (Int) := (cutplaneref03_Most.f a0).bind fun t368 => ((cutplaneref03_Frac.f a0).bind fun t369 => (if 0 ≤ (wrap64 (t369 - 1)) then ((cutplaneref03_Join.f a0 false t368 (shl .u64 1 (wrap64 (t369 - 1)))).bind fun t370 => (some t370)) else (none)))
theorem cutplaneref03_None.calls (a0 : Int) (r : Int) (w : World) (h : cutplaneref03_None.f a0 = some r) :
  Calls Tryz.prog 42 #[.int .u8 a0] w fun e w' => e = .returned (.int .u64 r) ∧ Below w.heap.size w w' := by
 have hu61 := Tryz.underlying61
 have HB := A0_ (Below.refl w.heap.size w)
 have H := h
 clear h
 unfold cutplaneref03_None.f at H
 obtain ⟨t368, A2, H⟩ := bs_ H
 try dsimp -simprocs only at H
 obtain ⟨t369, A3, H⟩ := bs_ H
 try dsimp -simprocs only at H
 obtain ⟨ji4, hji4⟩ : ∃ j_ : Int, (wrap64 (t369 - 1)) = j_ := ⟨_, rfl⟩
 replace H : (if 0 ≤ (ji4) then ((cutplaneref03_Join.f a0 false t368 (shl .u64 1 (ji4))).bind fun t370 => (some t370)) else (none)) = some r := by first | (rw [hji4] at H; exact H) | (simp only [hji4] at H ⊢; exact H)
 (try rw [hji4] at A2)
 (try rw [hji4] at A3)
 have hji4w : (IntKind.i64.wrap (t369 - 1)) = ji4 := (i64_w _).trans hji4
 obtain ⟨c5, H⟩ := ic_ H
 have c5b0 := eq_true c5
 have c5b1 : decide (0 ≤ (ji4)) = true := decide_eq_true c5
 clear c5
 obtain ⟨ji6, hji6⟩ : ∃ j_ : Int, (shl .u64 1 (ji4)) = j_ := ⟨_, rfl⟩
 replace H : ((cutplaneref03_Join.f a0 false t368 (ji6)).bind fun t370 => (some t370)) = some r := by first | (rw [hji6] at H; exact H) | (simp only [hji6] at H ⊢; exact H)
 (try rw [hji6] at A2)
 (try rw [hji6] at A3)
 have hji6_ : (IntKind.u64.wrap (1 * 2 ^ min (ji4).toNat 64)) = ji6 := hji6
 have hji6z : (ji4) ≤ 64 → (IntKind.u64.wrap (1 * 2 ^ (ji4).toNat)) = ji6 := shl_small hji6
 have hji6u : (IntKind.u64.wrap (2 ^ min (ji4).toNat 64)) = ji6 := by have h_ := hji6_; rw [Int.one_mul] at h_; exact h_
 have hji6v : (ji4) ≤ 64 → (IntKind.u64.wrap (2 ^ (ji4).toNat)) = ji6 := fun hle_ => by have h_ := hji6z hle_; rw [Int.one_mul] at h_; exact h_
 obtain ⟨t370, A7, H⟩ := bs_ H
 try dsimp -simprocs only at H
 obtain rfl := Option.some.inj H
 go_enter Tryz.func42, Tryz.ntmps42
 go_wp2_with (first | ((with_reducible refine gate_callee (f := 45) rfl ?_); refine goesL_ (some 5) rfl rfl Tryz.func45 (by kernel_rfl) rfl #[.int .u8 a0] rfl (am_ rfl) ?_; (with_reducible refine (cutplaneref03_Most.calls a0 t368 _ A2.out).mono ?_); rintro e w' ⟨rfl, ⟨nd, rfl⟩⟩; refine ⟨_, rfl, ?_⟩) | ((with_reducible refine gate_callee (f := 47) rfl ?_); refine goesL_ (some 7) rfl rfl Tryz.func47 (by kernel_rfl) rfl #[.int .u8 a0] rfl (am_ rfl) ?_; (with_reducible refine (cutplaneref03_Frac.calls a0 t369 _ A3.out).mono ?_); rintro e w' ⟨rfl, ⟨nd, rfl⟩⟩; refine ⟨_, rfl, ?_⟩) | ((with_reducible refine gate_callee (f := 44) rfl ?_); refine goesL_ (some 11) rfl rfl Tryz.func44 (by kernel_rfl) rfl #[.int .u8 a0, .agg #[.bool false, .int .i64 t368, .int .u64 ji6]] rfl (by (try simp only [List.map_toArray, List.map_cons, List.map_nil]); first | done | (simp only [hji6]; rfl) | rfl | (simp only [List.length_drop, List.length_take]; rfl)) ?_; (with_reducible refine (cutplaneref03_Join.calls a0 false t368 ji6 t370 _ A7.out).mono ?_); rintro e w8 ⟨rfl, hb⟩; refine ⟨_, rfl, ?_⟩; replace HB := hs_ hb; (try clear hb)))
 go_ret
 exact ⟨by first | rfl | (simp [errW_none, errW_some] <;> rfl) | (simp only [← hji4, ← hji6]; first | rfl | (simp [errW_none, errW_some] <;> rfl)) | (simp [*, errW_none, errW_some] <;> rfl), qm_ HB.out⟩
def cutplaneref11_nothing.f (a0 : Int) (a1 : Int) : Option (Int × Int × Int × Int) := (cutplaneref03_None.f a0).bind fun t372 => ((cutplaneref03_None.f a0).bind fun t373 => (some (t372, t373, a1, a1)))
theorem cutplaneref11_nothing.calls (a0 : Int) (a1 : Int) (r1 : Int) (r2 : Int) (r3 : Int) (r4 : Int) (w : World) (h : cutplaneref11_nothing.f a0 a1 = some (r1, r2, r3, r4)) :
  Calls Tryz.prog 20 #[.int .u8 a0, .int .u8 a1] w fun e w' => e = .returned (.agg #[.int .u64 r1, .int .u64 r2, .int .u8 r3, .int .u8 r4]) ∧ Below w.heap.size w w' := by
 have hu29 := Tryz.underlying29
 have hu26 := Tryz.underlying26
 have HB := A0_ (Below.refl w.heap.size w)
 have H := h
 clear h
 unfold cutplaneref11_nothing.f at H
 obtain ⟨t372, A3, H⟩ := bs_ H
 try dsimp -simprocs only at H
 obtain ⟨t373, A4, H⟩ := bs_ H
 try dsimp -simprocs only at H
 simp only [Option.some.injEq, Prod.mk.injEq] at H
 obtain ⟨rfl, rfl, rfl, rfl⟩ := H
 go_enter Tryz.func20, Tryz.ntmps20
 go_wp2_with (first | ((with_reducible refine gate_dst (N := 4) rfl ?_); refine box_event ?hg (N := 4) ?hd (cs := #[.int .u64 0, .int .u64 0, .int .u8 0, .int .u8 0]) (t := 29) ?hr ?_; (case hd => rfl); (case hg => rfl); (case hr => first | (go_simp; done) | (go_simp; rfl)); intro gb371 hg w5 hbox hb; have BK371 := A0_ (hbox); have GW371 := A0_ ((by rw [hg]; exact (below_size (qm_ HB.out)) : w.heap.size ≤ gb371)); have GE371 := GW371; replace HB := hs_ hb; clear hb hbox hg) | ((with_reducible refine gate_callee (f := 42) rfl ?_); refine goesL_ (some 6) rfl rfl Tryz.func42 (by kernel_rfl) rfl #[.int .u8 a0] rfl (am_ rfl) ?_; (with_reducible refine (cutplaneref03_None.calls a0 t372 _ A3.out).mono ?_); rintro e w6 ⟨rfl, hb⟩; refine ⟨_, rfl, ?_⟩; replace BK371 := bb_ BK371 hb; replace HB := hs_ hb; (try clear hb)) | ((with_reducible refine gate_callee (f := 42) rfl ?_); refine goesL_ (some 8) rfl rfl Tryz.func42 (by kernel_rfl) rfl #[.int .u8 a0] rfl (am_ rfl) ?_; (with_reducible refine (cutplaneref03_None.calls a0 t373 _ A4.out).mono ?_); rintro e w7 ⟨rfl, hb⟩; refine ⟨_, rfl, ?_⟩; replace BK371 := bb_ BK371 hb; replace HB := hs_ hb; (try clear hb); have hcz8 := bc4_ BK371.out; have hfz8 := bf4_ BK371.out))
 refine bodyPost_ret (results_cell_row rfl _ _ gb371 29 #[.int .u64 t372, .int .u64 t373, .int .u8 a1, .int .u8 a1] (0, 0) _ rfl (by (with_reducible repeat first | apply bN_ | apply bD_ | apply bA_); refine blk_put (cs := #[.int .u64 t372, .int .u64 t373, .int .u8 a1, .int .u8 0]) ?_ 3 _ rfl; refine blk_put (cs := #[.int .u64 t372, .int .u64 t373, .int .u8 0, .int .u8 0]) ?_ 2 _ rfl; refine blk_put (cs := #[.int .u64 t372, .int .u64 0, .int .u8 0, .int .u8 0]) ?_ 1 _ rfl; refine blk_put (cs := #[.int .u64 0, .int .u64 0, .int .u8 0, .int .u8 0]) ?_ 0 _ rfl; exact bm_ BK371.out) Tryz.underlying29 rfl (by kernel_rfl)) rfl ?_
 exact ⟨by first | rfl | (simp [errW_none, errW_some] <;> rfl) | (simp [*, errW_none, errW_some] <;> rfl), qz_⟩
def cutplaneref11_One.f (a0 : Int) (a1 : Bool) : Option (Int) := (cutplaneref03_Most.f a0).bind fun t374 => ((cutplaneref03_Join.f a0 a1 (wrap64 (Int.tdiv t374 2)) 0).bind fun t375 => (some t375))
theorem cutplaneref11_One.calls (a0 : Int) (a1 : Bool) (r : Int) (w : World) (h : cutplaneref11_One.f a0 a1 = some r) :
  Calls Tryz.prog 22 #[.int .u8 a0, .bool a1] w fun e w' => e = .returned (.int .u64 r) ∧ Below w.heap.size w w' := by
 have hu61 := Tryz.underlying61
 have HB := A0_ (Below.refl w.heap.size w)
 have H := h
 clear h
 unfold cutplaneref11_One.f at H
 obtain ⟨t374, A3, H⟩ := bs_ H
 try dsimp -simprocs only at H
 obtain ⟨t375, A4, H⟩ := bs_ H
 try dsimp -simprocs only at H
 obtain rfl := Option.some.inj H
 go_enter Tryz.func22, Tryz.ntmps22
 go_wp2_with (first | ((with_reducible refine gate_callee (f := 45) rfl ?_); refine goesL_ (some 8) rfl rfl Tryz.func45 (by kernel_rfl) rfl #[.int .u8 a0] rfl (am_ rfl) ?_; (with_reducible refine (cutplaneref03_Most.calls a0 t374 _ A3.out).mono ?_); rintro e w' ⟨rfl, ⟨nd, rfl⟩⟩; refine ⟨_, rfl, ?_⟩) | ((with_reducible refine gate_callee (f := 44) rfl ?_); refine goesL_ (some 11) rfl rfl Tryz.func44 (by kernel_rfl) rfl #[.int .u8 a0, .agg #[.bool a1, .int .i64 (wrap64 (Int.tdiv t374 2)), .int .u64 0]] rfl (am_ rfl) ?_; (with_reducible refine (cutplaneref03_Join.calls a0 a1 (wrap64 (Int.tdiv t374 2)) 0 t375 _ A4.out).mono ?_); rintro e w5 ⟨rfl, hb⟩; refine ⟨_, rfl, ?_⟩; replace HB := hs_ hb; (try clear hb)))
 go_ret
 exact ⟨by first | rfl | (simp [errW_none, errW_some] <;> rfl) | (simp [*, errW_none, errW_some] <;> rfl), qm_ HB.out⟩
end Go.Proofs.YtlgapmhjaaajfaaGreat.PA
end

section
namespace Go.Proofs.YtlgapmhjaaajfaaGreat.PA
open Go.RowKit Go.Proofs.YtlgapmhjaaajfaaGreatW.PrintWords Go.Proofs.YtlgapmhjaaajfaaGreatW.PrintLast Go.Proofs.YtlgapmhjaaajfaaGreatW.PrintMore
attribute [local go_sem] max2_int min2_int max_two min_two max_three min_three max_four min_four   -- for this text's walks alone
set_option linter.unusedVariables false
set_option linter.unusedSimpArgs false
def cutplaneref03_Signed.f (a0 : Int) (a1 : Int) (a2 : Bool) : Option (Int) := (cutplaneref03_Sign.f a0).bind fun t376 => (if t376 = 0 then (none) else (if a2 = true then ((cutplaneref03_Sign.f a0).bind fun t377 => (some (IntKind.u64.wrap ((Int.tmod a1 t376) + t377)))) else (some (Int.tmod a1 t376))))
theorem cutplaneref03_Signed.calls (a0 : Int) (a1 : Int) (a2 : Bool) (r : Int) (w : World) (h : cutplaneref03_Signed.f a0 a1 a2 = some r) :
  Calls Tryz.prog 53 #[.int .u8 a0, .int .u64 a1, .bool a2] w fun e w' => e = .returned (.int .u64 r) ∧ Drawn0 w w' := by
 have H := h
 clear h
 unfold cutplaneref03_Signed.f at H
 obtain ⟨t376, A4, H⟩ := bs_ H
 try dsimp -simprocs only at H
 obtain ⟨c5, H⟩ := id_ H
 have c5b0 : (t376 == 0) = false := beq_eq_false_iff_ne.mpr c5
 have c5b1 : (t376 != 0) = true := bne_iff_ne.mpr c5
 by_cases c6 : a2 = true
 ·subst c6
  rw [if_pos rfl] at H
  obtain ⟨t377, A7, H⟩ := bs_ H
  try dsimp -simprocs only at H
  obtain rfl := Option.some.inj H
  go_enter Tryz.func53, Tryz.ntmps53
  go_wp2_with (first | ((with_reducible refine gate_callee (f := 46) rfl ?_); refine goesL_ (some 9) rfl rfl Tryz.func46 (by kernel_rfl) rfl #[.int .u8 a0] rfl (am_ rfl) ?_; (with_reducible refine (cutplaneref03_Sign.calls a0 t376 _ A4.out).mono ?_); rintro e w' ⟨rfl, ⟨nd, rfl⟩⟩; refine ⟨_, rfl, ?_⟩) | ((with_reducible refine gate_callee (f := 46) rfl ?_); refine goesL_ (some 14) rfl rfl Tryz.func46 (by kernel_rfl) rfl #[.int .u8 a0] rfl (am_ rfl) ?_; (with_reducible refine (cutplaneref03_Sign.calls a0 t377 _ A7.out).mono ?_); rintro e w' ⟨rfl, ⟨nd, rfl⟩⟩; refine ⟨_, rfl, ?_⟩))
  go_ret
  exact ⟨by first | rfl | (simp; done) | (simp [*]; done), by repeat (first | exact Drawn0.refl _ | apply Drawn0.step)⟩
 ·replace c6 := Bool.eq_false_iff.mpr c6
  subst c6
  rw [if_neg (show ¬ (false = true) by decide)] at H
  obtain rfl := Option.some.inj H
  go_enter Tryz.func53, Tryz.ntmps53
  go_wp2_with (first | ((with_reducible refine gate_callee (f := 46) rfl ?_); refine goesL_ (some 9) rfl rfl Tryz.func46 (by kernel_rfl) rfl #[.int .u8 a0] rfl (am_ rfl) ?_; (with_reducible refine (cutplaneref03_Sign.calls a0 t376 _ A4.out).mono ?_); rintro e w' ⟨rfl, ⟨nd, rfl⟩⟩; refine ⟨_, rfl, ?_⟩))
  go_ret
  exact ⟨by first | rfl | (simp; done) | (simp [*]; done), by repeat (first | exact Drawn0.refl _ | apply Drawn0.step)⟩
def cutplaneref11_box.j0 : Nat → Int → Bool → Bool → Option (Int)
 | 0, _, _, _ => none
 | k + 1, x0, x2, x7 => if x2 = true then ((cutplaneref11_One.f x0 x7).bind fun t382 => (some t382)) else ((cutplaneref03_Signed.f x0 0 x7).bind fun t383 => (some t383))
def cutplaneref11_box.f (k : Nat) (a0 : Int) (a1 : Int) (a2 : Bool) : Option (Int) := (cutplaneref03_Class.f k a0 a1).bind fun t378 => (if t378 = 5 then (cutplaneref11_box.j0 k a0 a2 false) else ((cutplaneref03_Split.f a0 a1).bind fun bt379 => (cutplaneref11_box.j0 k a0 a2 bt379.1)))
theorem cutplaneref11_box.calls (k : Nat) (a0 : Int) (a1 : Int) (a2 : Bool) (r : Int) (w : World) (h : cutplaneref11_box.f k a0 a1 a2 = some r) :
  Calls Tryz.prog 43 #[.int .u8 a0, .int .u64 a1, .bool a2] w fun e w' => e = .returned (.int .u64 r) ∧ Below w.heap.size w w' := by
 have hfd61_0 : ∀ (v0_ v1_ v2_ : Value) (w : World), (Instr.field 61 (.agg #[v0_, v1_, v2_]) 0).run Tryz.prog w = .ok v0_ w := fun _ _ _ _ => by kernel_rfl
 have HB := A0_ (Below.refl w.heap.size w)
 have H := h
 clear h
 unfold cutplaneref11_box.f at H
 have HC4 := A0_ H
 clear H
 go_enter Tryz.func43, Tryz.ntmps43
 go_upto_region 1 with (fail)
 go_cut [7] (fun v7 wc => ∃ (kq : Nat) (x7_3 : Bool), v7 = .bool x7_3 ∧ Aside0 (cutplaneref11_box.j0 kq a0 a2 x7_3 = some r) ∧ Aside0 (kq ≤ k) ∧ Aside0 (Below w.heap.size w wc))
 case first =>
  have H := HC4.out
  clear HC4
  obtain ⟨t378, A5, H⟩ := bs_ H
  try dsimp -simprocs only at H
  by_cases c6 : t378 = 5
  ·rw [if_pos c6] at H
   have c6b0 : (t378 == 5) = true := beq_iff_eq.mpr c6
   have c6b1 : (t378 != 5) = false := bne_eq_false_iff_eq.mpr c6
   clear c6
   (first | rw [c6b0] | (simp only [i64_w, i32_w]; rw [c6b0]) | skip)
   have H' := A0_ H
   clear H
   go_wp2_with (first | ((with_reducible refine gate_callee (f := 40) rfl ?_); refine goesL_ (some 10) rfl rfl Tryz.func40 (by kernel_rfl) rfl #[.int .u8 a0, .int .u64 a1] rfl (am_ rfl) ?_; (with_reducible refine (cutplaneref03_Class.calls k a0 a1 t378 _ A5.out).mono ?_); rintro e w7 ⟨rfl, hb⟩; refine ⟨_, rfl, ?_⟩; replace HB := hs_ hb; (try clear hb)))
   go_meet
   case rel => exact ⟨_, (false), (by first | rfl | (simp; done) | (simp [*]; done)), H', ⟨by first | omega | exact Nat.le_refl _⟩, ⟨qm_ HB.out⟩⟩
  ·rw [if_neg c6] at H
   have c6b0 : (t378 == 5) = false := beq_eq_false_iff_ne.mpr c6
   have c6b1 : (t378 != 5) = true := bne_iff_ne.mpr c6
   (first | rw [c6b0] | (simp only [i64_w, i32_w]; rw [c6b0]) | skip)
   obtain ⟨⟨t379, t380, t381⟩, A8, H⟩ := bs_ H
   try dsimp -simprocs only at H
   have H' := A0_ H
   clear H
   go_wp2_with (first | ((with_reducible refine gate_callee (f := 40) rfl ?_); refine goesL_ (some 10) rfl rfl Tryz.func40 (by kernel_rfl) rfl #[.int .u8 a0, .int .u64 a1] rfl (am_ rfl) ?_; (with_reducible refine (cutplaneref03_Class.calls k a0 a1 t378 _ A5.out).mono ?_); rintro e w9 ⟨rfl, hb⟩; refine ⟨_, rfl, ?_⟩; replace HB := hs_ hb; (try clear hb)) | (go_at_call 23; (with_reducible refine (cutplaneref03_Split.calls a0 a1 t379 t380 t381 _ A8.out).mono ?_); rintro e w10 ⟨rfl, hb⟩; replace HB := hs_ hb; (try clear hb)))
   go_meet
   case rel => exact ⟨_, (t379), (by first | rfl | (simp; done) | (simp [*]; done)), H', ⟨by first | omega | exact Nat.le_refl _⟩, ⟨qm_ HB.out⟩⟩
 case rest =>
  clear HC4
  try clear p2
  try clear c4
  try clear c6
  try clear c6b0
  try clear c6b1
  obtain ⟨kq, x7_3, rfl, HA, HJ3, HB⟩ := hcut
  cases kq with
  | zero => exact absurd HA.out (by simp [cutplaneref11_box.j0])
  | succ kj3 =>
   have H := HA.out
   clear HA
   simp only [cutplaneref11_box.j0] at H
   by_cases c11 : a2 = true
   ·subst c11
    rw [if_pos rfl] at H
    obtain ⟨t382, A12, H⟩ := bs_ H
    try dsimp -simprocs only at H
    obtain rfl := Option.some.inj H
    go_wp2_with (first | ((with_reducible refine gate_callee (f := 22) rfl ?_); refine goesL_ (some 21) rfl rfl Tryz.func22 (by kernel_rfl) rfl #[.int .u8 a0, .bool x7_3] rfl (am_ rfl) ?_; (with_reducible refine (cutplaneref11_One.calls a0 x7_3 t382 _ A12.out).mono ?_); rintro e w13 ⟨rfl, hb⟩; refine ⟨_, rfl, ?_⟩; replace HB := hs_ hb; (try clear hb)))
    go_ret
    exact ⟨by first | rfl | (simp [errW_none, errW_some] <;> rfl) | (simp [*, errW_none, errW_some] <;> rfl), qm_ HB.out⟩
   ·replace c11 := Bool.eq_false_iff.mpr c11
    subst c11
    rw [if_neg (show ¬ (false = true) by decide)] at H
    obtain ⟨t383, A14, H⟩ := bs_ H
    try dsimp -simprocs only at H
    obtain rfl := Option.some.inj H
    go_wp2_with (first | ((with_reducible refine gate_callee (f := 53) rfl ?_); refine goesL_ (some 24) rfl rfl Tryz.func53 (by kernel_rfl) rfl #[.int .u8 a0, .int .u64 0, .bool x7_3] rfl (am_ rfl) ?_; (with_reducible refine (cutplaneref03_Signed.calls a0 0 x7_3 t383 _ A14.out).mono ?_); rintro e w' ⟨rfl, ⟨nd, rfl⟩⟩; refine ⟨_, rfl, ?_⟩))
    go_ret
    exact ⟨by first | rfl | (simp [errW_none, errW_some] <;> rfl) | (simp [*, errW_none, errW_some] <;> rfl), qm_ HB.out⟩
end Go.Proofs.YtlgapmhjaaajfaaGreat.PA
end

section
namespace Go.Proofs.YtlgapmhjaaajfaaGreat.PA
open Go.RowKit Go.Proofs.YtlgapmhjaaajfaaGreatW.PrintWords Go.Proofs.YtlgapmhjaaajfaaGreatW.PrintLast Go.Proofs.YtlgapmhjaaajfaaGreatW.PrintMore
attribute [local go_sem] max2_int min2_int max_two min_two max_three min_three max_four min_four   -- for this text's walks alone
set_option linter.unusedVariables false
set_option linter.unusedSimpArgs false
def cutplaneref11_Box.f (k : Nat) (a0 : Int) (a1_0 : Int) (a1_1 : Int) : Option (Int × Int) := (cutplaneref10_Class.f k a0 a1_0 a1_1).bind fun t386 => (if t386 = 3 then ((cutplaneref03_Class.f k a0 a1_0).bind fun t387 => ((cutplaneref11_box.f k a0 a1_0 (t387 == 4)).bind fun t388 => ((cutplaneref03_Class.f k a0 a1_1).bind fun t389 => ((cutplaneref11_box.f k a0 a1_1 (t389 == 4)).bind fun t390 => (some (t388, t390)))))) else ((cutplaneref03_Class.f k a0 a1_0).bind fun t391 => ((cutplaneref11_box.f k a0 a1_0 (t391 != 1)).bind fun t392 => ((cutplaneref03_Class.f k a0 a1_1).bind fun t393 => ((cutplaneref11_box.f k a0 a1_1 (t393 != 1)).bind fun t394 => (some (t392, t394)))))))
def cutplaneref11_Box.T2 : Bool × List (List Nat × List Nat) := (true, [([], []), ([], []), ([1], [1]), ([], []), ([], []), ([4], [4]), ([3, 5], [3, 5]), ([6], [6]), ([0, 2, 7, 6], [0, 2, 7]), ([], []), ([], []), ([10], [10]), ([], []), ([], []), ([13], [13]), ([12, 14, 8], [12, 14]), ([15], [15]), ([9, 11, 16, 15], [9, 11, 16]), ([8, 17], [8, 17]), ([18, 17, 0, 1, 2, 3, 4, 5, 6, 7, 8, 9, 10, 11, 12, 13, 14, 15, 16, 17, 18], [18])])
def cutplaneref11_Box.B2 : List Nat := [0, 0, 2, 0, 0, 16, 56, 120, 255, 0, 0, 1024, 0, 0, 8192, 29183, 61951, 131071, 262143, 524287]
theorem cutplaneref11_Box.tab2 : rtab .any (opsOf Tryz.f21 2) = cutplaneref11_Box.T2 := by kernel_rfl
theorem cutplaneref11_Box.bits2 : waitsOk cutplaneref11_Box.T2.2 cutplaneref11_Box.B2 = true := by kernel_rfl
def cutplaneref11_Box.T3 : Bool × List (List Nat × List Nat) := (true, [([], []), ([], []), ([1], [1]), ([], []), ([], []), ([4], [4]), ([3, 5], [3, 5]), ([6], [6]), ([0, 2, 7, 6], [0, 2, 7]), ([], []), ([], []), ([10], [10]), ([], []), ([], []), ([13], [13]), ([12, 14, 8], [12, 14]), ([15], [15]), ([9, 11, 16, 15], [9, 11, 16]), ([8, 17], [8, 17]), ([18, 17, 0, 1, 2, 3, 4, 5, 6, 7, 8, 9, 10, 11, 12, 13, 14, 15, 16, 17, 18], [18])])
def cutplaneref11_Box.B3 : List Nat := [0, 0, 2, 0, 0, 16, 56, 120, 255, 0, 0, 1024, 0, 0, 8192, 29183, 61951, 131071, 262143, 524287]
theorem cutplaneref11_Box.tab3 : rtab .any (opsOf Tryz.f21 3) = cutplaneref11_Box.T3 := by kernel_rfl
theorem cutplaneref11_Box.bits3 : waitsOk cutplaneref11_Box.T3.2 cutplaneref11_Box.B3 = true := by kernel_rfl
theorem cutplaneref11_Box.calls (k : Nat) (a0 : Int) (a1_0 : Int) (a1_1 : Int) (r1 : Int) (r2 : Int) (w : World) (h : cutplaneref11_Box.f k a0 a1_0 a1_1 = some (r1, r2)) :
  Calls Tryz.prog 21 #[.int .u8 a0, .agg #[.int .u64 a1_0, .int .u64 a1_1]] w fun e w' => e = .returned (.agg #[.int .u64 r1, .int .u64 r2]) ∧ Below w.heap.size w w' := by
 have hu26 := Tryz.underlying26
 have HB := A0_ (Below.refl w.heap.size w)
 have H := h
 clear h
 unfold cutplaneref11_Box.f at H
 obtain ⟨t386, A3, H⟩ := bs_ H
 try dsimp -simprocs only at H
 by_cases c4 : t386 = 3
 ·rw [if_pos c4] at H
  have c4b0 : (t386 == 3) = true := beq_iff_eq.mpr c4
  have c4b1 : (t386 != 3) = false := bne_eq_false_iff_eq.mpr c4
  clear c4
  obtain ⟨t387, A5, H⟩ := bs_ H
  try dsimp -simprocs only at H
  obtain ⟨t388, A6, H⟩ := bs_ H
  try dsimp -simprocs only at H
  obtain ⟨t389, A7, H⟩ := bs_ H
  try dsimp -simprocs only at H
  obtain ⟨t390, A8, H⟩ := bs_ H
  try dsimp -simprocs only at H
  simp only [Option.some.injEq, Prod.mk.injEq] at H
  obtain ⟨rfl, rfl⟩ := H
  go_enter Tryz.func21, Tryz.ntmps21
  try go_wp2_with (first | ((with_reducible refine gate_dst (N := 3) rfl ?_); refine box_event ?hg (N := 3) ?hd (cs := #[.int .u64 a1_0, .int .u64 a1_1]) (t := 26) ?hr ?_; (case hd => rfl); (case hg => rfl); (case hr => first | (go_simp; done) | (go_simp; rfl)); intro gb384 hg w9 hbox hb; have BK384 := A0_ (hbox); have GW384 := A0_ ((by rw [hg]; exact (below_size (qm_ HB.out)) : w.heap.size ≤ gb384)); have GE384 := GW384; replace HB := hs_ hb; clear hb hbox hg) | ((with_reducible refine gate_dst (N := 4) rfl ?_); refine box_event ?hg (N := 4) ?hd (cs := #[.int .u64 0, .int .u64 0]) (t := 26) ?hr ?_; (case hd => rfl); (case hg => rfl); (case hr => first | (go_simp; done) | (go_simp; rfl)); intro gb385 hg w10 hbox hb; have BK385 := A0_ (hbox); have GW385 := A0_ ((by rw [hg]; exact (below_size qz_) : w.heap.size ≤ gb385)); have GE385 := GW385; replace HB := hs_ hb; have NB384_385 := nl_ hg BK384; have NB385_384 := ng_ hg BK384; replace BK384 := bb_ BK384 hb; clear hb hbox hg; have hnb11 := NB384_385.out; have hnc11 := NB385_384.out; have hcz12 := bc2_ BK384.out; have hfz12 := bf2_ BK384.out) | ((with_reducible refine gate_callee (f := 18) rfl ?_); refine goesL_ (some 7) rfl rfl Tryz.func18 (by kernel_rfl) rfl #[.int .u8 a0, .agg #[.int .u64 a1_0, .int .u64 a1_1]] rfl (am_ rfl) ?_; (with_reducible refine (cutplaneref10_Class.calls k a0 a1_0 a1_1 t386 _ A3.out).mono ?_); rintro e w13 ⟨rfl, hb⟩; refine ⟨_, rfl, ?_⟩; replace BK384 := bb_ BK384 hb; replace BK385 := bb_ BK385 hb; replace HB := hs_ hb; (try clear hb)))
  replace BK384 := A0_ (blk_drew BK384.out)
  replace BK385 := A0_ (blk_drew BK385.out)
  replace HB := A0_ (below_drew1 HB.out)
  refine start_ (n := 20) (S := fun w' => w'.cell? ⟨gb384, 0, none⟩ = some (.int .u64 a1_0) ∧ w'.cell? ⟨gb384, 1, none⟩ = some (.int .u64 a1_1)) (ds := []) #[false, false, false, false, false, false, false, false, false, false, false, false, false, false, false, false, false, false, false, false] (by kernel_rfl) rfl rfl ⟨bC_ BK384.out 0, bC_ BK384.out 1⟩ (fun hHeld => ?_); refine with_tabW cutplaneref11_Box.tab2 cutplaneref11_Box.bits2 (fun HT_ HW_ => ?_)
  generalize w13.drew = w14 at BK384 BK385 HB hHeld ⊢
  refine pure_ (i := 0) (N := some 9) (v := ?_) (a' := ?_) #[true, false, false, false, false, false, false, false, false, false, false, false, false, false, false, false, false, false, false, false] rfl rfl (any_of HT_.out (by kernel_rfl)) (fun _ _ _ h => h) (Or.inl ⟨by rfl, ?_⟩) ?_ ?_
  rotate_left
  ·intro w'
   go_simp
   with_reducible rfl
  rotate_left
  ·simp only [Act.put, sp_, i64_w, i32_w]
   rfl
  refine pure_ (i := 1) (N := some 10) (v := ?_) (a' := ?_) #[true, true, false, false, false, false, false, false, false, false, false, false, false, false, false, false, false, false, false, false] rfl rfl (any_of HT_.out (by kernel_rfl)) (fun _ _ _ h => h) (Or.inl ⟨by rfl, ?_⟩) ?_ ?_
  rotate_left
  ·intro w'
   go_simp
   with_reducible rfl
  rotate_left
  ·simp only [Act.put, sp_, i64_w, i32_w]
   rfl
  refine pure_ (i := 3) (N := some 12) (v := ?_) (a' := ?_) #[true, true, false, true, false, false, false, false, false, false, false, false, false, false, false, false, false, false, false, false] rfl rfl (any_of HT_.out (by kernel_rfl)) (fun _ _ _ h => h) (Or.inl ⟨by rfl, ?_⟩) ?_ ?_
  rotate_left
  ·intro w'
   go_simp
   with_reducible rfl
  rotate_left
  ·simp only [Act.put, sp_, i64_w, i32_w]
   rfl
  refine pure_ (i := 4) (N := some 13) (v := ?_) (a' := ?_) #[true, true, false, true, true, false, false, false, false, false, false, false, false, false, false, false, false, false, false, false] rfl rfl (any_of HT_.out (by kernel_rfl)) (fun _ _ _ h => h) (Or.inl ⟨by rfl, ?_⟩) ?_ ?_
  rotate_left
  ·intro w'
   go_simp
   with_reducible rfl
  rotate_left
  ·simp only [Act.put, sp_, i64_w, i32_w]
   rfl
  refine pure_ (i := 9) (N := some 18) (v := ?_) (a' := ?_) #[true, true, false, true, true, false, false, false, false, true, false, false, false, false, false, false, false, false, false, false] rfl rfl (any_of HT_.out (by kernel_rfl)) (fun _ _ _ h => h) (Or.inl ⟨by rfl, ?_⟩) ?_ ?_
  rotate_left
  ·intro w'
   go_simp
   with_reducible rfl
  rotate_left
  ·simp only [Act.put, sp_, i64_w, i32_w]
   rfl
  refine pure_ (i := 10) (N := some 19) (v := ?_) (a' := ?_) #[true, true, false, true, true, false, false, false, false, true, true, false, false, false, false, false, false, false, false, false] rfl rfl (any_of HT_.out (by kernel_rfl)) (fun _ _ _ h => h) (Or.inl ⟨by rfl, ?_⟩) ?_ ?_
  rotate_left
  ·intro w'
   go_simp
   with_reducible rfl
  rotate_left
  ·simp only [Act.put, sp_, i64_w, i32_w]
   rfl
  refine pure_ (i := 12) (N := some 21) (v := ?_) (a' := ?_) #[true, true, false, true, true, false, false, false, false, true, true, false, true, false, false, false, false, false, false, false] rfl rfl (any_of HT_.out (by kernel_rfl)) (fun _ _ _ h => h) (Or.inl ⟨by rfl, ?_⟩) ?_ ?_
  rotate_left
  ·intro w'
   go_simp
   with_reducible rfl
  rotate_left
  ·simp only [Act.put, sp_, i64_w, i32_w]
   rfl
  refine pure_ (i := 13) (N := some 22) (v := ?_) (a' := ?_) #[true, true, false, true, true, false, false, false, false, true, true, false, true, true, false, false, false, false, false, false] rfl rfl (any_of HT_.out (by kernel_rfl)) (fun _ _ _ h => h) (Or.inl ⟨by rfl, ?_⟩) ?_ ?_
  rotate_left
  ·intro w'
   go_simp
   with_reducible rfl
  rotate_left
  ·simp only [Act.put, sp_, i64_w, i32_w]
   rfl
  refine take_ (i := 2) (N := some 11) (v := ?_) (a' := ?_) #[true, true, true, true, true, false, false, false, false, true, true, false, true, true, false, false, false, false, false, false] rfl rfl (take_ofW HT_.out HW_.out (by kernel_rfl)) (fun _ _ _ h => h) (Or.inl ⟨by rfl, ?_⟩) hHeld ?_ ?_
  rotate_left
  ·rintro w' ⟨s0, s1⟩
   go_simp
   with_reducible rfl
  rotate_left
  ·simp only [Act.put, sp_, i64_w, i32_w]
   rfl
  refine take_ (i := 5) (N := some 14) (v := ?_) (a' := ?_) #[true, true, true, true, true, true, false, false, false, true, true, false, true, true, false, false, false, false, false, false] rfl rfl (take_ofW HT_.out HW_.out (by kernel_rfl)) (fun _ _ _ h => h) (Or.inl ⟨by rfl, ?_⟩) hHeld ?_ ?_
  rotate_left
  ·rintro w' ⟨s0, s1⟩
   go_simp
   with_reducible rfl
  rotate_left
  ·simp only [Act.put, sp_, i64_w, i32_w]
   rfl
  refine take_ (i := 11) (N := some 20) (v := ?_) (a' := ?_) #[true, true, true, true, true, true, false, false, false, true, true, true, true, true, false, false, false, false, false, false] rfl rfl (take_ofW HT_.out HW_.out (by kernel_rfl)) (fun _ _ _ h => h) (Or.inl ⟨by rfl, ?_⟩) hHeld ?_ ?_
  rotate_left
  ·rintro w' ⟨s0, s1⟩
   go_simp
   with_reducible rfl
  rotate_left
  ·simp only [Act.put, sp_, i64_w, i32_w]
   rfl
  refine take_ (i := 14) (N := some 23) (v := ?_) (a' := ?_) #[true, true, true, true, true, true, false, false, false, true, true, true, true, true, true, false, false, false, false, false] rfl rfl (take_ofW HT_.out HW_.out (by kernel_rfl)) (fun _ _ _ h => h) (Or.inl ⟨by rfl, ?_⟩) hHeld ?_ ?_
  rotate_left
  ·rintro w' ⟨s0, s1⟩
   go_simp
   with_reducible rfl
  rotate_left
  ·simp only [Act.put, sp_, i64_w, i32_w]
   rfl
  refine one_ (i := 6) (N := some 15) #[true, true, true, true, true, true, true, false, false, true, true, true, true, true, true, false, false, false, false, false] rfl rfl (one_of HT_.out (by kernel_rfl)) (by decide) (fun K hK => ?_)
  refine goes_ Tryz.func40 (by kernel_rfl) rfl #[.int .u8 a0, .int .u64 a1_0] (by rfl) rfl rfl (am_ rfl) ?_
  with_reducible refine (cutplaneref03_Class.calls k a0 a1_0 t387 _ A5.out).mono ?_
  rintro e w15 ⟨rfl, hb⟩
  refine ⟨_, rfl, ?_⟩
  replace BK384 := bb_ BK384 hb
  replace BK385 := bb_ BK385 hb
  replace HB := hs_ hb
  (try clear hb)
  refine hK.out _ _ ⟨bC_ BK384.out 0, bC_ BK384.out 1⟩ (fun hHeld => ?_)
  clear hK K
  refine norm_ (a' := ?_) ?_ ?_
  rotate_left
  ·show Act.put _ (some 15) _ = _
   simp only [Act.put, sp_, i64_w, i32_w]
   rfl
  refine pure_ (i := 7) (N := some 16) (v := ?_) (a' := ?_) #[true, true, true, true, true, true, true, true, false, true, true, true, true, true, true, false, false, false, false, false] rfl rfl (any_of HT_.out (by kernel_rfl)) (fun _ _ _ h => h) (Or.inl ⟨by rfl, ?_⟩) ?_ ?_
  rotate_left
  ·intro w'
   go_simp
   with_reducible rfl
  rotate_left
  ·simp only [Act.put, sp_, i64_w, i32_w]
   rfl
  refine one_ (i := 8) (N := some 17) #[true, true, true, true, true, true, true, true, true, true, true, true, true, true, true, false, false, false, false, false] rfl rfl (one_of HT_.out (by kernel_rfl)) (by decide) (fun K hK => ?_)
  refine goes_ Tryz.func43 (by kernel_rfl) rfl #[.int .u8 a0, .int .u64 a1_0, .bool (t387 == 4)] (by rfl) rfl rfl (am_ rfl) ?_
  with_reducible refine (cutplaneref11_box.calls k a0 a1_0 (t387 == 4) t388 _ A6.out).mono ?_
  rintro e w16 ⟨rfl, hb⟩
  refine ⟨_, rfl, ?_⟩
  replace BK384 := bb_ BK384 hb
  replace BK385 := bb_ BK385 hb
  replace HB := hs_ hb
  (try clear hb)
  refine hK.out _ _ ⟨bC_ BK384.out 0, bC_ BK384.out 1⟩ (fun hHeld => ?_)
  clear hK K
  refine norm_ (a' := ?_) ?_ ?_
  rotate_left
  ·show Act.put _ (some 17) _ = _
   simp only [Act.put, sp_, i64_w, i32_w]
   rfl
  refine one_ (i := 15) (N := some 24) #[true, true, true, true, true, true, true, true, true, true, true, true, true, true, true, true, false, false, false, false] rfl rfl (one_of HT_.out (by kernel_rfl)) (by decide) (fun K hK => ?_)
  refine goes_ Tryz.func40 (by kernel_rfl) rfl #[.int .u8 a0, .int .u64 a1_1] (by rfl) rfl rfl (am_ rfl) ?_
  with_reducible refine (cutplaneref03_Class.calls k a0 a1_1 t389 _ A7.out).mono ?_
  rintro e w17 ⟨rfl, hb⟩
  refine ⟨_, rfl, ?_⟩
  replace BK384 := bb_ BK384 hb
  replace BK385 := bb_ BK385 hb
  replace HB := hs_ hb
  (try clear hb)
  refine hK.out _ _ ⟨bC_ BK384.out 0, bC_ BK384.out 1⟩ (fun hHeld => ?_)
  clear hK K
  refine norm_ (a' := ?_) ?_ ?_
  rotate_left
  ·show Act.put _ (some 24) _ = _
   simp only [Act.put, sp_, i64_w, i32_w]
   rfl
  refine pure_ (i := 16) (N := some 25) (v := ?_) (a' := ?_) #[true, true, true, true, true, true, true, true, true, true, true, true, true, true, true, true, true, false, false, false] rfl rfl (any_of HT_.out (by kernel_rfl)) (fun _ _ _ h => h) (Or.inl ⟨by rfl, ?_⟩) ?_ ?_
  rotate_left
  ·intro w'
   go_simp
   with_reducible rfl
  rotate_left
  ·simp only [Act.put, sp_, i64_w, i32_w]
   rfl
  refine one_ (i := 17) (N := some 26) #[true, true, true, true, true, true, true, true, true, true, true, true, true, true, true, true, true, true, false, false] rfl rfl (one_of HT_.out (by kernel_rfl)) (by decide) (fun K hK => ?_)
  refine goes_ Tryz.func43 (by kernel_rfl) rfl #[.int .u8 a0, .int .u64 a1_1, .bool (t389 == 4)] (by rfl) rfl rfl (am_ rfl) ?_
  with_reducible refine (cutplaneref11_box.calls k a0 a1_1 (t389 == 4) t390 _ A8.out).mono ?_
  rintro e w18 ⟨rfl, hb⟩
  refine ⟨_, rfl, ?_⟩
  replace BK384 := bb_ BK384 hb
  replace BK385 := bb_ BK385 hb
  replace HB := hs_ hb
  (try clear hb)
  refine hK.out _ _ ⟨bC_ BK384.out 0, bC_ BK384.out 1⟩ (fun hHeld => ?_)
  clear hK K
  refine norm_ (a' := ?_) ?_ ?_
  rotate_left
  ·show Act.put _ (some 26) _ = _
   simp only [Act.put, sp_, i64_w, i32_w]
   rfl
  refine pure_ (i := 18) (N := some 27) (v := ?_) (a' := ?_) #[true, true, true, true, true, true, true, true, true, true, true, true, true, true, true, true, true, true, true, false] rfl rfl (any_of HT_.out (by kernel_rfl)) (fun _ _ _ h => h) (Or.inl ⟨by rfl, ?_⟩) ?_ ?_
  rotate_left
  ·intro w'
   go_simp
   with_reducible rfl
  rotate_left
  ·simp only [Act.put, sp_, i64_w, i32_w]
   rfl
  refine one_ (i := 19) (N := none) #[true, true, true, true, true, true, true, true, true, true, true, true, true, true, true, true, true, true, true, true] rfl rfl (one_of HT_.out (by kernel_rfl)) (by decide) (fun K hK => ?_)
  have hs19 : w18.cell? ⟨gb385, 0, none⟩ = some (.int .u64 0) := (blk_cell BK385.out 0).trans rfl
  have hfs19 := blk_frozen BK385.out 0
  have hns19_0 := NB384_385.out
  have hms19_0 := NB385_384.out
  have hs20 : w18.cell? ⟨gb385, 1, none⟩ = some (.int .u64 0) := (blk_cell BK385.out 1).trans rfl
  have hfs20 := blk_frozen BK385.out 1
  have hns20_0 := NB384_385.out
  have hms20_0 := NB385_384.out
  refine skip_ (w1 := ?_) (by rfl) rfl ?_ ?_
  rotate_left
  ·go_simp
   rfl
  refine hK.out _ _ ⟨((cell_far (p := ⟨gb385, _, none⟩) NB384_385.out _).trans (((cell_far (p := ⟨gb385, _, none⟩) NB384_385.out _).trans (hHeld.1)))), ((cell_far (p := ⟨gb385, _, none⟩) NB384_385.out _).trans (((cell_far (p := ⟨gb385, _, none⟩) NB384_385.out _).trans (hHeld.2))))⟩ (fun hHeld => ?_)
  clear hK K
  refine done_ (done_of HT_.out (by kernel_rfl)) ?_
  try go_wp2
  refine bodyPost_ret (results_cell_row rfl _ _ gb385 26 #[.int .u64 t388, .int .u64 t390] (0, 0) _ rfl (by (with_reducible repeat first | apply bN_ | apply bD_ | apply bA_); refine blk_put (cs := #[.int .u64 t388, .int .u64 0]) ?_ 1 _ rfl; refine blk_put (cs := #[.int .u64 0, .int .u64 0]) ?_ 0 _ rfl; exact bm_ BK385.out) Tryz.underlying26 rfl (by kernel_rfl)) rfl ?_
  exact ⟨by first | rfl | (simp [errW_none, errW_some] <;> rfl) | (simp [*, errW_none, errW_some] <;> rfl), qz_⟩
 ·rw [if_neg c4] at H
  have c4b0 : (t386 == 3) = false := beq_eq_false_iff_ne.mpr c4
  have c4b1 : (t386 != 3) = true := bne_iff_ne.mpr c4
  obtain ⟨t391, A21, H⟩ := bs_ H
  try dsimp -simprocs only at H
  obtain ⟨t392, A22, H⟩ := bs_ H
  try dsimp -simprocs only at H
  obtain ⟨t393, A23, H⟩ := bs_ H
  try dsimp -simprocs only at H
  obtain ⟨t394, A24, H⟩ := bs_ H
  try dsimp -simprocs only at H
  simp only [Option.some.injEq, Prod.mk.injEq] at H
  obtain ⟨rfl, rfl⟩ := H
  go_enter Tryz.func21, Tryz.ntmps21
  try go_wp2_with (first | ((with_reducible refine gate_dst (N := 3) rfl ?_); refine box_event ?hg (N := 3) ?hd (cs := #[.int .u64 a1_0, .int .u64 a1_1]) (t := 26) ?hr ?_; (case hd => rfl); (case hg => rfl); (case hr => first | (go_simp; done) | (go_simp; rfl)); intro gb384 hg w25 hbox hb; have BK384 := A0_ (hbox); have GW384 := A0_ ((by rw [hg]; exact (below_size (qm_ HB.out)) : w.heap.size ≤ gb384)); have GE384 := GW384; replace HB := hs_ hb; clear hb hbox hg) | ((with_reducible refine gate_dst (N := 4) rfl ?_); refine box_event ?hg (N := 4) ?hd (cs := #[.int .u64 0, .int .u64 0]) (t := 26) ?hr ?_; (case hd => rfl); (case hg => rfl); (case hr => first | (go_simp; done) | (go_simp; rfl)); intro gb385 hg w26 hbox hb; have BK385 := A0_ (hbox); have GW385 := A0_ ((by rw [hg]; exact (below_size qz_) : w.heap.size ≤ gb385)); have GE385 := GW385; replace HB := hs_ hb; have NB384_385 := nl_ hg BK384; have NB385_384 := ng_ hg BK384; replace BK384 := bb_ BK384 hb; clear hb hbox hg; have hnb27 := NB384_385.out; have hnc27 := NB385_384.out; have hcz28 := bc2_ BK384.out; have hfz28 := bf2_ BK384.out) | ((with_reducible refine gate_callee (f := 18) rfl ?_); refine goesL_ (some 7) rfl rfl Tryz.func18 (by kernel_rfl) rfl #[.int .u8 a0, .agg #[.int .u64 a1_0, .int .u64 a1_1]] rfl (am_ rfl) ?_; (with_reducible refine (cutplaneref10_Class.calls k a0 a1_0 a1_1 t386 _ A3.out).mono ?_); rintro e w29 ⟨rfl, hb⟩; refine ⟨_, rfl, ?_⟩; replace BK384 := bb_ BK384 hb; replace BK385 := bb_ BK385 hb; replace HB := hs_ hb; (try clear hb)))
  replace BK384 := A0_ (blk_drew BK384.out)
  replace BK385 := A0_ (blk_drew BK385.out)
  replace HB := A0_ (below_drew1 HB.out)
  refine start_ (n := 20) (S := fun w' => w'.cell? ⟨gb384, 0, none⟩ = some (.int .u64 a1_0) ∧ w'.cell? ⟨gb384, 1, none⟩ = some (.int .u64 a1_1)) (ds := []) #[false, false, false, false, false, false, false, false, false, false, false, false, false, false, false, false, false, false, false, false] (by kernel_rfl) rfl rfl ⟨bC_ BK384.out 0, bC_ BK384.out 1⟩ (fun hHeld => ?_); refine with_tabW cutplaneref11_Box.tab3 cutplaneref11_Box.bits3 (fun HT_ HW_ => ?_)
  generalize w29.drew = w30 at BK384 BK385 HB hHeld ⊢
  refine pure_ (i := 0) (N := some 28) (v := ?_) (a' := ?_) #[true, false, false, false, false, false, false, false, false, false, false, false, false, false, false, false, false, false, false, false] rfl rfl (any_of HT_.out (by kernel_rfl)) (fun _ _ _ h => h) (Or.inl ⟨by rfl, ?_⟩) ?_ ?_
  rotate_left
  ·intro w'
   go_simp
   with_reducible rfl
  rotate_left
  ·simp only [Act.put, sp_, i64_w, i32_w]
   rfl
  refine pure_ (i := 1) (N := some 29) (v := ?_) (a' := ?_) #[true, true, false, false, false, false, false, false, false, false, false, false, false, false, false, false, false, false, false, false] rfl rfl (any_of HT_.out (by kernel_rfl)) (fun _ _ _ h => h) (Or.inl ⟨by rfl, ?_⟩) ?_ ?_
  rotate_left
  ·intro w'
   go_simp
   with_reducible rfl
  rotate_left
  ·simp only [Act.put, sp_, i64_w, i32_w]
   rfl
  refine pure_ (i := 3) (N := some 31) (v := ?_) (a' := ?_) #[true, true, false, true, false, false, false, false, false, false, false, false, false, false, false, false, false, false, false, false] rfl rfl (any_of HT_.out (by kernel_rfl)) (fun _ _ _ h => h) (Or.inl ⟨by rfl, ?_⟩) ?_ ?_
  rotate_left
  ·intro w'
   go_simp
   with_reducible rfl
  rotate_left
  ·simp only [Act.put, sp_, i64_w, i32_w]
   rfl
  refine pure_ (i := 4) (N := some 32) (v := ?_) (a' := ?_) #[true, true, false, true, true, false, false, false, false, false, false, false, false, false, false, false, false, false, false, false] rfl rfl (any_of HT_.out (by kernel_rfl)) (fun _ _ _ h => h) (Or.inl ⟨by rfl, ?_⟩) ?_ ?_
  rotate_left
  ·intro w'
   go_simp
   with_reducible rfl
  rotate_left
  ·simp only [Act.put, sp_, i64_w, i32_w]
   rfl
  refine pure_ (i := 9) (N := some 37) (v := ?_) (a' := ?_) #[true, true, false, true, true, false, false, false, false, true, false, false, false, false, false, false, false, false, false, false] rfl rfl (any_of HT_.out (by kernel_rfl)) (fun _ _ _ h => h) (Or.inl ⟨by rfl, ?_⟩) ?_ ?_
  rotate_left
  ·intro w'
   go_simp
   with_reducible rfl
  rotate_left
  ·simp only [Act.put, sp_, i64_w, i32_w]
   rfl
  refine pure_ (i := 10) (N := some 38) (v := ?_) (a' := ?_) #[true, true, false, true, true, false, false, false, false, true, true, false, false, false, false, false, false, false, false, false] rfl rfl (any_of HT_.out (by kernel_rfl)) (fun _ _ _ h => h) (Or.inl ⟨by rfl, ?_⟩) ?_ ?_
  rotate_left
  ·intro w'
   go_simp
   with_reducible rfl
  rotate_left
  ·simp only [Act.put, sp_, i64_w, i32_w]
   rfl
  refine pure_ (i := 12) (N := some 40) (v := ?_) (a' := ?_) #[true, true, false, true, true, false, false, false, false, true, true, false, true, false, false, false, false, false, false, false] rfl rfl (any_of HT_.out (by kernel_rfl)) (fun _ _ _ h => h) (Or.inl ⟨by rfl, ?_⟩) ?_ ?_
  rotate_left
  ·intro w'
   go_simp
   with_reducible rfl
  rotate_left
  ·simp only [Act.put, sp_, i64_w, i32_w]
   rfl
  refine pure_ (i := 13) (N := some 41) (v := ?_) (a' := ?_) #[true, true, false, true, true, false, false, false, false, true, true, false, true, true, false, false, false, false, false, false] rfl rfl (any_of HT_.out (by kernel_rfl)) (fun _ _ _ h => h) (Or.inl ⟨by rfl, ?_⟩) ?_ ?_
  rotate_left
  ·intro w'
   go_simp
   with_reducible rfl
  rotate_left
  ·simp only [Act.put, sp_, i64_w, i32_w]
   rfl
  refine take_ (i := 2) (N := some 30) (v := ?_) (a' := ?_) #[true, true, true, true, true, false, false, false, false, true, true, false, true, true, false, false, false, false, false, false] rfl rfl (take_ofW HT_.out HW_.out (by kernel_rfl)) (fun _ _ _ h => h) (Or.inl ⟨by rfl, ?_⟩) hHeld ?_ ?_
  rotate_left
  ·rintro w' ⟨s0, s1⟩
   go_simp
   with_reducible rfl
  rotate_left
  ·simp only [Act.put, sp_, i64_w, i32_w]
   rfl
  refine take_ (i := 5) (N := some 33) (v := ?_) (a' := ?_) #[true, true, true, true, true, true, false, false, false, true, true, false, true, true, false, false, false, false, false, false] rfl rfl (take_ofW HT_.out HW_.out (by kernel_rfl)) (fun _ _ _ h => h) (Or.inl ⟨by rfl, ?_⟩) hHeld ?_ ?_
  rotate_left
  ·rintro w' ⟨s0, s1⟩
   go_simp
   with_reducible rfl
  rotate_left
  ·simp only [Act.put, sp_, i64_w, i32_w]
   rfl
  refine take_ (i := 11) (N := some 39) (v := ?_) (a' := ?_) #[true, true, true, true, true, true, false, false, false, true, true, true, true, true, false, false, false, false, false, false] rfl rfl (take_ofW HT_.out HW_.out (by kernel_rfl)) (fun _ _ _ h => h) (Or.inl ⟨by rfl, ?_⟩) hHeld ?_ ?_
  rotate_left
  ·rintro w' ⟨s0, s1⟩
   go_simp
   with_reducible rfl
  rotate_left
  ·simp only [Act.put, sp_, i64_w, i32_w]
   rfl
  refine take_ (i := 14) (N := some 42) (v := ?_) (a' := ?_) #[true, true, true, true, true, true, false, false, false, true, true, true, true, true, true, false, false, false, false, false] rfl rfl (take_ofW HT_.out HW_.out (by kernel_rfl)) (fun _ _ _ h => h) (Or.inl ⟨by rfl, ?_⟩) hHeld ?_ ?_
  rotate_left
  ·rintro w' ⟨s0, s1⟩
   go_simp
   with_reducible rfl
  rotate_left
  ·simp only [Act.put, sp_, i64_w, i32_w]
   rfl
  refine one_ (i := 6) (N := some 34) #[true, true, true, true, true, true, true, false, false, true, true, true, true, true, true, false, false, false, false, false] rfl rfl (one_of HT_.out (by kernel_rfl)) (by decide) (fun K hK => ?_)
  refine goes_ Tryz.func40 (by kernel_rfl) rfl #[.int .u8 a0, .int .u64 a1_0] (by rfl) rfl rfl (am_ rfl) ?_
  with_reducible refine (cutplaneref03_Class.calls k a0 a1_0 t391 _ A21.out).mono ?_
  rintro e w31 ⟨rfl, hb⟩
  refine ⟨_, rfl, ?_⟩
  replace BK384 := bb_ BK384 hb
  replace BK385 := bb_ BK385 hb
  replace HB := hs_ hb
  (try clear hb)
  refine hK.out _ _ ⟨bC_ BK384.out 0, bC_ BK384.out 1⟩ (fun hHeld => ?_)
  clear hK K
  refine norm_ (a' := ?_) ?_ ?_
  rotate_left
  ·show Act.put _ (some 34) _ = _
   simp only [Act.put, sp_, i64_w, i32_w]
   rfl
  refine pure_ (i := 7) (N := some 35) (v := ?_) (a' := ?_) #[true, true, true, true, true, true, true, true, false, true, true, true, true, true, true, false, false, false, false, false] rfl rfl (any_of HT_.out (by kernel_rfl)) (fun _ _ _ h => h) (Or.inl ⟨by rfl, ?_⟩) ?_ ?_
  rotate_left
  ·intro w'
   go_simp
   with_reducible rfl
  rotate_left
  ·simp only [Act.put, sp_, i64_w, i32_w]
   rfl
  refine one_ (i := 8) (N := some 36) #[true, true, true, true, true, true, true, true, true, true, true, true, true, true, true, false, false, false, false, false] rfl rfl (one_of HT_.out (by kernel_rfl)) (by decide) (fun K hK => ?_)
  refine goes_ Tryz.func43 (by kernel_rfl) rfl #[.int .u8 a0, .int .u64 a1_0, .bool (t391 != 1)] (by rfl) rfl rfl (am_ rfl) ?_
  with_reducible refine (cutplaneref11_box.calls k a0 a1_0 (t391 != 1) t392 _ A22.out).mono ?_
  rintro e w32 ⟨rfl, hb⟩
  refine ⟨_, rfl, ?_⟩
  replace BK384 := bb_ BK384 hb
  replace BK385 := bb_ BK385 hb
  replace HB := hs_ hb
  (try clear hb)
  refine hK.out _ _ ⟨bC_ BK384.out 0, bC_ BK384.out 1⟩ (fun hHeld => ?_)
  clear hK K
  refine norm_ (a' := ?_) ?_ ?_
  rotate_left
  ·show Act.put _ (some 36) _ = _
   simp only [Act.put, sp_, i64_w, i32_w]
   rfl
  refine one_ (i := 15) (N := some 43) #[true, true, true, true, true, true, true, true, true, true, true, true, true, true, true, true, false, false, false, false] rfl rfl (one_of HT_.out (by kernel_rfl)) (by decide) (fun K hK => ?_)
  refine goes_ Tryz.func40 (by kernel_rfl) rfl #[.int .u8 a0, .int .u64 a1_1] (by rfl) rfl rfl (am_ rfl) ?_
  with_reducible refine (cutplaneref03_Class.calls k a0 a1_1 t393 _ A23.out).mono ?_
  rintro e w33 ⟨rfl, hb⟩
  refine ⟨_, rfl, ?_⟩
  replace BK384 := bb_ BK384 hb
  replace BK385 := bb_ BK385 hb
  replace HB := hs_ hb
  (try clear hb)
  refine hK.out _ _ ⟨bC_ BK384.out 0, bC_ BK384.out 1⟩ (fun hHeld => ?_)
  clear hK K
  refine norm_ (a' := ?_) ?_ ?_
  rotate_left
  ·show Act.put _ (some 43) _ = _
   simp only [Act.put, sp_, i64_w, i32_w]
   rfl
  refine pure_ (i := 16) (N := some 44) (v := ?_) (a' := ?_) #[true, true, true, true, true, true, true, true, true, true, true, true, true, true, true, true, true, false, false, false] rfl rfl (any_of HT_.out (by kernel_rfl)) (fun _ _ _ h => h) (Or.inl ⟨by rfl, ?_⟩) ?_ ?_
  rotate_left
  ·intro w'
   go_simp
   with_reducible rfl
  rotate_left
  ·simp only [Act.put, sp_, i64_w, i32_w]
   rfl
  refine one_ (i := 17) (N := some 45) #[true, true, true, true, true, true, true, true, true, true, true, true, true, true, true, true, true, true, false, false] rfl rfl (one_of HT_.out (by kernel_rfl)) (by decide) (fun K hK => ?_)
  refine goes_ Tryz.func43 (by kernel_rfl) rfl #[.int .u8 a0, .int .u64 a1_1, .bool (t393 != 1)] (by rfl) rfl rfl (am_ rfl) ?_
  with_reducible refine (cutplaneref11_box.calls k a0 a1_1 (t393 != 1) t394 _ A24.out).mono ?_
  rintro e w34 ⟨rfl, hb⟩
  refine ⟨_, rfl, ?_⟩
  replace BK384 := bb_ BK384 hb
  replace BK385 := bb_ BK385 hb
  replace HB := hs_ hb
  (try clear hb)
  refine hK.out _ _ ⟨bC_ BK384.out 0, bC_ BK384.out 1⟩ (fun hHeld => ?_)
  clear hK K
  refine norm_ (a' := ?_) ?_ ?_
  rotate_left
  ·show Act.put _ (some 45) _ = _
   simp only [Act.put, sp_, i64_w, i32_w]
   rfl
  refine pure_ (i := 18) (N := some 46) (v := ?_) (a' := ?_) #[true, true, true, true, true, true, true, true, true, true, true, true, true, true, true, true, true, true, true, false] rfl rfl (any_of HT_.out (by kernel_rfl)) (fun _ _ _ h => h) (Or.inl ⟨by rfl, ?_⟩) ?_ ?_
  rotate_left
  ·intro w'
   go_simp
   with_reducible rfl
  rotate_left
  ·simp only [Act.put, sp_, i64_w, i32_w]
   rfl
  refine one_ (i := 19) (N := none) #[true, true, true, true, true, true, true, true, true, true, true, true, true, true, true, true, true, true, true, true] rfl rfl (one_of HT_.out (by kernel_rfl)) (by decide) (fun K hK => ?_)
  have hs35 : w34.cell? ⟨gb385, 0, none⟩ = some (.int .u64 0) := (blk_cell BK385.out 0).trans rfl
  have hfs35 := blk_frozen BK385.out 0
  have hns35_0 := NB384_385.out
  have hms35_0 := NB385_384.out
  have hs36 : w34.cell? ⟨gb385, 1, none⟩ = some (.int .u64 0) := (blk_cell BK385.out 1).trans rfl
  have hfs36 := blk_frozen BK385.out 1
  have hns36_0 := NB384_385.out
  have hms36_0 := NB385_384.out
  refine skip_ (w1 := ?_) (by rfl) rfl ?_ ?_
  rotate_left
  ·go_simp
   rfl
  refine hK.out _ _ ⟨((cell_far (p := ⟨gb385, _, none⟩) NB384_385.out _).trans (((cell_far (p := ⟨gb385, _, none⟩) NB384_385.out _).trans (hHeld.1)))), ((cell_far (p := ⟨gb385, _, none⟩) NB384_385.out _).trans (((cell_far (p := ⟨gb385, _, none⟩) NB384_385.out _).trans (hHeld.2))))⟩ (fun hHeld => ?_)
  clear hK K
  refine done_ (done_of HT_.out (by kernel_rfl)) ?_
  try go_wp2
  refine bodyPost_ret (results_cell_row rfl _ _ gb385 26 #[.int .u64 t392, .int .u64 t394] (0, 0) _ rfl (by (with_reducible repeat first | apply bN_ | apply bD_ | apply bA_); refine blk_put (cs := #[.int .u64 t392, .int .u64 0]) ?_ 1 _ rfl; refine blk_put (cs := #[.int .u64 0, .int .u64 0]) ?_ 0 _ rfl; exact bm_ BK385.out) Tryz.underlying26 rfl (by kernel_rfl)) rfl ?_
  exact ⟨by first | rfl | (simp [errW_none, errW_some] <;> rfl) | (simp [*, errW_none, errW_some] <;> rfl), qz_⟩
end Go.Proofs.YtlgapmhjaaajfaaGreat.PA
end

section
namespace Go.Proofs.YtlgapmhjaaajfaaGreat.PA
open Go.RowKit Go.Proofs.YtlgapmhjaaajfaaGreatW.PrintWords Go.Proofs.YtlgapmhjaaajfaaGreatW.PrintLast Go.Proofs.YtlgapmhjaaajfaaGreatW.PrintMore
attribute [local go_sem] max2_int min2_int max_two min_two max_three min_three max_four min_four   -- for this text's walks alone
set_option linter.unusedVariables false
set_option linter.unusedSimpArgs false
def cutplaneref03_Inf.f (a0 : Int) (a1 : Bool) : Option (Int) := (cutplaneref03_Most.f a0).bind fun t395 => ((cutplaneref03_Join.f a0 a1 t395 0).bind fun t396 => (some t396))
theorem cutplaneref03_Inf.calls (a0 : Int) (a1 : Bool) (r : Int) (w : World) (h : cutplaneref03_Inf.f a0 a1 = some r) :
  Calls Tryz.prog 27 #[.int .u8 a0, .bool a1] w fun e w' => e = .returned (.int .u64 r) ∧ Below w.heap.size w w' := by
 have hu61 := Tryz.underlying61
 have HB := A0_ (Below.refl w.heap.size w)
 have H := h
 clear h
 unfold cutplaneref03_Inf.f at H
 obtain ⟨t395, A3, H⟩ := bs_ H
 try dsimp -simprocs only at H
 obtain ⟨t396, A4, H⟩ := bs_ H
 try dsimp -simprocs only at H
 obtain rfl := Option.some.inj H
 go_enter Tryz.func27, Tryz.ntmps27
 go_wp2_with (first | ((with_reducible refine gate_callee (f := 45) rfl ?_); refine goesL_ (some 8) rfl rfl Tryz.func45 (by kernel_rfl) rfl #[.int .u8 a0] rfl (am_ rfl) ?_; (with_reducible refine (cutplaneref03_Most.calls a0 t395 _ A3.out).mono ?_); rintro e w' ⟨rfl, ⟨nd, rfl⟩⟩; refine ⟨_, rfl, ?_⟩) | ((with_reducible refine gate_callee (f := 44) rfl ?_); refine goesL_ (some 10) rfl rfl Tryz.func44 (by kernel_rfl) rfl #[.int .u8 a0, .agg #[.bool a1, .int .i64 t395, .int .u64 0]] rfl (am_ rfl) ?_; (with_reducible refine (cutplaneref03_Join.calls a0 a1 t395 0 t396 _ A4.out).mono ?_); rintro e w5 ⟨rfl, hb⟩; refine ⟨_, rfl, ?_⟩; replace HB := hs_ hb; (try clear hb)))
 go_ret
 exact ⟨by first | rfl | (simp [errW_none, errW_some] <;> rfl) | (simp [*, errW_none, errW_some] <;> rfl), qm_ HB.out⟩
def cutplaneref05_nan.f (k : Nat) (a0 : Int) (a1 : Int) : Option (Bool) := (cutplaneref03_Class.f k a0 a1).bind fun t397 => (some (t397 == 5))
theorem cutplaneref05_nan.mono : ∀ a0 a1 k, LeO (cutplaneref05_nan.f k a0 a1) (cutplaneref05_nan.f (k + 1) a0 a1) := by
 intro a0 a1 k
 unfold cutplaneref05_nan.f
 repeat' first
   | (with_reducible exact cutplaneref03_Class.mono _ _ _)
   | (with_reducible exact LeO.refl _)
   | (with_reducible exact LeO.none _)
   | (with_reducible refine LeO.ite ?_ ?_)
   | (with_reducible refine LeO.bind ?_ (fun _ => ?_))
   | exact cutplaneref03_Class.mono _ _ _
   | exact LeO.none _
   | refine LeO.ite ?_ ?_
   | refine LeO.bind ?_ (fun _ => ?_)
theorem cutplaneref05_nan.calls (k : Nat) (a0 : Int) (a1 : Int) (r : Bool) (w : World) (h : cutplaneref05_nan.f k a0 a1 = some r) :
  Calls Tryz.prog 62 #[.int .u8 a0, .int .u64 a1] w fun e w' => e = .returned (.bool r) ∧ Below w.heap.size w w' := by
 have HB := A0_ (Below.refl w.heap.size w)
 have H := h
 clear h
 unfold cutplaneref05_nan.f at H
 obtain ⟨t397, A3, H⟩ := bs_ H
 try dsimp -simprocs only at H
 obtain rfl := Option.some.inj H
 go_enter Tryz.func62, Tryz.ntmps62
 go_wp2_with (first | ((with_reducible refine gate_callee (f := 40) rfl ?_); refine goesL_ (some 7) rfl rfl Tryz.func40 (by kernel_rfl) rfl #[.int .u8 a0, .int .u64 a1] rfl (am_ rfl) ?_; (with_reducible refine (cutplaneref03_Class.calls k a0 a1 t397 _ A3.out).mono ?_); rintro e w4 ⟨rfl, hb⟩; refine ⟨_, rfl, ?_⟩; replace HB := hs_ hb; (try clear hb)))
 go_ret
 exact ⟨by first | rfl | (simp [errW_none, errW_some] <;> rfl) | (simp [*, errW_none, errW_some] <;> rfl), qm_ HB.out⟩
def cutplaneref05_inf.f (k : Nat) (a0 : Int) (a1 : Int) : Option (Bool) := (cutplaneref03_Class.f k a0 a1).bind fun t398 => (some (t398 == 4))
theorem cutplaneref05_inf.mono : ∀ a0 a1 k, LeO (cutplaneref05_inf.f k a0 a1) (cutplaneref05_inf.f (k + 1) a0 a1) := by
 intro a0 a1 k
 unfold cutplaneref05_inf.f
 repeat' first
   | (with_reducible exact cutplaneref03_Class.mono _ _ _)
   | (with_reducible exact LeO.refl _)
   | (with_reducible exact LeO.none _)
   | (with_reducible refine LeO.ite ?_ ?_)
   | (with_reducible refine LeO.bind ?_ (fun _ => ?_))
   | exact cutplaneref03_Class.mono _ _ _
   | exact LeO.none _
   | refine LeO.ite ?_ ?_
   | refine LeO.bind ?_ (fun _ => ?_)
theorem cutplaneref05_inf.calls (k : Nat) (a0 : Int) (a1 : Int) (r : Bool) (w : World) (h : cutplaneref05_inf.f k a0 a1 = some r) :
  Calls Tryz.prog 63 #[.int .u8 a0, .int .u64 a1] w fun e w' => e = .returned (.bool r) ∧ Below w.heap.size w w' := by
 have HB := A0_ (Below.refl w.heap.size w)
 have H := h
 clear h
 unfold cutplaneref05_inf.f at H
 obtain ⟨t398, A3, H⟩ := bs_ H
 try dsimp -simprocs only at H
 obtain rfl := Option.some.inj H
 go_enter Tryz.func63, Tryz.ntmps63
 go_wp2_with (first | ((with_reducible refine gate_callee (f := 40) rfl ?_); refine goesL_ (some 7) rfl rfl Tryz.func40 (by kernel_rfl) rfl #[.int .u8 a0, .int .u64 a1] rfl (am_ rfl) ?_; (with_reducible refine (cutplaneref03_Class.calls k a0 a1 t398 _ A3.out).mono ?_); rintro e w4 ⟨rfl, hb⟩; refine ⟨_, rfl, ?_⟩; replace HB := hs_ hb; (try clear hb)))
 go_ret
 exact ⟨by first | rfl | (simp [errW_none, errW_some] <;> rfl) | (simp [*, errW_none, errW_some] <;> rfl), qm_ HB.out⟩
def cutplaneref05_zero.f (k : Nat) (a0 : Int) (a1 : Int) : Option (Bool) := (cutplaneref03_Class.f k a0 a1).bind fun t399 => (some (t399 == 1))
theorem cutplaneref05_zero.mono : ∀ a0 a1 k, LeO (cutplaneref05_zero.f k a0 a1) (cutplaneref05_zero.f (k + 1) a0 a1) := by
 intro a0 a1 k
 unfold cutplaneref05_zero.f
 repeat' first
   | (with_reducible exact cutplaneref03_Class.mono _ _ _)
   | (with_reducible exact LeO.refl _)
   | (with_reducible exact LeO.none _)
   | (with_reducible refine LeO.ite ?_ ?_)
   | (with_reducible refine LeO.bind ?_ (fun _ => ?_))
   | exact cutplaneref03_Class.mono _ _ _
   | exact LeO.none _
   | refine LeO.ite ?_ ?_
   | refine LeO.bind ?_ (fun _ => ?_)
theorem cutplaneref05_zero.calls (k : Nat) (a0 : Int) (a1 : Int) (r : Bool) (w : World) (h : cutplaneref05_zero.f k a0 a1 = some r) :
  Calls Tryz.prog 64 #[.int .u8 a0, .int .u64 a1] w fun e w' => e = .returned (.bool r) ∧ Below w.heap.size w w' := by
 have HB := A0_ (Below.refl w.heap.size w)
 have H := h
 clear h
 unfold cutplaneref05_zero.f at H
 obtain ⟨t399, A3, H⟩ := bs_ H
 try dsimp -simprocs only at H
 obtain rfl := Option.some.inj H
 go_enter Tryz.func64, Tryz.ntmps64
 go_wp2_with (first | ((with_reducible refine gate_callee (f := 40) rfl ?_); refine goesL_ (some 7) rfl rfl Tryz.func40 (by kernel_rfl) rfl #[.int .u8 a0, .int .u64 a1] rfl (am_ rfl) ?_; (with_reducible refine (cutplaneref03_Class.calls k a0 a1 t399 _ A3.out).mono ?_); rintro e w4 ⟨rfl, hb⟩; refine ⟨_, rfl, ?_⟩; replace HB := hs_ hb; (try clear hb)))
 go_ret
 exact ⟨by first | rfl | (simp [errW_none, errW_some] <;> rfl) | (simp [*, errW_none, errW_some] <;> rfl), qm_ HB.out⟩
def cutplaneref05_neg.f (a0 : Int) (a1 : Int) : Option (Bool) := (cutplaneref03_Sign.f a0).bind fun t400 => (some (decide (a1 ≥ t400)))
theorem cutplaneref05_neg.calls (a0 : Int) (a1 : Int) (r : Bool) (w : World) (h : cutplaneref05_neg.f a0 a1 = some r) :
  Calls Tryz.prog 65 #[.int .u8 a0, .int .u64 a1] w fun e w' => e = .returned (.bool r) ∧ Drawn0 w w' := by
 have H := h
 clear h
 unfold cutplaneref05_neg.f at H
 obtain ⟨t400, A3, H⟩ := bs_ H
 try dsimp -simprocs only at H
 obtain rfl := Option.some.inj H
 go_enter Tryz.func65, Tryz.ntmps65
 go_wp2_with (first | ((with_reducible refine gate_callee (f := 46) rfl ?_); refine goesL_ (some 7) rfl rfl Tryz.func46 (by kernel_rfl) rfl #[.int .u8 a0] rfl (am_ rfl) ?_; (with_reducible refine (cutplaneref03_Sign.calls a0 t400 _ A3.out).mono ?_); rintro e w' ⟨rfl, ⟨nd, rfl⟩⟩; refine ⟨_, rfl, ?_⟩))
 go_ret
 exact ⟨by first | rfl | (simp; done) | (simp [*]; done), by repeat (first | exact Drawn0.refl _ | apply Drawn0.step)⟩
def cutplaneref02_Sign.f (a0_0 : Bool) (l0_1 : List Int) (a0_2 : Int) : Option (Int) := if (l0_1.length : Int) = 0 then (some 0) else (if a0_0 = true then (some (-1)) else (some 1))
theorem cutplaneref02_Sign.calls (a0_0 : Bool) (A0_1 : Option Addr) (c0_1 : Nat) (l0_1 : List Int) (a0_2 : Int) (r : Int) (w : World) (hr0_1 : Kd.C (Kd.int .u32) w A0_1 l0_1.length l0_1) (hc0_1 : l0_1.length ≤ c0_1) (h : cutplaneref02_Sign.f a0_0 l0_1 a0_2 = some r) :
  Calls Tryz.prog 70 #[.agg #[.bool a0_0, .slice A0_1 l0_1.length c0_1, .int .i64 a0_2]] w fun e w' => e = .returned (.int .i64 r) ∧ Below w.heap.size w w' := by
 have hu107 := Tryz.underlying107
 have HR0_1 := A0_ hr0_1
 have HC0_1 := A0_ hc0_1
 clear hr0_1 hc0_1
 have HB := A0_ (Below.refl w.heap.size w)
 have H := h
 clear h
 unfold cutplaneref02_Sign.f at H
 by_cases c2 : (l0_1.length : Int) = 0
 ·rw [if_pos c2] at H
  have c2b0 : ((l0_1.length : Int) == 0) = true := beq_iff_eq.mpr c2
  have c2b1 : ((l0_1.length : Int) != 0) = false := bne_eq_false_iff_eq.mpr c2
  clear c2
  obtain rfl := Option.some.inj H
  go_enter Tryz.func70, Tryz.ntmps70
  go_wp2_with (first | ((with_reducible refine gate_dst (N := 1) rfl ?_); refine box_event ?hg (N := 1) ?hd (cs := #[.bool a0_0, .slice A0_1 l0_1.length c0_1, .int .i64 a0_2]) (t := 107) ?hr ?_; (case hd => rfl); (case hg => rfl); (case hr => first | (go_simp; done) | (go_simp; rfl)); intro gb401 hg w3 hbox hb; have BK401 := A0_ (hbox); have GW401 := A0_ ((by rw [hg]; exact (below_size (qm_ HB.out)) : w.heap.size ≤ gb401)); have GE401 := GW401; replace HB := hs_ hb; clear hb hbox hg; have hcz4 := bc3_ BK401.out; have hfz4 := bf3_ BK401.out))
  go_ret
  exact ⟨by first | rfl | (simp [errW_none, errW_some] <;> rfl) | (simp [*, errW_none, errW_some] <;> rfl), qz_⟩
 ·rw [if_neg c2] at H
  have c2b0 : ((l0_1.length : Int) == 0) = false := beq_eq_false_iff_ne.mpr c2
  have c2b1 : ((l0_1.length : Int) != 0) = true := bne_iff_ne.mpr c2
  have c2b2 : ¬ (l0_1 = []) := fun h_ => c2 (by rw [h_]; rfl)
  by_cases c5 : a0_0 = true
  ·subst c5
   rw [if_pos rfl] at H
   obtain rfl := Option.some.inj H
   go_enter Tryz.func70, Tryz.ntmps70
   go_wp2_with (first | ((with_reducible refine gate_dst (N := 1) rfl ?_); refine box_event ?hg (N := 1) ?hd (cs := #[.bool true, .slice A0_1 l0_1.length c0_1, .int .i64 a0_2]) (t := 107) ?hr ?_; (case hd => rfl); (case hg => rfl); (case hr => first | (go_simp; done) | (go_simp; rfl)); intro gb401 hg w6 hbox hb; have BK401 := A0_ (hbox); have GW401 := A0_ ((by rw [hg]; exact (below_size (qm_ HB.out)) : w.heap.size ≤ gb401)); have GE401 := GW401; replace HB := hs_ hb; clear hb hbox hg; have hcz7 := bc3_ BK401.out; have hfz7 := bf3_ BK401.out))
   go_ret
   exact ⟨by first | rfl | (simp [errW_none, errW_some] <;> rfl) | (simp [*, errW_none, errW_some] <;> rfl), qz_⟩
  ·replace c5 := Bool.eq_false_iff.mpr c5
   subst c5
   rw [if_neg (show ¬ (false = true) by decide)] at H
   obtain rfl := Option.some.inj H
   go_enter Tryz.func70, Tryz.ntmps70
   go_wp2_with (first | ((with_reducible refine gate_dst (N := 1) rfl ?_); refine box_event ?hg (N := 1) ?hd (cs := #[.bool false, .slice A0_1 l0_1.length c0_1, .int .i64 a0_2]) (t := 107) ?hr ?_; (case hd => rfl); (case hg => rfl); (case hr => first | (go_simp; done) | (go_simp; rfl)); intro gb401 hg w8 hbox hb; have BK401 := A0_ (hbox); have GW401 := A0_ ((by rw [hg]; exact (below_size (qm_ HB.out)) : w.heap.size ≤ gb401)); have GE401 := GW401; replace HB := hs_ hb; clear hb hbox hg; have hcz9 := bc3_ BK401.out; have hfz9 := bf3_ BK401.out))
   go_ret
   exact ⟨by first | rfl | (simp [errW_none, errW_some] <;> rfl) | (simp [*, errW_none, errW_some] <;> rfl), qz_⟩
end Go.Proofs.YtlgapmhjaaajfaaGreat.PA
end
