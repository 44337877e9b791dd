/- Go functions of this seat told as plain Lean functions, each with the proof that its call comes to just what it tells, and the rows over them; written by a program (wip/tools/xprint.sh). No condition beyond those that each text names. -/
import Derived.Test.YthiklmgdmaemgaaPAx0
import Derived.Test.YthiklmgdmaemgaaPAx4
import Derived.Test.YthiklmgdmaemgaaPAx6
import Derived.Test.YthiklmgdmaemgaaPAx9
import Derived.Test.YthiklmgdmaemgaaPAx16
import Derived.Test.YthiklmgdmaemgaaPAx17
namespace Go.Proofs.Ythiklmgdmaemgaa.PA
open Go.RowKit Go.Proofs.YthiklmgdmaemgaaW.PrintWords Go.Proofs.YthiklmgdmaemgaaW.PrintLast Go.Proofs.YthiklmgdmaemgaaW.PrintMore
attribute [local go_sem] max2_int min2_int max_two min_two max_three min_three max_four min_four   -- for this text's walks alone
set_option linter.unusedVariables false
set_option linter.unusedSimpArgs false

/-! ### cutplanelaw03_WordSteps: function 7 -/
def cutplanelaw03_WordSteps.j0 : Nat → Int → Int → Int → Int → Int → Int → Bool → Int → Int → Option (Bool)
  | 0, _, _, _, _, _, _, _, _, _ => none
  | k + 1, x6, x7, x8, x9, x10, x12, x13, x14, x15 => if x13 = true then ((cutplanelaw03_is.f x6 x7 x10 x14).bind fun t390 => (if t390 = true then ((cutplanelaw03_is.f x8 x9 x12 x15).bind fun t391 => (if t391 = true then ((cutplanelaw03_known.f k).bind fun t392 => (some t392)) else (some false))) else (some false))) else ((cutplanelaw03_is.f x6 x7 x10 x14).bind fun t393 => (if t393 = true then ((cutplanelaw03_is.f x8 x9 x12 7).bind fun t394 => (if t394 = true then ((cutplanelaw03_known.f k).bind fun t395 => (some t395)) else (some false))) else (some false)))
def cutplanelaw03_WordSteps.f (k : Nat) (a0 : Int) (a1 : Int) : Option (Bool) := (cutplaneref03_Good.f a0 a1).bind fun t378 => ((word_Up.f k a0 a1).bind fun bt379 => ((word_Down.f k a0 a1).bind fun bt381 => (if t378 = 0 then ((cutplaneref03_Up.f k a0 a1).bind fun bt386 => ((cutplaneref03_Down.f k a0 a1).bind fun bt388 => (if bt386.2 = true then (cutplanelaw03_WordSteps.j0 k bt379.1 bt379.2 bt381.1 bt381.2 bt386.1 bt388.1 bt388.2 0 0) else (cutplanelaw03_WordSteps.j0 k bt379.1 bt379.2 bt381.1 bt381.2 bt386.1 bt388.1 bt388.2 7 0)))) else ((cutplanelaw03_is.f bt379.1 bt379.2 0 t378).bind fun t383 => (if t383 = true then ((cutplanelaw03_is.f bt381.1 bt381.2 0 t378).bind fun t384 => (if t384 = true then ((cutplanelaw03_known.f k).bind fun t385 => (some t385)) else (some false))) else (some false))))))
theorem cutplanelaw03_WordSteps.mono_l : ∀ k, (∀ y0 y1 y2 y3 y4 y5 y6 y7 y8, LeO (cutplanelaw03_WordSteps.j0 k y0 y1 y2 y3 y4 y5 y6 y7 y8) (cutplanelaw03_WordSteps.j0 (k + 1) y0 y1 y2 y3 y4 y5 y6 y7 y8))
  | 0 => fun _ _ _ _ _ _ _ _ _ r h => by simp [cutplanelaw03_WordSteps.j0] at h
  | k + 1 => by
    have ih0 := cutplanelaw03_WordSteps.mono_l k
    · intro y0 y1 y2 y3 y4 y5 y6 y7 y8
      unfold cutplanelaw03_WordSteps.j0
      repeat' first
      | (with_reducible exact ih0 _ _ _ _ _ _ _ _ _)
      | (with_reducible exact cutplanelaw03_known.mono _)
      | (with_reducible exact cutplaneref03_Down.mono _ _ _)
      | (with_reducible exact cutplaneref03_Up.mono _ _ _)
      | (with_reducible exact word_Down.mono _ _ _)
      | (with_reducible exact word_Up.mono _ _ _)
      | (with_reducible exact LeO.refl _)
      | (with_reducible exact LeO.none _)
      | (with_reducible refine LeO.ite ?_ ?_)
      | (with_reducible refine LeO.bind ?_ (fun _ => ?_))
      | exact ih0 _ _ _ _ _ _ _ _ _
      | exact cutplanelaw03_known.mono _
      | exact cutplaneref03_Down.mono _ _ _
      | exact cutplaneref03_Up.mono _ _ _
      | exact word_Down.mono _ _ _
      | exact word_Up.mono _ _ _
      | exact LeO.none _
      | refine LeO.ite ?_ ?_
      | refine LeO.bind ?_ (fun _ => ?_)
theorem cutplanelaw03_WordSteps.mono : ∀ a0 a1 k, LeO (cutplanelaw03_WordSteps.f k a0 a1) (cutplanelaw03_WordSteps.f (k + 1) a0 a1) := by
  intro a0 a1 k
  have ih0 := cutplanelaw03_WordSteps.mono_l k
  unfold cutplanelaw03_WordSteps.f
  repeat' first
      | (with_reducible exact ih0 _ _ _ _ _ _ _ _ _)
      | (with_reducible exact cutplanelaw03_known.mono _)
      | (with_reducible exact cutplaneref03_Down.mono _ _ _)
      | (with_reducible exact cutplaneref03_Up.mono _ _ _)
      | (with_reducible exact word_Down.mono _ _ _)
      | (with_reducible exact word_Up.mono _ _ _)
      | (with_reducible exact LeO.refl _)
      | (with_reducible exact LeO.none _)
      | (with_reducible refine LeO.ite ?_ ?_)
      | (with_reducible refine LeO.bind ?_ (fun _ => ?_))
      | exact ih0 _ _ _ _ _ _ _ _ _
      | exact cutplanelaw03_known.mono _
      | exact cutplaneref03_Down.mono _ _ _
      | exact cutplaneref03_Up.mono _ _ _
      | exact word_Down.mono _ _ _
      | exact word_Up.mono _ _ _
      | exact LeO.none _
      | refine LeO.ite ?_ ?_
      | refine LeO.bind ?_ (fun _ => ?_)
set_option maxHeartbeats 2000000 in
set_option maxRecDepth 100000 in
theorem cutplanelaw03_WordSteps.calls (k : Nat) (a0 : Int) (a1 : Int) (r : Bool) (w : World) (h : cutplanelaw03_WordSteps.f k a0 a1 = some r) :
    Calls Try.prog 7 #[.int .u8 a0, .int .u64 a1] w fun e w' => e = .returned (.bool r) ∧ Below w.heap.size w w' := by
  have HB := Aside0.mk (Below.refl w.heap.size w)
  have H : ((cutplaneref03_Good.f a0 a1).bind fun t378 => ((word_Up.f k a0 a1).bind fun bt379 => ((word_Down.f k a0 a1).bind fun bt381 => (if t378 = 0 then ((cutplaneref03_Up.f k a0 a1).bind fun bt386 => ((cutplaneref03_Down.f k a0 a1).bind fun bt388 => (if bt386.2 = true then (cutplanelaw03_WordSteps.j0 k bt379.1 bt379.2 bt381.1 bt381.2 bt386.1 bt388.1 bt388.2 0 0) else (cutplanelaw03_WordSteps.j0 k bt379.1 bt379.2 bt381.1 bt381.2 bt386.1 bt388.1 bt388.2 7 0)))) else ((cutplanelaw03_is.f bt379.1 bt379.2 0 t378).bind fun t383 => (if t383 = true then ((cutplanelaw03_is.f bt381.1 bt381.2 0 t378).bind fun t384 => (if t384 = true then ((cutplanelaw03_known.f k).bind fun t385 => (some t385)) else (some false))) else (some false))))))) = some r := h
  clear h
  replace H := Option.bind_eq_some_iff.mp H
  obtain ⟨t378, A30, H⟩ := H
  replace H : ((word_Up.f k a0 a1).bind fun bt379 => ((word_Down.f k a0 a1).bind fun bt381 => (if t378 = 0 then ((cutplaneref03_Up.f k a0 a1).bind fun bt386 => ((cutplaneref03_Down.f k a0 a1).bind fun bt388 => (if bt386.2 = true then (cutplanelaw03_WordSteps.j0 k bt379.1 bt379.2 bt381.1 bt381.2 bt386.1 bt388.1 bt388.2 0 0) else (cutplanelaw03_WordSteps.j0 k bt379.1 bt379.2 bt381.1 bt381.2 bt386.1 bt388.1 bt388.2 7 0)))) else ((cutplanelaw03_is.f bt379.1 bt379.2 0 t378).bind fun t383 => (if t383 = true then ((cutplanelaw03_is.f bt381.1 bt381.2 0 t378).bind fun t384 => (if t384 = true then ((cutplanelaw03_known.f k).bind fun t385 => (some t385)) else (some false))) else (some false)))))) = some r := H
  have A3 := Aside0.mk A30
  clear A30
  replace H := Option.bind_eq_some_iff.mp H
  obtain ⟨⟨t379, t380⟩, A40, H⟩ := H
  replace H : ((word_Down.f k a0 a1).bind fun bt381 => (if t378 = 0 then ((cutplaneref03_Up.f k a0 a1).bind fun bt386 => ((cutplaneref03_Down.f k a0 a1).bind fun bt388 => (if bt386.2 = true then (cutplanelaw03_WordSteps.j0 k t379 t380 bt381.1 bt381.2 bt386.1 bt388.1 bt388.2 0 0) else (cutplanelaw03_WordSteps.j0 k t379 t380 bt381.1 bt381.2 bt386.1 bt388.1 bt388.2 7 0)))) else ((cutplanelaw03_is.f t379 t380 0 t378).bind fun t383 => (if t383 = true then ((cutplanelaw03_is.f bt381.1 bt381.2 0 t378).bind fun t384 => (if t384 = true then ((cutplanelaw03_known.f k).bind fun t385 => (some t385)) else (some false))) else (some false))))) = some r := H
  have A4 := Aside0.mk A40
  clear A40
  replace H := Option.bind_eq_some_iff.mp H
  obtain ⟨⟨t381, t382⟩, A50, H⟩ := H
  replace H : (if t378 = 0 then ((cutplaneref03_Up.f k a0 a1).bind fun bt386 => ((cutplaneref03_Down.f k a0 a1).bind fun bt388 => (if bt386.2 = true then (cutplanelaw03_WordSteps.j0 k t379 t380 t381 t382 bt386.1 bt388.1 bt388.2 0 0) else (cutplanelaw03_WordSteps.j0 k t379 t380 t381 t382 bt386.1 bt388.1 bt388.2 7 0)))) else ((cutplanelaw03_is.f t379 t380 0 t378).bind fun t383 => (if t383 = true then ((cutplanelaw03_is.f t381 t382 0 t378).bind fun t384 => (if t384 = true then ((cutplanelaw03_known.f k).bind fun t385 => (some t385)) else (some false))) else (some false)))) = some r := H
  have A5 := Aside0.mk A50
  clear A50
  by_cases c6 : t378 = 0
  · rw [if_pos c6] at H
    have c6b0 : (t378 == 0) = true := beq_iff_eq.mpr c6
    have c6b1 : (t378 != 0) = false := bne_eq_false_iff_eq.mpr c6
    clear c6
    replace H := Option.bind_eq_some_iff.mp H
    obtain ⟨⟨t386, t387⟩, A70, H⟩ := H
    replace H : ((cutplaneref03_Down.f k a0 a1).bind fun bt388 => (if t387 = true then (cutplanelaw03_WordSteps.j0 k t379 t380 t381 t382 t386 bt388.1 bt388.2 0 0) else (cutplanelaw03_WordSteps.j0 k t379 t380 t381 t382 t386 bt388.1 bt388.2 7 0))) = some r := H
    have A7 := Aside0.mk A70
    clear A70
    replace H := Option.bind_eq_some_iff.mp H
    obtain ⟨⟨t388, t389⟩, A80, H⟩ := H
    replace H : (if t387 = true then (cutplanelaw03_WordSteps.j0 k t379 t380 t381 t382 t386 t388 t389 0 0) else (cutplanelaw03_WordSteps.j0 k t379 t380 t381 t382 t386 t388 t389 7 0)) = some r := H
    have A8 := Aside0.mk A80
    clear A80
    have HC9 := Aside0.mk H
    clear H
    go_enter Try.func7, Try.ntmps7
    go_upto_if 59 with (first | ((with_reducible refine gate_callee (f := 19) rfl ?_); refine goesL_ (some 18) rfl rfl Try.func19 (by kernel_rfl) rfl #[.int .u8 a0, .int .u64 a1] rfl (by (try simp only [List.map_toArray, List.map_cons, List.map_nil]); first | done | rfl | (simp only [List.length_drop, List.length_take]; rfl)) ?_; (with_reducible refine (cutplaneref03_Good.calls a0 a1 t378 _ A3.out).mono ?_); rintro e w' ⟨rfl, ⟨nd, rfl⟩⟩; refine ⟨_, rfl, ?_⟩) | ((with_reducible refine gate_callee (f := 33) rfl ?_); refine goesL_ (some 22) rfl rfl Try.func33 (by kernel_rfl) rfl #[.int .u8 a0, .int .u64 a1] rfl (by (try simp only [List.map_toArray, List.map_cons, List.map_nil]); first | done | rfl | (simp only [List.length_drop, List.length_take]; rfl)) ?_; (with_reducible refine (word_Up.calls k a0 a1 t379 t380 _ A4.out).mono ?_); rintro e w10 ⟨rfl, hb⟩; refine ⟨_, rfl, ?_⟩; have n0_ := Aside0.mk (below_step (by repeat (first | (with_reducible first | exact HB.out | apply below_alloc | apply pw_below_drewN | apply below_drew1) | exact HB.out)) hb); clear HB; have HB := n0_; clear n0_; (try clear hb); (try clear hb2); (try clear hk); (try clear hi)) | ((with_reducible refine gate_callee (f := 34) rfl ?_); refine goesL_ (some 28) rfl rfl Try.func34 (by kernel_rfl) rfl #[.int .u8 a0, .int .u64 a1] rfl (by (try simp only [List.map_toArray, List.map_cons, List.map_nil]); first | done | rfl | (simp only [List.length_drop, List.length_take]; rfl)) ?_; (with_reducible refine (word_Down.calls k a0 a1 t381 t382 _ A5.out).mono ?_); rintro e w11 ⟨rfl, hb⟩; refine ⟨_, rfl, ?_⟩; have n0_ := Aside0.mk (below_step (by repeat (first | (with_reducible first | exact HB.out | apply below_alloc | apply pw_below_drewN | apply below_drew1) | exact HB.out)) hb); clear HB; have HB := n0_; clear n0_; (try clear hb); (try clear hb2); (try clear hk); (try clear hi)) | ((with_reducible refine gate_callee (f := 35) rfl ?_); refine goesL_ (some 49) rfl rfl Try.func35 (by kernel_rfl) rfl #[.int .u8 a0, .int .u64 a1] rfl (by (try simp only [List.map_toArray, List.map_cons, List.map_nil]); first | done | rfl | (simp only [List.length_drop, List.length_take]; rfl)) ?_; (with_reducible refine (cutplaneref03_Up.calls k a0 a1 t386 t387 _ A7.out).mono ?_); rintro e w12 ⟨rfl, hb⟩; refine ⟨_, rfl, ?_⟩; have n0_ := Aside0.mk (below_step (by repeat (first | (with_reducible first | exact HB.out | apply below_alloc | apply pw_below_drewN | apply below_drew1) | exact HB.out)) hb); clear HB; have HB := n0_; clear n0_; (try clear hb); (try clear hb2); (try clear hk); (try clear hi)) | ((with_reducible refine gate_callee (f := 36) rfl ?_); refine goesL_ (some 55) rfl rfl Try.func36 (by kernel_rfl) rfl #[.int .u8 a0, .int .u64 a1] rfl (by (try simp only [List.map_toArray, List.map_cons, List.map_nil]); first | done | rfl | (simp only [List.length_drop, List.length_take]; rfl)) ?_; (with_reducible refine (cutplaneref03_Down.calls k a0 a1 t388 t389 _ A8.out).mono ?_); rintro e w13 ⟨rfl, hb⟩; refine ⟨_, rfl, ?_⟩; have n0_ := Aside0.mk (below_step (by repeat (first | (with_reducible first | exact HB.out | apply below_alloc | apply pw_below_drewN | apply below_drew1) | exact HB.out)) hb); clear HB; have HB := n0_; clear n0_; (try clear hb); (try clear hb2); (try clear hk); (try clear hi)))
    (try simp only [Act.put, List.setIfInBounds_toArray, List.set_cons_zero, List.set_cons_succ])
    go_cut [14] (fun v14 wc => ∃ (kq : Nat) (x14_8 : Int), v14 = .int .i64 x14_8 ∧ Aside0 (cutplanelaw03_WordSteps.j0 kq t379 t380 t381 t382 t386 t388 t389 x14_8 0 = some r) ∧ Aside0 (kq ≤ k) ∧ Aside0 (Below w.heap.size w wc))
    case first =>
      have H := HC9.out
      clear HC9
      by_cases c14 : t387 = true
      · subst c14
        have H1 : (cutplanelaw03_WordSteps.j0 k t379 t380 t381 t382 t386 t388 t389 0 0) = some r := by rw [if_pos rfl] at H; exact H
        clear H
        have H := H1
        clear H1
        have H' := Aside0.mk H
        clear H
        go_wp2
        go_meet
        case rel => exact ⟨_, (0), (by first | rfl | (simp; done) | (simp [*]; done)), H', ⟨by first | omega | exact Nat.le_refl _⟩, ⟨by repeat (first | (with_reducible first | exact HB.out | apply below_alloc | apply pw_below_drewN | apply below_drew1) | exact HB.out)⟩⟩
      · replace c14 := Bool.eq_false_iff.mpr c14
        subst c14
        have H1 : (cutplanelaw03_WordSteps.j0 k t379 t380 t381 t382 t386 t388 t389 7 0) = some r := by rw [if_neg (show ¬ (false = true) by decide)] at H; exact H
        clear H
        have H := H1
        clear H1
        have H' := Aside0.mk H
        clear H
        go_wp2
        go_meet
        case rel => exact ⟨_, (7), (by first | rfl | (simp; done) | (simp [*]; done)), H', ⟨by first | omega | exact Nat.le_refl _⟩, ⟨by repeat (first | (with_reducible first | exact HB.out | apply below_alloc | apply pw_below_drewN | apply below_drew1) | exact HB.out)⟩⟩
    case rest =>
      clear HC9
      try clear c1
      try clear p2
      try clear c3
      try clear c6
      try clear c6b0
      try clear c6b1
      try clear c7
      try clear c14
      obtain ⟨kq, x14_8, rfl, HA, HJ8, HB⟩ := hcut
      cases kq with
      | zero => exact absurd HA.out (by simp [cutplanelaw03_WordSteps.j0])
      | succ kj8 =>
        have H := HA.out
        clear HA
        simp only [cutplanelaw03_WordSteps.j0] at H
        by_cases c15 : t389 = true
        · subst c15
          have H1 : ((cutplanelaw03_is.f t379 t380 t386 x14_8).bind fun t390 => (if t390 = true then ((cutplanelaw03_is.f t381 t382 t388 0).bind fun t391 => (if t391 = true then ((cutplanelaw03_known.f kj8).bind fun t392 => (some t392)) else (some false))) else (some false))) = some r := by rw [if_pos rfl] at H; exact H
          clear H
          have H := H1
          clear H1
          replace H := Option.bind_eq_some_iff.mp H
          obtain ⟨t390, A160, H⟩ := H
          replace H : (if t390 = true then ((cutplanelaw03_is.f t381 t382 t388 0).bind fun t391 => (if t391 = true then ((cutplanelaw03_known.f kj8).bind fun t392 => (some t392)) else (some false))) else (some false)) = some r := H
          have A16 := Aside0.mk A160
          clear A160
          by_cases c17 : t390 = true
          · subst c17
            have H1 : ((cutplanelaw03_is.f t381 t382 t388 0).bind fun t391 => (if t391 = true then ((cutplanelaw03_known.f kj8).bind fun t392 => (some t392)) else (some false))) = some r := by rw [if_pos rfl] at H; exact H
            clear H
            have H := H1
            clear H1
            replace H := Option.bind_eq_some_iff.mp H
            obtain ⟨t391, A180, H⟩ := H
            replace H : (if t391 = true then ((cutplanelaw03_known.f kj8).bind fun t392 => (some t392)) else (some false)) = some r := H
            have A18 := Aside0.mk A180
            clear A180
            by_cases c19 : t391 = true
            · subst c19
              have H1 : ((cutplanelaw03_known.f kj8).bind fun t392 => (some t392)) = some r := by rw [if_pos rfl] at H; exact H
              clear H
              have H := H1
              clear H1
              replace H := Option.bind_eq_some_iff.mp H
              obtain ⟨t392, A200, H⟩ := H
              replace H : (some t392) = some r := H
              have A20 := Aside0.mk A200
              clear A200
              obtain rfl := Option.some.inj H
              go_wp2_with (first | ((with_reducible refine gate_callee (f := 14) rfl ?_); refine goesL_ (some 66) rfl rfl Try.func14 (by kernel_rfl) rfl #[.int .u64 t379, .int .i64 t380, .int .u64 t386, .int .i64 x14_8] rfl (by (try simp only [List.map_toArray, List.map_cons, List.map_nil]); first | done | rfl | (simp only [List.length_drop, List.length_take]; rfl)) ?_; (with_reducible refine (cutplanelaw03_is.calls t379 t380 t386 x14_8 true _ A16.out).mono ?_); rintro e w' ⟨rfl, ⟨nd, rfl⟩⟩; refine ⟨_, rfl, ?_⟩) | (go_at_call 14; (with_reducible refine (cutplanelaw03_is.calls t381 t382 t388 0 true _ A18.out).mono ?_); rintro e w' ⟨rfl, ⟨nd, rfl⟩⟩) | (go_at_call 15; (with_reducible refine (cutplanelaw03_known.calls kj8  t392 _ A20.out).mono ?_); rintro e w21 ⟨rfl, hb⟩; have n0_ := Aside0.mk (below_step (by repeat (first | (with_reducible first | exact HB.out | apply below_alloc | apply pw_below_drewN | apply below_drew1) | exact HB.out)) hb); clear HB; have HB := n0_; clear n0_; (try clear hb); (try clear hb2); (try clear hk); (try clear hi)))
              go_ret
              exact ⟨by first | rfl | (simp [errW_none, errW_some] <;> rfl) | (simp [*, errW_none, errW_some] <;> rfl), by repeat (first | (with_reducible first | exact HB.out | apply below_alloc | apply pw_below_drewN | apply below_drew1) | exact HB.out)⟩
            · replace c19 := Bool.eq_false_iff.mpr c19
              subst c19
              have H1 : (some false) = some r := by rw [if_neg (show ¬ (false = true) by decide)] at H; exact H
              clear H
              have H := H1
              clear H1
              obtain rfl := Option.some.inj H
              go_wp2_with (first | ((with_reducible refine gate_callee (f := 14) rfl ?_); refine goesL_ (some 66) rfl rfl Try.func14 (by kernel_rfl) rfl #[.int .u64 t379, .int .i64 t380, .int .u64 t386, .int .i64 x14_8] rfl (by (try simp only [List.map_toArray, List.map_cons, List.map_nil]); first | done | rfl | (simp only [List.length_drop, List.length_take]; rfl)) ?_; (with_reducible refine (cutplanelaw03_is.calls t379 t380 t386 x14_8 true _ A16.out).mono ?_); rintro e w' ⟨rfl, ⟨nd, rfl⟩⟩; refine ⟨_, rfl, ?_⟩) | (go_at_call 14; (with_reducible refine (cutplanelaw03_is.calls t381 t382 t388 0 false _ A18.out).mono ?_); rintro e w' ⟨rfl, ⟨nd, rfl⟩⟩))
              go_ret
              exact ⟨by first | rfl | (simp [errW_none, errW_some] <;> rfl) | (simp [*, errW_none, errW_some] <;> rfl), by repeat (first | (with_reducible first | exact HB.out | apply below_alloc | apply pw_below_drewN | apply below_drew1) | exact HB.out)⟩
          · replace c17 := Bool.eq_false_iff.mpr c17
            subst c17
            have H1 : (some false) = some r := by rw [if_neg (show ¬ (false = true) by decide)] at H; exact H
            clear H
            have H := H1
            clear H1
            obtain rfl := Option.some.inj H
            go_wp2_with (first | ((with_reducible refine gate_callee (f := 14) rfl ?_); refine goesL_ (some 66) rfl rfl Try.func14 (by kernel_rfl) rfl #[.int .u64 t379, .int .i64 t380, .int .u64 t386, .int .i64 x14_8] rfl (by (try simp only [List.map_toArray, List.map_cons, List.map_nil]); first | done | rfl | (simp only [List.length_drop, List.length_take]; rfl)) ?_; (with_reducible refine (cutplanelaw03_is.calls t379 t380 t386 x14_8 false _ A16.out).mono ?_); rintro e w' ⟨rfl, ⟨nd, rfl⟩⟩; refine ⟨_, rfl, ?_⟩))
            go_ret
            exact ⟨by first | rfl | (simp [errW_none, errW_some] <;> rfl) | (simp [*, errW_none, errW_some] <;> rfl), by repeat (first | (with_reducible first | exact HB.out | apply below_alloc | apply pw_below_drewN | apply below_drew1) | exact HB.out)⟩
        · replace c15 := Bool.eq_false_iff.mpr c15
          subst c15
          have H1 : ((cutplanelaw03_is.f t379 t380 t386 x14_8).bind fun t393 => (if t393 = true then ((cutplanelaw03_is.f t381 t382 t388 7).bind fun t394 => (if t394 = true then ((cutplanelaw03_known.f kj8).bind fun t395 => (some t395)) else (some false))) else (some false))) = some r := by rw [if_neg (show ¬ (false = true) by decide)] at H; exact H
          clear H
          have H := H1
          clear H1
          replace H := Option.bind_eq_some_iff.mp H
          obtain ⟨t393, A220, H⟩ := H
          replace H : (if t393 = true then ((cutplanelaw03_is.f t381 t382 t388 7).bind fun t394 => (if t394 = true then ((cutplanelaw03_known.f kj8).bind fun t395 => (some t395)) else (some false))) else (some false)) = some r := H
          have A22 := Aside0.mk A220
          clear A220
          by_cases c23 : t393 = true
          · subst c23
            have H1 : ((cutplanelaw03_is.f t381 t382 t388 7).bind fun t394 => (if t394 = true then ((cutplanelaw03_known.f kj8).bind fun t395 => (some t395)) else (some false))) = some r := by rw [if_pos rfl] at H; exact H
            clear H
            have H := H1
            clear H1
            replace H := Option.bind_eq_some_iff.mp H
            obtain ⟨t394, A240, H⟩ := H
            replace H : (if t394 = true then ((cutplanelaw03_known.f kj8).bind fun t395 => (some t395)) else (some false)) = some r := H
            have A24 := Aside0.mk A240
            clear A240
            by_cases c25 : t394 = true
            · subst c25
              have H1 : ((cutplanelaw03_known.f kj8).bind fun t395 => (some t395)) = some r := by rw [if_pos rfl] at H; exact H
              clear H
              have H := H1
              clear H1
              replace H := Option.bind_eq_some_iff.mp H
              obtain ⟨t395, A260, H⟩ := H
              replace H : (some t395) = some r := H
              have A26 := Aside0.mk A260
              clear A260
              obtain rfl := Option.some.inj H
              go_wp2_with (first | ((with_reducible refine gate_callee (f := 14) rfl ?_); refine goesL_ (some 66) rfl rfl Try.func14 (by kernel_rfl) rfl #[.int .u64 t379, .int .i64 t380, .int .u64 t386, .int .i64 x14_8] rfl (by (try simp only [List.map_toArray, List.map_cons, List.map_nil]); first | done | rfl | (simp only [List.length_drop, List.length_take]; rfl)) ?_; (with_reducible refine (cutplanelaw03_is.calls t379 t380 t386 x14_8 true _ A22.out).mono ?_); rintro e w' ⟨rfl, ⟨nd, rfl⟩⟩; refine ⟨_, rfl, ?_⟩) | (go_at_call 14; (with_reducible refine (cutplanelaw03_is.calls t381 t382 t388 7 true _ A24.out).mono ?_); rintro e w' ⟨rfl, ⟨nd, rfl⟩⟩) | (go_at_call 15; (with_reducible refine (cutplanelaw03_known.calls kj8  t395 _ A26.out).mono ?_); rintro e w27 ⟨rfl, hb⟩; have n0_ := Aside0.mk (below_step (by repeat (first | (with_reducible first | exact HB.out | apply below_alloc | apply pw_below_drewN | apply below_drew1) | exact HB.out)) hb); clear HB; have HB := n0_; clear n0_; (try clear hb); (try clear hb2); (try clear hk); (try clear hi)))
              go_ret
              exact ⟨by first | rfl | (simp [errW_none, errW_some] <;> rfl) | (simp [*, errW_none, errW_some] <;> rfl), by repeat (first | (with_reducible first | exact HB.out | apply below_alloc | apply pw_below_drewN | apply below_drew1) | exact HB.out)⟩
            · replace c25 := Bool.eq_false_iff.mpr c25
              subst c25
              have H1 : (some false) = some r := by rw [if_neg (show ¬ (false = true) by decide)] at H; exact H
              clear H
              have H := H1
              clear H1
              obtain rfl := Option.some.inj H
              go_wp2_with (first | ((with_reducible refine gate_callee (f := 14) rfl ?_); refine goesL_ (some 66) rfl rfl Try.func14 (by kernel_rfl) rfl #[.int .u64 t379, .int .i64 t380, .int .u64 t386, .int .i64 x14_8] rfl (by (try simp only [List.map_toArray, List.map_cons, List.map_nil]); first | done | rfl | (simp only [List.length_drop, List.length_take]; rfl)) ?_; (with_reducible refine (cutplanelaw03_is.calls t379 t380 t386 x14_8 true _ A22.out).mono ?_); rintro e w' ⟨rfl, ⟨nd, rfl⟩⟩; refine ⟨_, rfl, ?_⟩) | (go_at_call 14; (with_reducible refine (cutplanelaw03_is.calls t381 t382 t388 7 false _ A24.out).mono ?_); rintro e w' ⟨rfl, ⟨nd, rfl⟩⟩))
              go_ret
              exact ⟨by first | rfl | (simp [errW_none, errW_some] <;> rfl) | (simp [*, errW_none, errW_some] <;> rfl), by repeat (first | (with_reducible first | exact HB.out | apply below_alloc | apply pw_below_drewN | apply below_drew1) | exact HB.out)⟩
          · replace c23 := Bool.eq_false_iff.mpr c23
            subst c23
            have H1 : (some false) = some r := by rw [if_neg (show ¬ (false = true) by decide)] at H; exact H
            clear H
            have H := H1
            clear H1
            obtain rfl := Option.some.inj H
            go_wp2_with (first | ((with_reducible refine gate_callee (f := 14) rfl ?_); refine goesL_ (some 66) rfl rfl Try.func14 (by kernel_rfl) rfl #[.int .u64 t379, .int .i64 t380, .int .u64 t386, .int .i64 x14_8] rfl (by (try simp only [List.map_toArray, List.map_cons, List.map_nil]); first | done | rfl | (simp only [List.length_drop, List.length_take]; rfl)) ?_; (with_reducible refine (cutplanelaw03_is.calls t379 t380 t386 x14_8 false _ A22.out).mono ?_); rintro e w' ⟨rfl, ⟨nd, rfl⟩⟩; refine ⟨_, rfl, ?_⟩))
            go_ret
            exact ⟨by first | rfl | (simp [errW_none, errW_some] <;> rfl) | (simp [*, errW_none, errW_some] <;> rfl), by repeat (first | (with_reducible first | exact HB.out | apply below_alloc | apply pw_below_drewN | apply below_drew1) | exact HB.out)⟩
  · rw [if_neg c6] at H
    have c6b0 : (t378 == 0) = false := beq_eq_false_iff_ne.mpr c6
    have c6b1 : (t378 != 0) = true := bne_iff_ne.mpr c6
    replace H := Option.bind_eq_some_iff.mp H
    obtain ⟨t383, A280, H⟩ := H
    replace H : (if t383 = true then ((cutplanelaw03_is.f t381 t382 0 t378).bind fun t384 => (if t384 = true then ((cutplanelaw03_known.f k).bind fun t385 => (some t385)) else (some false))) else (some false)) = some r := H
    have A28 := Aside0.mk A280
    clear A280
    by_cases c29 : t383 = true
    · subst c29
      have H1 : ((cutplanelaw03_is.f t381 t382 0 t378).bind fun t384 => (if t384 = true then ((cutplanelaw03_known.f k).bind fun t385 => (some t385)) else (some false))) = some r := by rw [if_pos rfl] at H; exact H
      clear H
      have H := H1
      clear H1
      replace H := Option.bind_eq_some_iff.mp H
      obtain ⟨t384, A300, H⟩ := H
      replace H : (if t384 = true then ((cutplanelaw03_known.f k).bind fun t385 => (some t385)) else (some false)) = some r := H
      have A30 := Aside0.mk A300
      clear A300
      by_cases c31 : t384 = true
      · subst c31
        have H1 : ((cutplanelaw03_known.f k).bind fun t385 => (some t385)) = some r := by rw [if_pos rfl] at H; exact H
        clear H
        have H := H1
        clear H1
        replace H := Option.bind_eq_some_iff.mp H
        obtain ⟨t385, A320, H⟩ := H
        replace H : (some t385) = some r := H
        have A32 := Aside0.mk A320
        clear A320
        obtain rfl := Option.some.inj H
        go_enter Try.func7, Try.ntmps7
        go_wp2_with (first | ((with_reducible refine gate_callee (f := 19) rfl ?_); refine goesL_ (some 18) rfl rfl Try.func19 (by kernel_rfl) rfl #[.int .u8 a0, .int .u64 a1] rfl (by (try simp only [List.map_toArray, List.map_cons, List.map_nil]); first | done | rfl | (simp only [List.length_drop, List.length_take]; rfl)) ?_; (with_reducible refine (cutplaneref03_Good.calls a0 a1 t378 _ A3.out).mono ?_); rintro e w' ⟨rfl, ⟨nd, rfl⟩⟩; refine ⟨_, rfl, ?_⟩) | ((with_reducible refine gate_callee (f := 33) rfl ?_); refine goesL_ (some 22) rfl rfl Try.func33 (by kernel_rfl) rfl #[.int .u8 a0, .int .u64 a1] rfl (by (try simp only [List.map_toArray, List.map_cons, List.map_nil]); first | done | rfl | (simp only [List.length_drop, List.length_take]; rfl)) ?_; (with_reducible refine (word_Up.calls k a0 a1 t379 t380 _ A4.out).mono ?_); rintro e w33 ⟨rfl, hb⟩; refine ⟨_, rfl, ?_⟩; have n0_ := Aside0.mk (below_step (by repeat (first | (with_reducible first | exact HB.out | apply below_alloc | apply pw_below_drewN | apply below_drew1) | exact HB.out)) hb); clear HB; have HB := n0_; clear n0_; (try clear hb); (try clear hb2); (try clear hk); (try clear hi)) | ((with_reducible refine gate_callee (f := 34) rfl ?_); refine goesL_ (some 28) rfl rfl Try.func34 (by kernel_rfl) rfl #[.int .u8 a0, .int .u64 a1] rfl (by (try simp only [List.map_toArray, List.map_cons, List.map_nil]); first | done | rfl | (simp only [List.length_drop, List.length_take]; rfl)) ?_; (with_reducible refine (word_Down.calls k a0 a1 t381 t382 _ A5.out).mono ?_); rintro e w34 ⟨rfl, hb⟩; refine ⟨_, rfl, ?_⟩; have n0_ := Aside0.mk (below_step (by repeat (first | (with_reducible first | exact HB.out | apply below_alloc | apply pw_below_drewN | apply below_drew1) | exact HB.out)) hb); clear HB; have HB := n0_; clear n0_; (try clear hb); (try clear hb2); (try clear hk); (try clear hi)) | ((with_reducible refine gate_callee (f := 14) rfl ?_); refine goesL_ (some 36) rfl rfl Try.func14 (by kernel_rfl) rfl #[.int .u64 t379, .int .i64 t380, .int .u64 0, .int .i64 t378] rfl (by (try simp only [List.map_toArray, List.map_cons, List.map_nil]); first | done | rfl | (simp only [List.length_drop, List.length_take]; rfl)) ?_; (with_reducible refine (cutplanelaw03_is.calls t379 t380 0 t378 true _ A28.out).mono ?_); rintro e w' ⟨rfl, ⟨nd, rfl⟩⟩; refine ⟨_, rfl, ?_⟩) | (go_at_call 14; (with_reducible refine (cutplanelaw03_is.calls t381 t382 0 t378 true _ A30.out).mono ?_); rintro e w' ⟨rfl, ⟨nd, rfl⟩⟩) | (go_at_call 15; (with_reducible refine (cutplanelaw03_known.calls k  t385 _ A32.out).mono ?_); rintro e w35 ⟨rfl, hb⟩; have n0_ := Aside0.mk (below_step (by repeat (first | (with_reducible first | exact HB.out | apply below_alloc | apply pw_below_drewN | apply below_drew1) | exact HB.out)) hb); clear HB; have HB := n0_; clear n0_; (try clear hb); (try clear hb2); (try clear hk); (try clear hi)))
        go_ret
        exact ⟨by first | rfl | (simp [errW_none, errW_some] <;> rfl) | (simp [*, errW_none, errW_some] <;> rfl), by repeat (first | (with_reducible first | exact HB.out | apply below_alloc | apply pw_below_drewN | apply below_drew1) | exact HB.out)⟩
      · replace c31 := Bool.eq_false_iff.mpr c31
        subst c31
        have H1 : (some false) = some r := by rw [if_neg (show ¬ (false = true) by decide)] at H; exact H
        clear H
        have H := H1
        clear H1
        obtain rfl := Option.some.inj H
        go_enter Try.func7, Try.ntmps7
        go_wp2_with (first | ((with_reducible refine gate_callee (f := 19) rfl ?_); refine goesL_ (some 18) rfl rfl Try.func19 (by kernel_rfl) rfl #[.int .u8 a0, .int .u64 a1] rfl (by (try simp only [List.map_toArray, List.map_cons, List.map_nil]); first | done | rfl | (simp only [List.length_drop, List.length_take]; rfl)) ?_; (with_reducible refine (cutplaneref03_Good.calls a0 a1 t378 _ A3.out).mono ?_); rintro e w' ⟨rfl, ⟨nd, rfl⟩⟩; refine ⟨_, rfl, ?_⟩) | ((with_reducible refine gate_callee (f := 33) rfl ?_); refine goesL_ (some 22) rfl rfl Try.func33 (by kernel_rfl) rfl #[.int .u8 a0, .int .u64 a1] rfl (by (try simp only [List.map_toArray, List.map_cons, List.map_nil]); first | done | rfl | (simp only [List.length_drop, List.length_take]; rfl)) ?_; (with_reducible refine (word_Up.calls k a0 a1 t379 t380 _ A4.out).mono ?_); rintro e w36 ⟨rfl, hb⟩; refine ⟨_, rfl, ?_⟩; have n0_ := Aside0.mk (below_step (by repeat (first | (with_reducible first | exact HB.out | apply below_alloc | apply pw_below_drewN | apply below_drew1) | exact HB.out)) hb); clear HB; have HB := n0_; clear n0_; (try clear hb); (try clear hb2); (try clear hk); (try clear hi)) | ((with_reducible refine gate_callee (f := 34) rfl ?_); refine goesL_ (some 28) rfl rfl Try.func34 (by kernel_rfl) rfl #[.int .u8 a0, .int .u64 a1] rfl (by (try simp only [List.map_toArray, List.map_cons, List.map_nil]); first | done | rfl | (simp only [List.length_drop, List.length_take]; rfl)) ?_; (with_reducible refine (word_Down.calls k a0 a1 t381 t382 _ A5.out).mono ?_); rintro e w37 ⟨rfl, hb⟩; refine ⟨_, rfl, ?_⟩; have n0_ := Aside0.mk (below_step (by repeat (first | (with_reducible first | exact HB.out | apply below_alloc | apply pw_below_drewN | apply below_drew1) | exact HB.out)) hb); clear HB; have HB := n0_; clear n0_; (try clear hb); (try clear hb2); (try clear hk); (try clear hi)) | ((with_reducible refine gate_callee (f := 14) rfl ?_); refine goesL_ (some 36) rfl rfl Try.func14 (by kernel_rfl) rfl #[.int .u64 t379, .int .i64 t380, .int .u64 0, .int .i64 t378] rfl (by (try simp only [List.map_toArray, List.map_cons, List.map_nil]); first | done | rfl | (simp only [List.length_drop, List.length_take]; rfl)) ?_; (with_reducible refine (cutplanelaw03_is.calls t379 t380 0 t378 true _ A28.out).mono ?_); rintro e w' ⟨rfl, ⟨nd, rfl⟩⟩; refine ⟨_, rfl, ?_⟩) | (go_at_call 14; (with_reducible refine (cutplanelaw03_is.calls t381 t382 0 t378 false _ A30.out).mono ?_); rintro e w' ⟨rfl, ⟨nd, rfl⟩⟩))
        go_ret
        exact ⟨by first | rfl | (simp [errW_none, errW_some] <;> rfl) | (simp [*, errW_none, errW_some] <;> rfl), by repeat (first | (with_reducible first | exact HB.out | apply below_alloc | apply pw_below_drewN | apply below_drew1) | exact HB.out)⟩
    · replace c29 := Bool.eq_false_iff.mpr c29
      subst c29
      have H1 : (some false) = some r := by rw [if_neg (show ¬ (false = true) by decide)] at H; exact H
      clear H
      have H := H1
      clear H1
      obtain rfl := Option.some.inj H
      go_enter Try.func7, Try.ntmps7
      go_wp2_with (first | ((with_reducible refine gate_callee (f := 19) rfl ?_); refine goesL_ (some 18) rfl rfl Try.func19 (by kernel_rfl) rfl #[.int .u8 a0, .int .u64 a1] rfl (by (try simp only [List.map_toArray, List.map_cons, List.map_nil]); first | done | rfl | (simp only [List.length_drop, List.length_take]; rfl)) ?_; (with_reducible refine (cutplaneref03_Good.calls a0 a1 t378 _ A3.out).mono ?_); rintro e w' ⟨rfl, ⟨nd, rfl⟩⟩; refine ⟨_, rfl, ?_⟩) | ((with_reducible refine gate_callee (f := 33) rfl ?_); refine goesL_ (some 22) rfl rfl Try.func33 (by kernel_rfl) rfl #[.int .u8 a0, .int .u64 a1] rfl (by (try simp only [List.map_toArray, List.map_cons, List.map_nil]); first | done | rfl | (simp only [List.length_drop, List.length_take]; rfl)) ?_; (with_reducible refine (word_Up.calls k a0 a1 t379 t380 _ A4.out).mono ?_); rintro e w38 ⟨rfl, hb⟩; refine ⟨_, rfl, ?_⟩; have n0_ := Aside0.mk (below_step (by repeat (first | (with_reducible first | exact HB.out | apply below_alloc | apply pw_below_drewN | apply below_drew1) | exact HB.out)) hb); clear HB; have HB := n0_; clear n0_; (try clear hb); (try clear hb2); (try clear hk); (try clear hi)) | ((with_reducible refine gate_callee (f := 34) rfl ?_); refine goesL_ (some 28) rfl rfl Try.func34 (by kernel_rfl) rfl #[.int .u8 a0, .int .u64 a1] rfl (by (try simp only [List.map_toArray, List.map_cons, List.map_nil]); first | done | rfl | (simp only [List.length_drop, List.length_take]; rfl)) ?_; (with_reducible refine (word_Down.calls k a0 a1 t381 t382 _ A5.out).mono ?_); rintro e w39 ⟨rfl, hb⟩; refine ⟨_, rfl, ?_⟩; have n0_ := Aside0.mk (below_step (by repeat (first | (with_reducible first | exact HB.out | apply below_alloc | apply pw_below_drewN | apply below_drew1) | exact HB.out)) hb); clear HB; have HB := n0_; clear n0_; (try clear hb); (try clear hb2); (try clear hk); (try clear hi)) | ((with_reducible refine gate_callee (f := 14) rfl ?_); refine goesL_ (some 36) rfl rfl Try.func14 (by kernel_rfl) rfl #[.int .u64 t379, .int .i64 t380, .int .u64 0, .int .i64 t378] rfl (by (try simp only [List.map_toArray, List.map_cons, List.map_nil]); first | done | rfl | (simp only [List.length_drop, List.length_take]; rfl)) ?_; (with_reducible refine (cutplanelaw03_is.calls t379 t380 0 t378 false _ A28.out).mono ?_); rintro e w' ⟨rfl, ⟨nd, rfl⟩⟩; refine ⟨_, rfl, ?_⟩))
      go_ret
      exact ⟨by first | rfl | (simp [errW_none, errW_some] <;> rfl) | (simp [*, errW_none, errW_some] <;> rfl), by repeat (first | (with_reducible first | exact HB.out | apply below_alloc | apply pw_below_drewN | apply below_drew1) | exact HB.out)⟩

/-- THE ONE PURE STATEMENT of cutplanelaw03_WordSteps: yours. -/
def cutplanelaw03_WordSteps.Pure : Prop := ∀ (a0 : Int) (a1 : Int), (Lit.int .u8 a0).wf = true → (Lit.int .u64 a1).wf = true → ∃ k, cutplanelaw03_WordSteps.f k a0 a1 = some true
theorem cutplanelaw03_WordSteps.walk (P : cutplanelaw03_WordSteps.Pure) (a0 : Int) (a1 : Int) (w : World) (w0 : (Lit.int .u8 a0).wf = true) (w1 : (Lit.int .u64 a1).wf = true) :
    Calls Try.prog 7 #[.int .u8 a0, .int .u64 a1] w fun e w' => e = .returned (.bool true) ∧ Below w.heap.size w w' := by
  obtain ⟨k, h⟩ := P a0 a1 w0 w1
  refine (cutplanelaw03_WordSteps.calls k a0 a1 true w h).mono ?_
  rintro e w' ⟨rfl, hd⟩
  exact ⟨rfl, hd⟩

end Go.Proofs.Ythiklmgdmaemgaa.PA
