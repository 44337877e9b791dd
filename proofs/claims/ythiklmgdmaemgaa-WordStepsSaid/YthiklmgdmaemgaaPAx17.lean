/- Go functions of this seat told as plain Lean functions, each with the proof that its call comes to just what it tells, and the rows over them; written by a program (wip/tools/xprint.sh). No condition beyond those that each text names. -/
import Derived.Test.YthiklmgdmaemgaaPAx0
import Derived.Test.YthiklmgdmaemgaaPAx7
import Derived.Test.YthiklmgdmaemgaaPAx9
import Derived.Test.YthiklmgdmaemgaaPAx10
import Derived.Test.YthiklmgdmaemgaaPAx13
namespace Go.Proofs.Ythiklmgdmaemgaa.PA
open Go.RowKit Go.Proofs.YthiklmgdmaemgaaW.PrintWords Go.Proofs.YthiklmgdmaemgaaW.PrintLast Go.Proofs.YthiklmgdmaemgaaW.PrintMore
attribute [local go_sem] max2_int min2_int max_two min_two max_three min_three max_four min_four   -- for this text's walks alone
set_option linter.unusedVariables false
set_option linter.unusedSimpArgs false

/-! ### cutplaneref03_Up: function 35 -/
def cutplaneref03_Up.j0 : Nat → Int → Int → Bool → Bool → Option (Int × Bool)
  | 0, _, _, _, _ => none
  | k + 1, x1, x6, x7, x24 => if x24 = true then (some (0, false)) else (if x6 = 1 then (some (1, true)) else (if x7 = true then (some (IntKind.u64.wrap (x1 - 1), true)) else (some (IntKind.u64.wrap (x1 + 1), true))))
def cutplaneref03_Up.f (k : Nat) (a0 : Int) (a1 : Int) : Option (Int × Bool) := (cutplaneref03_Class.f k a0 a1).bind fun t361 => ((cutplaneref03_Split.f a0 a1).bind fun bt362 => (if t361 = 5 then ((cutplaneref03_None.f a0).bind fun t365 => (some (t365, true))) else (if t361 = 4 then (if bt362.1 = true then (cutplaneref03_Up.j0 k a1 t361 bt362.1 false) else (cutplaneref03_Up.j0 k a1 t361 bt362.1 true)) else (cutplaneref03_Up.j0 k a1 t361 bt362.1 false))))
theorem cutplaneref03_Up.mono_l : ∀ k, (∀ y0 y1 y2 y3, LeO (cutplaneref03_Up.j0 k y0 y1 y2 y3) (cutplaneref03_Up.j0 (k + 1) y0 y1 y2 y3))
  | 0 => fun _ _ _ _ r h => by simp [cutplaneref03_Up.j0] at h
  | k + 1 => by
    have ih0 := cutplaneref03_Up.mono_l k
    · intro y0 y1 y2 y3
      unfold cutplaneref03_Up.j0
      repeat' first
      | (with_reducible exact ih0 _ _ _ _)
      | (with_reducible exact cutplaneref03_Class.mono _ _ _)
      | (with_reducible exact LeO.refl _)
      | (with_reducible exact LeO.none _)
      | (with_reducible refine LeO.ite ?_ ?_)
      | (with_reducible refine LeO.bind ?_ (fun _ => ?_))
      | exact ih0 _ _ _ _
      | exact cutplaneref03_Class.mono _ _ _
      | exact LeO.none _
      | refine LeO.ite ?_ ?_
      | refine LeO.bind ?_ (fun _ => ?_)
theorem cutplaneref03_Up.mono : ∀ a0 a1 k, LeO (cutplaneref03_Up.f k a0 a1) (cutplaneref03_Up.f (k + 1) a0 a1) := by
  intro a0 a1 k
  have ih0 := cutplaneref03_Up.mono_l k
  unfold cutplaneref03_Up.f
  repeat' first
      | (with_reducible exact ih0 _ _ _ _)
      | (with_reducible exact cutplaneref03_Class.mono _ _ _)
      | (with_reducible exact LeO.refl _)
      | (with_reducible exact LeO.none _)
      | (with_reducible refine LeO.ite ?_ ?_)
      | (with_reducible refine LeO.bind ?_ (fun _ => ?_))
      | exact ih0 _ _ _ _
      | exact cutplaneref03_Class.mono _ _ _
      | exact LeO.none _
      | refine LeO.ite ?_ ?_
      | refine LeO.bind ?_ (fun _ => ?_)
set_option maxHeartbeats 2000000 in
set_option maxRecDepth 100000 in
theorem cutplaneref03_Up.calls (k : Nat) (a0 : Int) (a1 : Int) (r1 : Int) (r2 : Bool) (w : World) (h : cutplaneref03_Up.f k a0 a1 = some (r1, r2)) :
    Calls Try.prog 35 #[.int .u8 a0, .int .u64 a1] w fun e w' => e = .returned (.tuple #[.int .u64 r1, .bool r2]) ∧ Below w.heap.size w w' := by
  have hfd36_0 : ∀ (v0_ v1_ v2_ : Value) (w : World), (Instr.field 36 (.agg #[v0_, v1_, v2_]) 0).run Try.prog w = .ok v0_ w := fun _ _ _ _ => by kernel_rfl
  have HB := Aside0.mk (Below.refl w.heap.size w)
  have H : ((cutplaneref03_Class.f k a0 a1).bind fun t361 => ((cutplaneref03_Split.f a0 a1).bind fun bt362 => (if t361 = 5 then ((cutplaneref03_None.f a0).bind fun t365 => (some (t365, true))) else (if t361 = 4 then (if bt362.1 = true then (cutplaneref03_Up.j0 k a1 t361 bt362.1 false) else (cutplaneref03_Up.j0 k a1 t361 bt362.1 true)) else (cutplaneref03_Up.j0 k a1 t361 bt362.1 false))))) = some (r1, r2) := h
  clear h
  replace H := Option.bind_eq_some_iff.mp H
  obtain ⟨t361, A30, H⟩ := H
  replace H : ((cutplaneref03_Split.f a0 a1).bind fun bt362 => (if t361 = 5 then ((cutplaneref03_None.f a0).bind fun t365 => (some (t365, true))) else (if t361 = 4 then (if bt362.1 = true then (cutplaneref03_Up.j0 k a1 t361 bt362.1 false) else (cutplaneref03_Up.j0 k a1 t361 bt362.1 true)) else (cutplaneref03_Up.j0 k a1 t361 bt362.1 false)))) = some (r1, r2) := H
  have A3 := Aside0.mk A30
  clear A30
  replace H := Option.bind_eq_some_iff.mp H
  obtain ⟨⟨t362, t363, t364⟩, A40, H⟩ := H
  replace H : (if t361 = 5 then ((cutplaneref03_None.f a0).bind fun t365 => (some (t365, true))) else (if t361 = 4 then (if t362 = true then (cutplaneref03_Up.j0 k a1 t361 t362 false) else (cutplaneref03_Up.j0 k a1 t361 t362 true)) else (cutplaneref03_Up.j0 k a1 t361 t362 false))) = some (r1, r2) := H
  have A4 := Aside0.mk A40
  clear A40
  by_cases c5 : t361 = 5
  · rw [if_pos c5] at H
    have c5b0 : (t361 == 5) = true := beq_iff_eq.mpr c5
    have c5b1 : (t361 != 5) = false := bne_eq_false_iff_eq.mpr c5
    clear c5
    replace H := Option.bind_eq_some_iff.mp H
    obtain ⟨t365, A60, H⟩ := H
    replace H : (some (t365, true)) = some (r1, r2) := H
    have A6 := Aside0.mk A60
    clear A60
    simp only [Option.some.injEq, Prod.mk.injEq] at H
    obtain ⟨rfl, rfl⟩ := H
    go_enter Try.func35, Try.ntmps35
    go_wp2_with (first | ((with_reducible refine gate_callee (f := 24) rfl ?_); refine goesL_ (some 10) rfl rfl Try.func24 (by kernel_rfl) rfl #[.int .u8 a0, .int .u64 a1] rfl (by (try simp only [List.map_toArray, List.map_cons, List.map_nil]); first | done | rfl | (simp only [List.length_drop, List.length_take]; rfl)) ?_; (with_reducible refine (cutplaneref03_Class.calls k a0 a1 t361 _ A3.out).mono ?_); rintro e w7 ⟨rfl, hb⟩; refine ⟨_, rfl, ?_⟩; have n0_ := Aside0.mk (below_step (by repeat (first | (with_reducible first | exact HB.out | apply below_alloc | apply pw_below_drewN | apply below_drew1) | exact HB.out)) hb); clear HB; have HB := n0_; clear n0_; (try clear hb); (try clear hb2); (try clear hk); (try clear hi)) | ((with_reducible refine gate_callee (f := 23) rfl ?_); refine goesL_ (some 13) rfl rfl Try.func23 (by kernel_rfl) rfl #[.int .u8 a0, .int .u64 a1] rfl (by (try simp only [List.map_toArray, List.map_cons, List.map_nil]); first | done | rfl | (simp only [List.length_drop, List.length_take]; rfl)) ?_; (with_reducible refine (cutplaneref03_Split.calls a0 a1 t362 t363 t364 _ A4.out).mono ?_); rintro e w8 ⟨rfl, hb⟩; refine ⟨_, rfl, ?_⟩; have n0_ := Aside0.mk (below_step (by repeat (first | (with_reducible first | exact HB.out | apply below_alloc | apply pw_below_drewN | apply below_drew1) | exact HB.out)) hb); clear HB; have HB := n0_; clear n0_; (try clear hb); (try clear hb2); (try clear hk); (try clear hi)) | ((with_reducible refine gate_callee (f := 18) rfl ?_); refine goesL_ (some 18) rfl rfl Try.func18 (by kernel_rfl) rfl #[.int .u8 a0] rfl (by (try simp only [List.map_toArray, List.map_cons, List.map_nil]); first | done | rfl | (simp only [List.length_drop, List.length_take]; rfl)) ?_; (with_reducible refine (cutplaneref03_None.calls a0 t365 _ A6.out).mono ?_); rintro e w9 ⟨rfl, hb⟩; refine ⟨_, rfl, ?_⟩; have n0_ := Aside0.mk (below_step (by repeat (first | (with_reducible first | exact HB.out | apply below_alloc | apply pw_below_drewN | apply below_drew1) | exact HB.out)) hb); clear HB; have HB := n0_; clear n0_; (try clear hb); (try clear hb2); (try clear hk); (try clear hi)))
    go_ret2
    exact ⟨by first | rfl | (simp [errW_none, errW_some] <;> rfl) | (simp [*, errW_none, errW_some] <;> rfl), by repeat (first | (with_reducible first | exact HB.out | apply below_alloc | apply pw_below_drewN | apply below_drew1) | exact HB.out)⟩
  · rw [if_neg c5] at H
    have c5b0 : (t361 == 5) = false := beq_eq_false_iff_ne.mpr c5
    have c5b1 : (t361 != 5) = true := bne_iff_ne.mpr c5
    have HC10 := Aside0.mk H
    clear H
    go_enter Try.func35, Try.ntmps35
    go_upto_region 5 with (first | ((with_reducible refine gate_callee (f := 24) rfl ?_); refine goesL_ (some 10) rfl rfl Try.func24 (by kernel_rfl) rfl #[.int .u8 a0, .int .u64 a1] rfl (by (try simp only [List.map_toArray, List.map_cons, List.map_nil]); first | done | rfl | (simp only [List.length_drop, List.length_take]; rfl)) ?_; (with_reducible refine (cutplaneref03_Class.calls k a0 a1 t361 _ A3.out).mono ?_); rintro e w11 ⟨rfl, hb⟩; refine ⟨_, rfl, ?_⟩; have n0_ := Aside0.mk (below_step (by repeat (first | (with_reducible first | exact HB.out | apply below_alloc | apply pw_below_drewN | apply below_drew1) | exact HB.out)) hb); clear HB; have HB := n0_; clear n0_; (try clear hb); (try clear hb2); (try clear hk); (try clear hi)) | ((with_reducible refine gate_callee (f := 23) rfl ?_); refine goesL_ (some 13) rfl rfl Try.func23 (by kernel_rfl) rfl #[.int .u8 a0, .int .u64 a1] rfl (by (try simp only [List.map_toArray, List.map_cons, List.map_nil]); first | done | rfl | (simp only [List.length_drop, List.length_take]; rfl)) ?_; (with_reducible refine (cutplaneref03_Split.calls a0 a1 t362 t363 t364 _ A4.out).mono ?_); rintro e w12 ⟨rfl, hb⟩; refine ⟨_, rfl, ?_⟩; have n0_ := Aside0.mk (below_step (by repeat (first | (with_reducible first | exact HB.out | apply below_alloc | apply pw_below_drewN | apply below_drew1) | exact HB.out)) hb); clear HB; have HB := n0_; clear n0_; (try clear hb); (try clear hb2); (try clear hk); (try clear hi)))
    (try simp only [Act.put, List.setIfInBounds_toArray, List.set_cons_zero, List.set_cons_succ])
    go_cut [24] (fun v24 wc => ∃ (kq : Nat) (x24_9 : Bool), v24 = .bool x24_9 ∧ Aside0 (cutplaneref03_Up.j0 kq a1 t361 t362 x24_9 = some (r1, r2)) ∧ Aside0 (kq ≤ k) ∧ Aside0 (Below w.heap.size w wc))
    case first =>
      have H := HC10.out
      clear HC10
      by_cases c13 : t361 = 4
      · rw [if_pos c13] at H
        have c13b0 : (t361 == 4) = true := beq_iff_eq.mpr c13
        have c13b1 : (t361 != 4) = false := bne_eq_false_iff_eq.mpr c13
        clear c13
        (first | rw [c13b0] | (simp only [i64_w, i32_w]; rw [c13b0]) | skip)
        by_cases c14 : t362 = true
        · subst c14
          have H1 : (cutplaneref03_Up.j0 k a1 t361 true false) = some (r1, r2) := by rw [if_pos rfl] at H; exact H
          clear H
          have H := H1
          clear H1
          have H' := Aside0.mk H
          clear H
          go_wp2
          go_meet
          case rel => exact ⟨_, (false), (by first | rfl | (simp; done) | (simp [*]; done)), H', ⟨by first | omega | exact Nat.le_refl _⟩, ⟨by repeat (first | (with_reducible first | exact HB.out | apply below_alloc | apply pw_below_drewN | apply below_drew1) | exact HB.out)⟩⟩
        · replace c14 := Bool.eq_false_iff.mpr c14
          subst c14
          have H1 : (cutplaneref03_Up.j0 k a1 t361 false true) = some (r1, r2) := by rw [if_neg (show ¬ (false = true) by decide)] at H; exact H
          clear H
          have H := H1
          clear H1
          have H' := Aside0.mk H
          clear H
          go_wp2
          go_meet
          case rel => exact ⟨_, (true), (by first | rfl | (simp; done) | (simp [*]; done)), H', ⟨by first | omega | exact Nat.le_refl _⟩, ⟨by repeat (first | (with_reducible first | exact HB.out | apply below_alloc | apply pw_below_drewN | apply below_drew1) | exact HB.out)⟩⟩
      · rw [if_neg c13] at H
        have c13b0 : (t361 == 4) = false := beq_eq_false_iff_ne.mpr c13
        have c13b1 : (t361 != 4) = true := bne_iff_ne.mpr c13
        (first | rw [c13b0] | (simp only [i64_w, i32_w]; rw [c13b0]) | skip)
        have H' := Aside0.mk H
        clear H
        go_wp2
        go_meet
        case rel => exact ⟨_, (false), (by first | rfl | (simp; done) | (simp [*]; done)), H', ⟨by first | omega | exact Nat.le_refl _⟩, ⟨by repeat (first | (with_reducible first | exact HB.out | apply below_alloc | apply pw_below_drewN | apply below_drew1) | exact HB.out)⟩⟩
    case rest =>
      clear HC10
      try clear c1
      try clear c2
      try clear p2
      try clear c3
      try clear c5
      try clear c5b0
      try clear c5b1
      try clear c13
      try clear c13b0
      try clear c13b1
      try clear c14
      obtain ⟨kq, x24_9, rfl, HA, HJ9, HB⟩ := hcut
      cases kq with
      | zero => exact absurd HA.out (by simp [cutplaneref03_Up.j0])
      | succ kj9 =>
        have H := HA.out
        clear HA
        simp only [cutplaneref03_Up.j0] at H
        by_cases c15 : x24_9 = true
        · subst c15
          have H1 : (some (0, false)) = some (r1, r2) := by rw [if_pos rfl] at H; exact H
          clear H
          have H := H1
          clear H1
          simp only [Option.some.injEq, Prod.mk.injEq] at H
          obtain ⟨rfl, rfl⟩ := H
          go_wp2
          go_ret2
          exact ⟨by first | rfl | (simp [errW_none, errW_some] <;> rfl) | (simp [*, errW_none, errW_some] <;> rfl), by repeat (first | (with_reducible first | exact HB.out | apply below_alloc | apply pw_below_drewN | apply below_drew1) | exact HB.out)⟩
        · replace c15 := Bool.eq_false_iff.mpr c15
          subst c15
          have H1 : (if t361 = 1 then (some (1, true)) else (if t362 = true then (some (IntKind.u64.wrap (a1 - 1), true)) else (some (IntKind.u64.wrap (a1 + 1), true)))) = some (r1, r2) := by rw [if_neg (show ¬ (false = true) by decide)] at H; exact H
          clear H
          have H := H1
          clear H1
          by_cases c16 : t361 = 1
          · rw [if_pos c16] at H
            have c16b0 : (t361 == 1) = true := beq_iff_eq.mpr c16
            have c16b1 : (t361 != 1) = false := bne_eq_false_iff_eq.mpr c16
            clear c16
            simp only [Option.some.injEq, Prod.mk.injEq] at H
            obtain ⟨rfl, rfl⟩ := H
            go_wp2
            go_ret2
            exact ⟨by first | rfl | (simp [errW_none, errW_some] <;> rfl) | (simp [*, errW_none, errW_some] <;> rfl), by repeat (first | (with_reducible first | exact HB.out | apply below_alloc | apply pw_below_drewN | apply below_drew1) | exact HB.out)⟩
          · rw [if_neg c16] at H
            have c16b0 : (t361 == 1) = false := beq_eq_false_iff_ne.mpr c16
            have c16b1 : (t361 != 1) = true := bne_iff_ne.mpr c16
            by_cases c17 : t362 = true
            · subst c17
              have H1 : (some (IntKind.u64.wrap (a1 - 1), true)) = some (r1, r2) := by rw [if_pos rfl] at H; exact H
              clear H
              have H := H1
              clear H1
              simp only [Option.some.injEq, Prod.mk.injEq] at H
              obtain ⟨rfl, rfl⟩ := H
              go_wp2
              go_ret2
              exact ⟨by first | rfl | (simp [errW_none, errW_some] <;> rfl) | (simp [*, errW_none, errW_some] <;> rfl), by repeat (first | (with_reducible first | exact HB.out | apply below_alloc | apply pw_below_drewN | apply below_drew1) | exact HB.out)⟩
            · replace c17 := Bool.eq_false_iff.mpr c17
              subst c17
              have H1 : (some (IntKind.u64.wrap (a1 + 1), true)) = some (r1, r2) := by rw [if_neg (show ¬ (false = true) by decide)] at H; exact H
              clear H
              have H := H1
              clear H1
              simp only [Option.some.injEq, Prod.mk.injEq] at H
              obtain ⟨rfl, rfl⟩ := H
              go_wp2
              go_ret2
              exact ⟨by first | rfl | (simp [errW_none, errW_some] <;> rfl) | (simp [*, errW_none, errW_some] <;> rfl), by repeat (first | (with_reducible first | exact HB.out | apply below_alloc | apply pw_below_drewN | apply below_drew1) | exact HB.out)⟩

/-! ### cutplaneref03_Down: function 36 -/
def cutplaneref03_Down.f (k : Nat) (a0 : Int) (a1 : Int) : Option (Int × Bool) := (cutplaneref03_Split.f a0 a1).bind fun bt366 => ((cutplaneref03_Signed.f a0 a1 (!bt366.1)).bind fun t369 => ((cutplaneref03_Canon.f k a0 t369).bind fun t370 => ((cutplaneref03_Up.f k a0 t370).bind fun bt371 => (if bt371.2 = true then ((cutplaneref03_Class.f k a0 bt371.1).bind fun t373 => (if t373 = 5 then (some (bt371.1, true)) else ((cutplaneref03_Split.f a0 bt371.1).bind fun bt374 => ((cutplaneref03_Signed.f a0 bt371.1 (!bt374.1)).bind fun t377 => (some (t377, true)))))) else (some (0, false))))))
theorem cutplaneref03_Down.mono : ∀ a0 a1 k, LeO (cutplaneref03_Down.f k a0 a1) (cutplaneref03_Down.f (k + 1) a0 a1) := by
  intro a0 a1 k
  unfold cutplaneref03_Down.f
  repeat' first
      | (with_reducible exact cutplaneref03_Canon.mono _ _ _)
      | (with_reducible exact cutplaneref03_Class.mono _ _ _)
      | (with_reducible exact cutplaneref03_Up.mono _ _ _)
      | (with_reducible exact LeO.refl _)
      | (with_reducible exact LeO.none _)
      | (with_reducible refine LeO.ite ?_ ?_)
      | (with_reducible refine LeO.bind ?_ (fun _ => ?_))
      | exact cutplaneref03_Canon.mono _ _ _
      | exact cutplaneref03_Class.mono _ _ _
      | exact cutplaneref03_Up.mono _ _ _
      | exact LeO.none _
      | refine LeO.ite ?_ ?_
      | refine LeO.bind ?_ (fun _ => ?_)
set_option maxHeartbeats 2000000 in
set_option maxRecDepth 100000 in
theorem cutplaneref03_Down.calls (k : Nat) (a0 : Int) (a1 : Int) (r1 : Int) (r2 : Bool) (w : World) (h : cutplaneref03_Down.f k a0 a1 = some (r1, r2)) :
    Calls Try.prog 36 #[.int .u8 a0, .int .u64 a1] w fun e w' => e = .returned (.tuple #[.int .u64 r1, .bool r2]) ∧ Below w.heap.size w w' := by
  have hfd36_0 : ∀ (v0_ v1_ v2_ : Value) (w : World), (Instr.field 36 (.agg #[v0_, v1_, v2_]) 0).run Try.prog w = .ok v0_ w := fun _ _ _ _ => by kernel_rfl
  have HB := Aside0.mk (Below.refl w.heap.size w)
  have H : ((cutplaneref03_Split.f a0 a1).bind fun bt366 => ((cutplaneref03_Signed.f a0 a1 (!bt366.1)).bind fun t369 => ((cutplaneref03_Canon.f k a0 t369).bind fun t370 => ((cutplaneref03_Up.f k a0 t370).bind fun bt371 => (if bt371.2 = true then ((cutplaneref03_Class.f k a0 bt371.1).bind fun t373 => (if t373 = 5 then (some (bt371.1, true)) else ((cutplaneref03_Split.f a0 bt371.1).bind fun bt374 => ((cutplaneref03_Signed.f a0 bt371.1 (!bt374.1)).bind fun t377 => (some (t377, true)))))) else (some (0, false))))))) = some (r1, r2) := h
  clear h
  replace H := Option.bind_eq_some_iff.mp H
  obtain ⟨⟨t366, t367, t368⟩, A30, H⟩ := H
  replace H : ((cutplaneref03_Signed.f a0 a1 (!t366)).bind fun t369 => ((cutplaneref03_Canon.f k a0 t369).bind fun t370 => ((cutplaneref03_Up.f k a0 t370).bind fun bt371 => (if bt371.2 = true then ((cutplaneref03_Class.f k a0 bt371.1).bind fun t373 => (if t373 = 5 then (some (bt371.1, true)) else ((cutplaneref03_Split.f a0 bt371.1).bind fun bt374 => ((cutplaneref03_Signed.f a0 bt371.1 (!bt374.1)).bind fun t377 => (some (t377, true)))))) else (some (0, false)))))) = some (r1, r2) := H
  have A3 := Aside0.mk A30
  clear A30
  replace H := Option.bind_eq_some_iff.mp H
  obtain ⟨t369, A40, H⟩ := H
  replace H : ((cutplaneref03_Canon.f k a0 t369).bind fun t370 => ((cutplaneref03_Up.f k a0 t370).bind fun bt371 => (if bt371.2 = true then ((cutplaneref03_Class.f k a0 bt371.1).bind fun t373 => (if t373 = 5 then (some (bt371.1, true)) else ((cutplaneref03_Split.f a0 bt371.1).bind fun bt374 => ((cutplaneref03_Signed.f a0 bt371.1 (!bt374.1)).bind fun t377 => (some (t377, true)))))) else (some (0, false))))) = some (r1, r2) := H
  have A4 := Aside0.mk A40
  clear A40
  replace H := Option.bind_eq_some_iff.mp H
  obtain ⟨t370, A50, H⟩ := H
  replace H : ((cutplaneref03_Up.f k a0 t370).bind fun bt371 => (if bt371.2 = true then ((cutplaneref03_Class.f k a0 bt371.1).bind fun t373 => (if t373 = 5 then (some (bt371.1, true)) else ((cutplaneref03_Split.f a0 bt371.1).bind fun bt374 => ((cutplaneref03_Signed.f a0 bt371.1 (!bt374.1)).bind fun t377 => (some (t377, true)))))) else (some (0, false)))) = some (r1, r2) := H
  have A5 := Aside0.mk A50
  clear A50
  replace H := Option.bind_eq_some_iff.mp H
  obtain ⟨⟨t371, t372⟩, A60, H⟩ := H
  replace H : (if t372 = true then ((cutplaneref03_Class.f k a0 t371).bind fun t373 => (if t373 = 5 then (some (t371, true)) else ((cutplaneref03_Split.f a0 t371).bind fun bt374 => ((cutplaneref03_Signed.f a0 t371 (!bt374.1)).bind fun t377 => (some (t377, true)))))) else (some (0, false))) = some (r1, r2) := H
  have A6 := Aside0.mk A60
  clear A60
  by_cases c7 : t372 = true
  · subst c7
    have H1 : ((cutplaneref03_Class.f k a0 t371).bind fun t373 => (if t373 = 5 then (some (t371, true)) else ((cutplaneref03_Split.f a0 t371).bind fun bt374 => ((cutplaneref03_Signed.f a0 t371 (!bt374.1)).bind fun t377 => (some (t377, true)))))) = some (r1, r2) := by rw [if_pos rfl] at H; exact H
    clear H
    have H := H1
    clear H1
    replace H := Option.bind_eq_some_iff.mp H
    obtain ⟨t373, A80, H⟩ := H
    replace H : (if t373 = 5 then (some (t371, true)) else ((cutplaneref03_Split.f a0 t371).bind fun bt374 => ((cutplaneref03_Signed.f a0 t371 (!bt374.1)).bind fun t377 => (some (t377, true))))) = some (r1, r2) := H
    have A8 := Aside0.mk A80
    clear A80
    by_cases c9 : t373 = 5
    · rw [if_pos c9] at H
      have c9b0 : (t373 == 5) = true := beq_iff_eq.mpr c9
      have c9b1 : (t373 != 5) = false := bne_eq_false_iff_eq.mpr c9
      clear c9
      simp only [Option.some.injEq, Prod.mk.injEq] at H
      obtain ⟨rfl, rfl⟩ := H
      go_enter Try.func36, Try.ntmps36
      go_wp2_with (first | ((with_reducible refine gate_callee (f := 23) rfl ?_); refine goesL_ (some 15) rfl rfl Try.func23 (by kernel_rfl) rfl #[.int .u8 a0, .int .u64 a1] rfl (by (try simp only [List.map_toArray, List.map_cons, List.map_nil]); first | done | rfl | (simp only [List.length_drop, List.length_take]; rfl)) ?_; (with_reducible refine (cutplaneref03_Split.calls a0 a1 t366 t367 t368 _ A3.out).mono ?_); rintro e w10 ⟨rfl, hb⟩; refine ⟨_, rfl, ?_⟩; have n0_ := Aside0.mk (below_step (by repeat (first | (with_reducible first | exact HB.out | apply below_alloc | apply pw_below_drewN | apply below_drew1) | exact HB.out)) hb); clear HB; have HB := n0_; clear n0_; (try clear hb); (try clear hb2); (try clear hk); (try clear hi)) | ((with_reducible refine gate_callee (f := 17) rfl ?_); refine goesL_ (some 18) rfl rfl Try.func17 (by kernel_rfl) rfl #[.int .u8 a0, .int .u64 a1, .bool (!t366)] rfl (by (try simp only [List.map_toArray, List.map_cons, List.map_nil]); first | done | rfl | (simp only [List.length_drop, List.length_take]; rfl)) ?_; (with_reducible refine (cutplaneref03_Signed.calls a0 a1 (!t366) t369 _ A4.out).mono ?_); rintro e w' ⟨rfl, ⟨nd, rfl⟩⟩; refine ⟨_, rfl, ?_⟩) | ((with_reducible refine gate_callee (f := 32) rfl ?_); refine goesL_ (some 19) rfl rfl Try.func32 (by kernel_rfl) rfl #[.int .u8 a0, .int .u64 t369] rfl (by (try simp only [List.map_toArray, List.map_cons, List.map_nil]); first | done | rfl | (simp only [List.length_drop, List.length_take]; rfl)) ?_; (with_reducible refine (cutplaneref03_Canon.calls k a0 t369 t370 _ A5.out).mono ?_); rintro e w11 ⟨rfl, hb⟩; refine ⟨_, rfl, ?_⟩; have n0_ := Aside0.mk (below_step (by repeat (first | (with_reducible first | exact HB.out | apply below_alloc | apply pw_below_drewN | apply below_drew1) | exact HB.out)) hb); clear HB; have HB := n0_; clear n0_; (try clear hb); (try clear hb2); (try clear hk); (try clear hi)) | ((with_reducible refine gate_callee (f := 35) rfl ?_); refine goesL_ (some 20) rfl rfl Try.func35 (by kernel_rfl) rfl #[.int .u8 a0, .int .u64 t370] rfl (by (try simp only [List.map_toArray, List.map_cons, List.map_nil]); first | done | rfl | (simp only [List.length_drop, List.length_take]; rfl)) ?_; (with_reducible refine (cutplaneref03_Up.calls k a0 t370 t371 true _ A6.out).mono ?_); rintro e w12 ⟨rfl, hb⟩; refine ⟨_, rfl, ?_⟩; have n0_ := Aside0.mk (below_step (by repeat (first | (with_reducible first | exact HB.out | apply below_alloc | apply pw_below_drewN | apply below_drew1) | exact HB.out)) hb); clear HB; have HB := n0_; clear n0_; (try clear hb); (try clear hb2); (try clear hk); (try clear hi)) | ((with_reducible refine gate_callee (f := 24) rfl ?_); refine goesL_ (some 27) rfl rfl Try.func24 (by kernel_rfl) rfl #[.int .u8 a0, .int .u64 t371] rfl (by (try simp only [List.map_toArray, List.map_cons, List.map_nil]); first | done | rfl | (simp only [List.length_drop, List.length_take]; rfl)) ?_; (with_reducible refine (cutplaneref03_Class.calls k a0 t371 t373 _ A8.out).mono ?_); rintro e w13 ⟨rfl, hb⟩; refine ⟨_, rfl, ?_⟩; have n0_ := Aside0.mk (below_step (by repeat (first | (with_reducible first | exact HB.out | apply below_alloc | apply pw_below_drewN | apply below_drew1) | exact HB.out)) hb); clear HB; have HB := n0_; clear n0_; (try clear hb); (try clear hb2); (try clear hk); (try clear hi)))
      go_ret2
      exact ⟨by first | rfl | (simp [errW_none, errW_some] <;> rfl) | (simp [*, errW_none, errW_some] <;> rfl), by repeat (first | (with_reducible first | exact HB.out | apply below_alloc | apply pw_below_drewN | apply below_drew1) | exact HB.out)⟩
    · rw [if_neg c9] at H
      have c9b0 : (t373 == 5) = false := beq_eq_false_iff_ne.mpr c9
      have c9b1 : (t373 != 5) = true := bne_iff_ne.mpr c9
      replace H := Option.bind_eq_some_iff.mp H
      obtain ⟨⟨t374, t375, t376⟩, A140, H⟩ := H
      replace H : ((cutplaneref03_Signed.f a0 t371 (!t374)).bind fun t377 => (some (t377, true))) = some (r1, r2) := H
      have A14 := Aside0.mk A140
      clear A140
      replace H := Option.bind_eq_some_iff.mp H
      obtain ⟨t377, A150, H⟩ := H
      replace H : (some (t377, true)) = some (r1, r2) := H
      have A15 := Aside0.mk A150
      clear A150
      simp only [Option.some.injEq, Prod.mk.injEq] at H
      obtain ⟨rfl, rfl⟩ := H
      go_enter Try.func36, Try.ntmps36
      go_wp2_with (first | ((with_reducible refine gate_callee (f := 23) rfl ?_); refine goesL_ (some 15) rfl rfl Try.func23 (by kernel_rfl) rfl #[.int .u8 a0, .int .u64 a1] rfl (by (try simp only [List.map_toArray, List.map_cons, List.map_nil]); first | done | rfl | (simp only [List.length_drop, List.length_take]; rfl)) ?_; (with_reducible refine (cutplaneref03_Split.calls a0 a1 t366 t367 t368 _ A3.out).mono ?_); rintro e w16 ⟨rfl, hb⟩; refine ⟨_, rfl, ?_⟩; have n0_ := Aside0.mk (below_step (by repeat (first | (with_reducible first | exact HB.out | apply below_alloc | apply pw_below_drewN | apply below_drew1) | exact HB.out)) hb); clear HB; have HB := n0_; clear n0_; (try clear hb); (try clear hb2); (try clear hk); (try clear hi)) | ((with_reducible refine gate_callee (f := 17) rfl ?_); refine goesL_ (some 18) rfl rfl Try.func17 (by kernel_rfl) rfl #[.int .u8 a0, .int .u64 a1, .bool (!t366)] rfl (by (try simp only [List.map_toArray, List.map_cons, List.map_nil]); first | done | rfl | (simp only [List.length_drop, List.length_take]; rfl)) ?_; (with_reducible refine (cutplaneref03_Signed.calls a0 a1 (!t366) t369 _ A4.out).mono ?_); rintro e w' ⟨rfl, ⟨nd, rfl⟩⟩; refine ⟨_, rfl, ?_⟩) | ((with_reducible refine gate_callee (f := 32) rfl ?_); refine goesL_ (some 19) rfl rfl Try.func32 (by kernel_rfl) rfl #[.int .u8 a0, .int .u64 t369] rfl (by (try simp only [List.map_toArray, List.map_cons, List.map_nil]); first | done | rfl | (simp only [List.length_drop, List.length_take]; rfl)) ?_; (with_reducible refine (cutplaneref03_Canon.calls k a0 t369 t370 _ A5.out).mono ?_); rintro e w17 ⟨rfl, hb⟩; refine ⟨_, rfl, ?_⟩; have n0_ := Aside0.mk (below_step (by repeat (first | (with_reducible first | exact HB.out | apply below_alloc | apply pw_below_drewN | apply below_drew1) | exact HB.out)) hb); clear HB; have HB := n0_; clear n0_; (try clear hb); (try clear hb2); (try clear hk); (try clear hi)) | ((with_reducible refine gate_callee (f := 35) rfl ?_); refine goesL_ (some 20) rfl rfl Try.func35 (by kernel_rfl) rfl #[.int .u8 a0, .int .u64 t370] rfl (by (try simp only [List.map_toArray, List.map_cons, List.map_nil]); first | done | rfl | (simp only [List.length_drop, List.length_take]; rfl)) ?_; (with_reducible refine (cutplaneref03_Up.calls k a0 t370 t371 true _ A6.out).mono ?_); rintro e w18 ⟨rfl, hb⟩; refine ⟨_, rfl, ?_⟩; have n0_ := Aside0.mk (below_step (by repeat (first | (with_reducible first | exact HB.out | apply below_alloc | apply pw_below_drewN | apply below_drew1) | exact HB.out)) hb); clear HB; have HB := n0_; clear n0_; (try clear hb); (try clear hb2); (try clear hk); (try clear hi)) | ((with_reducible refine gate_callee (f := 24) rfl ?_); refine goesL_ (some 27) rfl rfl Try.func24 (by kernel_rfl) rfl #[.int .u8 a0, .int .u64 t371] rfl (by (try simp only [List.map_toArray, List.map_cons, List.map_nil]); first | done | rfl | (simp only [List.length_drop, List.length_take]; rfl)) ?_; (with_reducible refine (cutplaneref03_Class.calls k a0 t371 t373 _ A8.out).mono ?_); rintro e w19 ⟨rfl, hb⟩; refine ⟨_, rfl, ?_⟩; have n0_ := Aside0.mk (below_step (by repeat (first | (with_reducible first | exact HB.out | apply below_alloc | apply pw_below_drewN | apply below_drew1) | exact HB.out)) hb); clear HB; have HB := n0_; clear n0_; (try clear hb); (try clear hb2); (try clear hk); (try clear hi)) | ((with_reducible refine gate_callee (f := 23) rfl ?_); refine goesL_ (some 34) rfl rfl Try.func23 (by kernel_rfl) rfl #[.int .u8 a0, .int .u64 t371] rfl (by (try simp only [List.map_toArray, List.map_cons, List.map_nil]); first | done | rfl | (simp only [List.length_drop, List.length_take]; rfl)) ?_; (with_reducible refine (cutplaneref03_Split.calls a0 t371 t374 t375 t376 _ A14.out).mono ?_); rintro e w20 ⟨rfl, hb⟩; refine ⟨_, rfl, ?_⟩; have n0_ := Aside0.mk (below_step (by repeat (first | (with_reducible first | exact HB.out | apply below_alloc | apply pw_below_drewN | apply below_drew1) | exact HB.out)) hb); clear HB; have HB := n0_; clear n0_; (try clear hb); (try clear hb2); (try clear hk); (try clear hi)) | ((with_reducible refine gate_callee (f := 17) rfl ?_); refine goesL_ (some 37) rfl rfl Try.func17 (by kernel_rfl) rfl #[.int .u8 a0, .int .u64 t371, .bool (!t374)] rfl (by (try simp only [List.map_toArray, List.map_cons, List.map_nil]); first | done | rfl | (simp only [List.length_drop, List.length_take]; rfl)) ?_; (with_reducible refine (cutplaneref03_Signed.calls a0 t371 (!t374) t377 _ A15.out).mono ?_); rintro e w' ⟨rfl, ⟨nd, rfl⟩⟩; refine ⟨_, rfl, ?_⟩))
      go_ret2
      exact ⟨by first | rfl | (simp [errW_none, errW_some] <;> rfl) | (simp [*, errW_none, errW_some] <;> rfl), by repeat (first | (with_reducible first | exact HB.out | apply below_alloc | apply pw_below_drewN | apply below_drew1) | exact HB.out)⟩
  · replace c7 := Bool.eq_false_iff.mpr c7
    subst c7
    have H1 : (some (0, false)) = some (r1, r2) := by rw [if_neg (show ¬ (false = true) by decide)] at H; exact H
    clear H
    have H := H1
    clear H1
    simp only [Option.some.injEq, Prod.mk.injEq] at H
    obtain ⟨rfl, rfl⟩ := H
    go_enter Try.func36, Try.ntmps36
    go_wp2_with (first | ((with_reducible refine gate_callee (f := 23) rfl ?_); refine goesL_ (some 15) rfl rfl Try.func23 (by kernel_rfl) rfl #[.int .u8 a0, .int .u64 a1] rfl (by (try simp only [List.map_toArray, List.map_cons, List.map_nil]); first | done | rfl | (simp only [List.length_drop, List.length_take]; rfl)) ?_; (with_reducible refine (cutplaneref03_Split.calls a0 a1 t366 t367 t368 _ A3.out).mono ?_); rintro e w21 ⟨rfl, hb⟩; refine ⟨_, rfl, ?_⟩; have n0_ := Aside0.mk (below_step (by repeat (first | (with_reducible first | exact HB.out | apply below_alloc | apply pw_below_drewN | apply below_drew1) | exact HB.out)) hb); clear HB; have HB := n0_; clear n0_; (try clear hb); (try clear hb2); (try clear hk); (try clear hi)) | ((with_reducible refine gate_callee (f := 17) rfl ?_); refine goesL_ (some 18) rfl rfl Try.func17 (by kernel_rfl) rfl #[.int .u8 a0, .int .u64 a1, .bool (!t366)] rfl (by (try simp only [List.map_toArray, List.map_cons, List.map_nil]); first | done | rfl | (simp only [List.length_drop, List.length_take]; rfl)) ?_; (with_reducible refine (cutplaneref03_Signed.calls a0 a1 (!t366) t369 _ A4.out).mono ?_); rintro e w' ⟨rfl, ⟨nd, rfl⟩⟩; refine ⟨_, rfl, ?_⟩) | ((with_reducible refine gate_callee (f := 32) rfl ?_); refine goesL_ (some 19) rfl rfl Try.func32 (by kernel_rfl) rfl #[.int .u8 a0, .int .u64 t369] rfl (by (try simp only [List.map_toArray, List.map_cons, List.map_nil]); first | done | rfl | (simp only [List.length_drop, List.length_take]; rfl)) ?_; (with_reducible refine (cutplaneref03_Canon.calls k a0 t369 t370 _ A5.out).mono ?_); rintro e w22 ⟨rfl, hb⟩; refine ⟨_, rfl, ?_⟩; have n0_ := Aside0.mk (below_step (by repeat (first | (with_reducible first | exact HB.out | apply below_alloc | apply pw_below_drewN | apply below_drew1) | exact HB.out)) hb); clear HB; have HB := n0_; clear n0_; (try clear hb); (try clear hb2); (try clear hk); (try clear hi)) | ((with_reducible refine gate_callee (f := 35) rfl ?_); refine goesL_ (some 20) rfl rfl Try.func35 (by kernel_rfl) rfl #[.int .u8 a0, .int .u64 t370] rfl (by (try simp only [List.map_toArray, List.map_cons, List.map_nil]); first | done | rfl | (simp only [List.length_drop, List.length_take]; rfl)) ?_; (with_reducible refine (cutplaneref03_Up.calls k a0 t370 t371 false _ A6.out).mono ?_); rintro e w23 ⟨rfl, hb⟩; refine ⟨_, rfl, ?_⟩; have n0_ := Aside0.mk (below_step (by repeat (first | (with_reducible first | exact HB.out | apply below_alloc | apply pw_below_drewN | apply below_drew1) | exact HB.out)) hb); clear HB; have HB := n0_; clear n0_; (try clear hb); (try clear hb2); (try clear hk); (try clear hi)))
    go_ret2
    exact ⟨by first | rfl | (simp [errW_none, errW_some] <;> rfl) | (simp [*, errW_none, errW_some] <;> rfl), by repeat (first | (with_reducible first | exact HB.out | apply below_alloc | apply pw_below_drewN | apply below_drew1) | exact HB.out)⟩

end Go.Proofs.Ythiklmgdmaemgaa.PA
