/- Go functions of this seat told as plain Lean functions, each with the proof that its call comes to just what it tells, and the rows over them; written by a program (wip/tools/xprint.sh). No condition beyond those that each text names. -/
import Derived.Test.YthiklmgdmaemgaaPAx0
import Derived.Test.YthiklmgdmaemgaaPAx4
import Derived.Test.YthiklmgdmaemgaaPAx6
import Derived.Test.YthiklmgdmaemgaaPAx7
import Derived.Test.YthiklmgdmaemgaaPAx9
import Derived.Test.YthiklmgdmaemgaaPAx10
import Derived.Test.YthiklmgdmaemgaaPAx12
import Derived.Test.YthiklmgdmaemgaaPAx13
namespace Go.Proofs.Ythiklmgdmaemgaa.PA
open Go.RowKit Go.Proofs.YthiklmgdmaemgaaW.PrintWords Go.Proofs.YthiklmgdmaemgaaW.PrintLast Go.Proofs.YthiklmgdmaemgaaW.PrintMore
attribute [local go_sem] max2_int min2_int max_two min_two max_three min_three max_four min_four   -- for this text's walks alone
set_option linter.unusedVariables false
set_option linter.unusedSimpArgs false

/-! ### cutplanelaw03_WordSigns: function 5 -/
mutual
def cutplanelaw03_WordSigns.j0 : Nat → Int → Int → Int → Int → Int → Int → Int → Int → Int → Int → Int → Int → Int → Int → Option (Bool)
  | 0, _, _, _, _, _, _, _, _, _, _, _, _, _, _ => none
  | k + 1, x0, x1, x2, x8, x9, x10, x11, x12, x13, x14, x15, x16, x17, x18 => (cutplaneref03_Canon.f k x0 x1).bind fun t310 => ((cutplanelaw03_is.f x8 x9 t310 0).bind fun t311 => (if t311 = true then ((cutplanelaw03_is.f x10 x11 x16 0).bind fun t312 => (if t312 = true then ((cutplanelaw03_is.f x12 x13 x17 0).bind fun t313 => (if t313 = true then (cutplanelaw03_WordSigns.j1 k x0 x1 x2 x14 x15 x18 false) else (cutplanelaw03_WordSigns.j1 k x0 x1 x2 x14 x15 x18 true))) else (cutplanelaw03_WordSigns.j1 k x0 x1 x2 x14 x15 x18 true))) else (cutplanelaw03_WordSigns.j1 k x0 x1 x2 x14 x15 x18 true)))
def cutplanelaw03_WordSigns.j1 : Nat → Int → Int → Int → Int → Int → Int → Bool → Option (Bool)
  | 0, _, _, _, _, _, _, _ => none
  | k + 1, x0, x1, x2, x14, x15, x18, x118 => if x118 = true then (some false) else ((cutplaneref03_Good.f x0 x2).bind fun t314 => (if t314 = 0 then ((cutplaneref03_Class.f k x0 x1).bind fun t317 => (if t317 = 5 then ((cutplanelaw03_is.f x14 x15 x18 0).bind fun t318 => (if t318 = true then ((cutplanelaw03_known.f k).bind fun t319 => (some t319)) else (some false))) else ((cutplaneref03_Split.f x0 x2).bind fun bt320 => ((cutplaneref03_Signed.f x0 x1 bt320.1).bind fun t323 => ((cutplanelaw03_is.f x14 x15 t323 0).bind fun t324 => (if t324 = true then ((cutplanelaw03_known.f k).bind fun t325 => (some t325)) else (some false))))))) else ((cutplanelaw03_is.f x14 x15 0 6).bind fun t315 => (if t315 = true then ((cutplanelaw03_known.f k).bind fun t316 => (some t316)) else (some false)))))
end
def cutplanelaw03_WordSigns.f (k : Nat) (a0 : Int) (a1 : Int) (a2 : Int) : Option (Bool) := (cutplaneref03_Good.f a0 a1).bind fun t287 => ((word_Canon.f k a0 a1).bind fun bt288 => ((word_Neg.f k a0 a1).bind fun bt290 => ((word_Abs.f k a0 a1).bind fun bt292 => ((word_CopySign.f k a0 a1 a2).bind fun bt294 => (if t287 = 0 then ((cutplaneref03_Class.f k a0 a1).bind fun t301 => (if t301 = 5 then ((cutplaneref03_None.f a0).bind fun t302 => ((cutplaneref03_None.f a0).bind fun t303 => ((cutplaneref03_None.f a0).bind fun t304 => (cutplanelaw03_WordSigns.j0 k a0 a1 a2 bt288.1 bt288.2 bt290.1 bt290.2 bt292.1 bt292.2 bt294.1 bt294.2 t302 t303 t304)))) else ((cutplaneref03_Split.f a0 a1).bind fun bt305 => ((cutplaneref03_Signed.f a0 a1 (!bt305.1)).bind fun t308 => ((cutplaneref03_Signed.f a0 a1 false).bind fun t309 => (cutplanelaw03_WordSigns.j0 k a0 a1 a2 bt288.1 bt288.2 bt290.1 bt290.2 bt292.1 bt292.2 bt294.1 bt294.2 t308 t309 a1)))))) else ((cutplanelaw03_is.f bt288.1 bt288.2 0 t287).bind fun t296 => (if t296 = true then ((cutplanelaw03_is.f bt290.1 bt290.2 0 t287).bind fun t297 => (if t297 = true then ((cutplanelaw03_is.f bt292.1 bt292.2 0 t287).bind fun t298 => (if t298 = true then ((cutplanelaw03_is.f bt294.1 bt294.2 0 t287).bind fun t299 => (if t299 = true then ((cutplanelaw03_known.f k).bind fun t300 => (some t300)) else (some false))) else (some false))) else (some false))) else (some false))))))))
theorem cutplanelaw03_WordSigns.mono_l : ∀ k, (∀ y0 y1 y2 y3 y4 y5 y6 y7 y8 y9 y10 y11 y12 y13, LeO (cutplanelaw03_WordSigns.j0 k y0 y1 y2 y3 y4 y5 y6 y7 y8 y9 y10 y11 y12 y13) (cutplanelaw03_WordSigns.j0 (k + 1) y0 y1 y2 y3 y4 y5 y6 y7 y8 y9 y10 y11 y12 y13)) ∧ (∀ y0 y1 y2 y3 y4 y5 y6, LeO (cutplanelaw03_WordSigns.j1 k y0 y1 y2 y3 y4 y5 y6) (cutplanelaw03_WordSigns.j1 (k + 1) y0 y1 y2 y3 y4 y5 y6))
  | 0 => ⟨fun _ _ _ _ _ _ _ _ _ _ _ _ _ _ r h => by simp [cutplanelaw03_WordSigns.j0] at h, fun _ _ _ _ _ _ _ r h => by simp [cutplanelaw03_WordSigns.j1] at h⟩
  | k + 1 => by
    obtain ⟨ih0, ih1⟩ := cutplanelaw03_WordSigns.mono_l k
    refine ⟨?_, ?_⟩
    · intro y0 y1 y2 y3 y4 y5 y6 y7 y8 y9 y10 y11 y12 y13
      unfold cutplanelaw03_WordSigns.j0
      repeat' first
      | (with_reducible exact ih0 _ _ _ _ _ _ _ _ _ _ _ _ _ _)
      | (with_reducible exact ih1 _ _ _ _ _ _ _)
      | (with_reducible exact cutplanelaw03_known.mono _)
      | (with_reducible exact cutplaneref03_Canon.mono _ _ _)
      | (with_reducible exact cutplaneref03_Class.mono _ _ _)
      | (with_reducible exact word_Abs.mono _ _ _)
      | (with_reducible exact word_Canon.mono _ _ _)
      | (with_reducible exact word_CopySign.mono _ _ _ _)
      | (with_reducible exact word_Neg.mono _ _ _)
      | (with_reducible exact LeO.refl _)
      | (with_reducible exact LeO.none _)
      | (with_reducible refine LeO.ite ?_ ?_)
      | (with_reducible refine LeO.bind ?_ (fun _ => ?_))
      | exact ih0 _ _ _ _ _ _ _ _ _ _ _ _ _ _
      | exact ih1 _ _ _ _ _ _ _
      | exact cutplanelaw03_known.mono _
      | exact cutplaneref03_Canon.mono _ _ _
      | exact cutplaneref03_Class.mono _ _ _
      | exact word_Abs.mono _ _ _
      | exact word_Canon.mono _ _ _
      | exact word_CopySign.mono _ _ _ _
      | exact word_Neg.mono _ _ _
      | exact LeO.none _
      | refine LeO.ite ?_ ?_
      | refine LeO.bind ?_ (fun _ => ?_)
    · intro y0 y1 y2 y3 y4 y5 y6
      unfold cutplanelaw03_WordSigns.j1
      repeat' first
      | (with_reducible exact ih0 _ _ _ _ _ _ _ _ _ _ _ _ _ _)
      | (with_reducible exact ih1 _ _ _ _ _ _ _)
      | (with_reducible exact cutplanelaw03_known.mono _)
      | (with_reducible exact cutplaneref03_Canon.mono _ _ _)
      | (with_reducible exact cutplaneref03_Class.mono _ _ _)
      | (with_reducible exact word_Abs.mono _ _ _)
      | (with_reducible exact word_Canon.mono _ _ _)
      | (with_reducible exact word_CopySign.mono _ _ _ _)
      | (with_reducible exact word_Neg.mono _ _ _)
      | (with_reducible exact LeO.refl _)
      | (with_reducible exact LeO.none _)
      | (with_reducible refine LeO.ite ?_ ?_)
      | (with_reducible refine LeO.bind ?_ (fun _ => ?_))
      | exact ih0 _ _ _ _ _ _ _ _ _ _ _ _ _ _
      | exact ih1 _ _ _ _ _ _ _
      | exact cutplanelaw03_known.mono _
      | exact cutplaneref03_Canon.mono _ _ _
      | exact cutplaneref03_Class.mono _ _ _
      | exact word_Abs.mono _ _ _
      | exact word_Canon.mono _ _ _
      | exact word_CopySign.mono _ _ _ _
      | exact word_Neg.mono _ _ _
      | exact LeO.none _
      | refine LeO.ite ?_ ?_
      | refine LeO.bind ?_ (fun _ => ?_)
theorem cutplanelaw03_WordSigns.mono : ∀ a0 a1 a2 k, LeO (cutplanelaw03_WordSigns.f k a0 a1 a2) (cutplanelaw03_WordSigns.f (k + 1) a0 a1 a2) := by
  intro a0 a1 a2 k
  obtain ⟨ih0, ih1⟩ := cutplanelaw03_WordSigns.mono_l k
  unfold cutplanelaw03_WordSigns.f
  repeat' first
      | (with_reducible exact ih0 _ _ _ _ _ _ _ _ _ _ _ _ _ _)
      | (with_reducible exact ih1 _ _ _ _ _ _ _)
      | (with_reducible exact cutplanelaw03_known.mono _)
      | (with_reducible exact cutplaneref03_Canon.mono _ _ _)
      | (with_reducible exact cutplaneref03_Class.mono _ _ _)
      | (with_reducible exact word_Abs.mono _ _ _)
      | (with_reducible exact word_Canon.mono _ _ _)
      | (with_reducible exact word_CopySign.mono _ _ _ _)
      | (with_reducible exact word_Neg.mono _ _ _)
      | (with_reducible exact LeO.refl _)
      | (with_reducible exact LeO.none _)
      | (with_reducible refine LeO.ite ?_ ?_)
      | (with_reducible refine LeO.bind ?_ (fun _ => ?_))
      | exact ih0 _ _ _ _ _ _ _ _ _ _ _ _ _ _
      | exact ih1 _ _ _ _ _ _ _
      | exact cutplanelaw03_known.mono _
      | exact cutplaneref03_Canon.mono _ _ _
      | exact cutplaneref03_Class.mono _ _ _
      | exact word_Abs.mono _ _ _
      | exact word_Canon.mono _ _ _
      | exact word_CopySign.mono _ _ _ _
      | exact word_Neg.mono _ _ _
      | exact LeO.none _
      | refine LeO.ite ?_ ?_
      | refine LeO.bind ?_ (fun _ => ?_)
set_option maxHeartbeats 2000000 in
set_option maxRecDepth 100000 in
theorem cutplanelaw03_WordSigns.calls (k : Nat) (a0 : Int) (a1 : Int) (a2 : Int) (r : Bool) (w : World) (h : cutplanelaw03_WordSigns.f k a0 a1 a2 = some r) :
    Calls Try.prog 5 #[.int .u8 a0, .int .u64 a1, .int .u64 a2] w fun e w' => e = .returned (.bool r) ∧ Below w.heap.size w w' := by
  have hfd36_0 : ∀ (v0_ v1_ v2_ : Value) (w : World), (Instr.field 36 (.agg #[v0_, v1_, v2_]) 0).run Try.prog w = .ok v0_ w := fun _ _ _ _ => by kernel_rfl
  have HB := Aside0.mk (Below.refl w.heap.size w)
  have H : ((cutplaneref03_Good.f a0 a1).bind fun t287 => ((word_Canon.f k a0 a1).bind fun bt288 => ((word_Neg.f k a0 a1).bind fun bt290 => ((word_Abs.f k a0 a1).bind fun bt292 => ((word_CopySign.f k a0 a1 a2).bind fun bt294 => (if t287 = 0 then ((cutplaneref03_Class.f k a0 a1).bind fun t301 => (if t301 = 5 then ((cutplaneref03_None.f a0).bind fun t302 => ((cutplaneref03_None.f a0).bind fun t303 => ((cutplaneref03_None.f a0).bind fun t304 => (cutplanelaw03_WordSigns.j0 k a0 a1 a2 bt288.1 bt288.2 bt290.1 bt290.2 bt292.1 bt292.2 bt294.1 bt294.2 t302 t303 t304)))) else ((cutplaneref03_Split.f a0 a1).bind fun bt305 => ((cutplaneref03_Signed.f a0 a1 (!bt305.1)).bind fun t308 => ((cutplaneref03_Signed.f a0 a1 false).bind fun t309 => (cutplanelaw03_WordSigns.j0 k a0 a1 a2 bt288.1 bt288.2 bt290.1 bt290.2 bt292.1 bt292.2 bt294.1 bt294.2 t308 t309 a1)))))) else ((cutplanelaw03_is.f bt288.1 bt288.2 0 t287).bind fun t296 => (if t296 = true then ((cutplanelaw03_is.f bt290.1 bt290.2 0 t287).bind fun t297 => (if t297 = true then ((cutplanelaw03_is.f bt292.1 bt292.2 0 t287).bind fun t298 => (if t298 = true then ((cutplanelaw03_is.f bt294.1 bt294.2 0 t287).bind fun t299 => (if t299 = true then ((cutplanelaw03_known.f k).bind fun t300 => (some t300)) else (some false))) else (some false))) else (some false))) else (some false))))))))) = some r := h
  clear h
  replace H := Option.bind_eq_some_iff.mp H
  obtain ⟨t287, A40, H⟩ := H
  replace H : ((word_Canon.f k a0 a1).bind fun bt288 => ((word_Neg.f k a0 a1).bind fun bt290 => ((word_Abs.f k a0 a1).bind fun bt292 => ((word_CopySign.f k a0 a1 a2).bind fun bt294 => (if t287 = 0 then ((cutplaneref03_Class.f k a0 a1).bind fun t301 => (if t301 = 5 then ((cutplaneref03_None.f a0).bind fun t302 => ((cutplaneref03_None.f a0).bind fun t303 => ((cutplaneref03_None.f a0).bind fun t304 => (cutplanelaw03_WordSigns.j0 k a0 a1 a2 bt288.1 bt288.2 bt290.1 bt290.2 bt292.1 bt292.2 bt294.1 bt294.2 t302 t303 t304)))) else ((cutplaneref03_Split.f a0 a1).bind fun bt305 => ((cutplaneref03_Signed.f a0 a1 (!bt305.1)).bind fun t308 => ((cutplaneref03_Signed.f a0 a1 false).bind fun t309 => (cutplanelaw03_WordSigns.j0 k a0 a1 a2 bt288.1 bt288.2 bt290.1 bt290.2 bt292.1 bt292.2 bt294.1 bt294.2 t308 t309 a1)))))) else ((cutplanelaw03_is.f bt288.1 bt288.2 0 t287).bind fun t296 => (if t296 = true then ((cutplanelaw03_is.f bt290.1 bt290.2 0 t287).bind fun t297 => (if t297 = true then ((cutplanelaw03_is.f bt292.1 bt292.2 0 t287).bind fun t298 => (if t298 = true then ((cutplanelaw03_is.f bt294.1 bt294.2 0 t287).bind fun t299 => (if t299 = true then ((cutplanelaw03_known.f k).bind fun t300 => (some t300)) else (some false))) else (some false))) else (some false))) else (some false)))))))) = some r := H
  have A4 := Aside0.mk A40
  clear A40
  replace H := Option.bind_eq_some_iff.mp H
  obtain ⟨⟨t288, t289⟩, A50, H⟩ := H
  replace H : ((word_Neg.f k a0 a1).bind fun bt290 => ((word_Abs.f k a0 a1).bind fun bt292 => ((word_CopySign.f k a0 a1 a2).bind fun bt294 => (if t287 = 0 then ((cutplaneref03_Class.f k a0 a1).bind fun t301 => (if t301 = 5 then ((cutplaneref03_None.f a0).bind fun t302 => ((cutplaneref03_None.f a0).bind fun t303 => ((cutplaneref03_None.f a0).bind fun t304 => (cutplanelaw03_WordSigns.j0 k a0 a1 a2 t288 t289 bt290.1 bt290.2 bt292.1 bt292.2 bt294.1 bt294.2 t302 t303 t304)))) else ((cutplaneref03_Split.f a0 a1).bind fun bt305 => ((cutplaneref03_Signed.f a0 a1 (!bt305.1)).bind fun t308 => ((cutplaneref03_Signed.f a0 a1 false).bind fun t309 => (cutplanelaw03_WordSigns.j0 k a0 a1 a2 t288 t289 bt290.1 bt290.2 bt292.1 bt292.2 bt294.1 bt294.2 t308 t309 a1)))))) else ((cutplanelaw03_is.f t288 t289 0 t287).bind fun t296 => (if t296 = true then ((cutplanelaw03_is.f bt290.1 bt290.2 0 t287).bind fun t297 => (if t297 = true then ((cutplanelaw03_is.f bt292.1 bt292.2 0 t287).bind fun t298 => (if t298 = true then ((cutplanelaw03_is.f bt294.1 bt294.2 0 t287).bind fun t299 => (if t299 = true then ((cutplanelaw03_known.f k).bind fun t300 => (some t300)) else (some false))) else (some false))) else (some false))) else (some false))))))) = some r := H
  have A5 := Aside0.mk A50
  clear A50
  replace H := Option.bind_eq_some_iff.mp H
  obtain ⟨⟨t290, t291⟩, A60, H⟩ := H
  replace H : ((word_Abs.f k a0 a1).bind fun bt292 => ((word_CopySign.f k a0 a1 a2).bind fun bt294 => (if t287 = 0 then ((cutplaneref03_Class.f k a0 a1).bind fun t301 => (if t301 = 5 then ((cutplaneref03_None.f a0).bind fun t302 => ((cutplaneref03_None.f a0).bind fun t303 => ((cutplaneref03_None.f a0).bind fun t304 => (cutplanelaw03_WordSigns.j0 k a0 a1 a2 t288 t289 t290 t291 bt292.1 bt292.2 bt294.1 bt294.2 t302 t303 t304)))) else ((cutplaneref03_Split.f a0 a1).bind fun bt305 => ((cutplaneref03_Signed.f a0 a1 (!bt305.1)).bind fun t308 => ((cutplaneref03_Signed.f a0 a1 false).bind fun t309 => (cutplanelaw03_WordSigns.j0 k a0 a1 a2 t288 t289 t290 t291 bt292.1 bt292.2 bt294.1 bt294.2 t308 t309 a1)))))) else ((cutplanelaw03_is.f t288 t289 0 t287).bind fun t296 => (if t296 = true then ((cutplanelaw03_is.f t290 t291 0 t287).bind fun t297 => (if t297 = true then ((cutplanelaw03_is.f bt292.1 bt292.2 0 t287).bind fun t298 => (if t298 = true then ((cutplanelaw03_is.f bt294.1 bt294.2 0 t287).bind fun t299 => (if t299 = true then ((cutplanelaw03_known.f k).bind fun t300 => (some t300)) else (some false))) else (some false))) else (some false))) else (some false)))))) = some r := H
  have A6 := Aside0.mk A60
  clear A60
  replace H := Option.bind_eq_some_iff.mp H
  obtain ⟨⟨t292, t293⟩, A70, H⟩ := H
  replace H : ((word_CopySign.f k a0 a1 a2).bind fun bt294 => (if t287 = 0 then ((cutplaneref03_Class.f k a0 a1).bind fun t301 => (if t301 = 5 then ((cutplaneref03_None.f a0).bind fun t302 => ((cutplaneref03_None.f a0).bind fun t303 => ((cutplaneref03_None.f a0).bind fun t304 => (cutplanelaw03_WordSigns.j0 k a0 a1 a2 t288 t289 t290 t291 t292 t293 bt294.1 bt294.2 t302 t303 t304)))) else ((cutplaneref03_Split.f a0 a1).bind fun bt305 => ((cutplaneref03_Signed.f a0 a1 (!bt305.1)).bind fun t308 => ((cutplaneref03_Signed.f a0 a1 false).bind fun t309 => (cutplanelaw03_WordSigns.j0 k a0 a1 a2 t288 t289 t290 t291 t292 t293 bt294.1 bt294.2 t308 t309 a1)))))) else ((cutplanelaw03_is.f t288 t289 0 t287).bind fun t296 => (if t296 = true then ((cutplanelaw03_is.f t290 t291 0 t287).bind fun t297 => (if t297 = true then ((cutplanelaw03_is.f t292 t293 0 t287).bind fun t298 => (if t298 = true then ((cutplanelaw03_is.f bt294.1 bt294.2 0 t287).bind fun t299 => (if t299 = true then ((cutplanelaw03_known.f k).bind fun t300 => (some t300)) else (some false))) else (some false))) else (some false))) else (some false))))) = some r := H
  have A7 := Aside0.mk A70
  clear A70
  replace H := Option.bind_eq_some_iff.mp H
  obtain ⟨⟨t294, t295⟩, A80, H⟩ := H
  replace H : (if t287 = 0 then ((cutplaneref03_Class.f k a0 a1).bind fun t301 => (if t301 = 5 then ((cutplaneref03_None.f a0).bind fun t302 => ((cutplaneref03_None.f a0).bind fun t303 => ((cutplaneref03_None.f a0).bind fun t304 => (cutplanelaw03_WordSigns.j0 k a0 a1 a2 t288 t289 t290 t291 t292 t293 t294 t295 t302 t303 t304)))) else ((cutplaneref03_Split.f a0 a1).bind fun bt305 => ((cutplaneref03_Signed.f a0 a1 (!bt305.1)).bind fun t308 => ((cutplaneref03_Signed.f a0 a1 false).bind fun t309 => (cutplanelaw03_WordSigns.j0 k a0 a1 a2 t288 t289 t290 t291 t292 t293 t294 t295 t308 t309 a1)))))) else ((cutplanelaw03_is.f t288 t289 0 t287).bind fun t296 => (if t296 = true then ((cutplanelaw03_is.f t290 t291 0 t287).bind fun t297 => (if t297 = true then ((cutplanelaw03_is.f t292 t293 0 t287).bind fun t298 => (if t298 = true then ((cutplanelaw03_is.f t294 t295 0 t287).bind fun t299 => (if t299 = true then ((cutplanelaw03_known.f k).bind fun t300 => (some t300)) else (some false))) else (some false))) else (some false))) else (some false)))) = some r := H
  have A8 := Aside0.mk A80
  clear A80
  by_cases c9 : t287 = 0
  · rw [if_pos c9] at H
    have c9b0 : (t287 == 0) = true := beq_iff_eq.mpr c9
    have c9b1 : (t287 != 0) = false := bne_eq_false_iff_eq.mpr c9
    clear c9
    replace H := Option.bind_eq_some_iff.mp H
    obtain ⟨t301, A100, H⟩ := H
    replace H : (if t301 = 5 then ((cutplaneref03_None.f a0).bind fun t302 => ((cutplaneref03_None.f a0).bind fun t303 => ((cutplaneref03_None.f a0).bind fun t304 => (cutplanelaw03_WordSigns.j0 k a0 a1 a2 t288 t289 t290 t291 t292 t293 t294 t295 t302 t303 t304)))) else ((cutplaneref03_Split.f a0 a1).bind fun bt305 => ((cutplaneref03_Signed.f a0 a1 (!bt305.1)).bind fun t308 => ((cutplaneref03_Signed.f a0 a1 false).bind fun t309 => (cutplanelaw03_WordSigns.j0 k a0 a1 a2 t288 t289 t290 t291 t292 t293 t294 t295 t308 t309 a1))))) = some r := H
    have A10 := Aside0.mk A100
    clear A100
    have HC11 := Aside0.mk H
    clear H
    go_enter Try.func5, Try.ntmps5
    go_upto_if 80 with (first | ((with_reducible refine gate_callee (f := 19) rfl ?_); refine goesL_ (some 21) rfl rfl Try.func19 (by kernel_rfl) rfl #[.int .u8 a0, .int .u64 a1] rfl (by (try simp only [List.map_toArray, List.map_cons, List.map_nil]); first | done | rfl | (simp only [List.length_drop, List.length_take]; rfl)) ?_; (with_reducible refine (cutplaneref03_Good.calls a0 a1 t287 _ A4.out).mono ?_); rintro e w' ⟨rfl, ⟨nd, rfl⟩⟩; refine ⟨_, rfl, ?_⟩) | ((with_reducible refine gate_callee (f := 28) rfl ?_); refine goesL_ (some 25) rfl rfl Try.func28 (by kernel_rfl) rfl #[.int .u8 a0, .int .u64 a1] rfl (by (try simp only [List.map_toArray, List.map_cons, List.map_nil]); first | done | rfl | (simp only [List.length_drop, List.length_take]; rfl)) ?_; (with_reducible refine (word_Canon.calls k a0 a1 t288 t289 _ A5.out).mono ?_); rintro e w12 ⟨rfl, hb⟩; refine ⟨_, rfl, ?_⟩; have n0_ := Aside0.mk (below_step (by repeat (first | (with_reducible first | exact HB.out | apply below_alloc | apply pw_below_drewN | apply below_drew1) | exact HB.out)) hb); clear HB; have HB := n0_; clear n0_; (try clear hb); (try clear hb2); (try clear hk); (try clear hi)) | ((with_reducible refine gate_callee (f := 29) rfl ?_); refine goesL_ (some 31) rfl rfl Try.func29 (by kernel_rfl) rfl #[.int .u8 a0, .int .u64 a1] rfl (by (try simp only [List.map_toArray, List.map_cons, List.map_nil]); first | done | rfl | (simp only [List.length_drop, List.length_take]; rfl)) ?_; (with_reducible refine (word_Neg.calls k a0 a1 t290 t291 _ A6.out).mono ?_); rintro e w13 ⟨rfl, hb⟩; refine ⟨_, rfl, ?_⟩; have n0_ := Aside0.mk (below_step (by repeat (first | (with_reducible first | exact HB.out | apply below_alloc | apply pw_below_drewN | apply below_drew1) | exact HB.out)) hb); clear HB; have HB := n0_; clear n0_; (try clear hb); (try clear hb2); (try clear hk); (try clear hi)) | ((with_reducible refine gate_callee (f := 30) rfl ?_); refine goesL_ (some 37) rfl rfl Try.func30 (by kernel_rfl) rfl #[.int .u8 a0, .int .u64 a1] rfl (by (try simp only [List.map_toArray, List.map_cons, List.map_nil]); first | done | rfl | (simp only [List.length_drop, List.length_take]; rfl)) ?_; (with_reducible refine (word_Abs.calls k a0 a1 t292 t293 _ A7.out).mono ?_); rintro e w14 ⟨rfl, hb⟩; refine ⟨_, rfl, ?_⟩; have n0_ := Aside0.mk (below_step (by repeat (first | (with_reducible first | exact HB.out | apply below_alloc | apply pw_below_drewN | apply below_drew1) | exact HB.out)) hb); clear HB; have HB := n0_; clear n0_; (try clear hb); (try clear hb2); (try clear hk); (try clear hi)) | ((with_reducible refine gate_callee (f := 31) rfl ?_); refine goesL_ (some 44) rfl rfl Try.func31 (by kernel_rfl) rfl #[.int .u8 a0, .int .u64 a1, .int .u64 a2] rfl (by (try simp only [List.map_toArray, List.map_cons, List.map_nil]); first | done | rfl | (simp only [List.length_drop, List.length_take]; rfl)) ?_; (with_reducible refine (word_CopySign.calls k a0 a1 a2 t294 t295 _ A8.out).mono ?_); rintro e w15 ⟨rfl, hb⟩; refine ⟨_, rfl, ?_⟩; have n0_ := Aside0.mk (below_step (by repeat (first | (with_reducible first | exact HB.out | apply below_alloc | apply pw_below_drewN | apply below_drew1) | exact HB.out)) hb); clear HB; have HB := n0_; clear n0_; (try clear hb); (try clear hb2); (try clear hk); (try clear hi)) | ((with_reducible refine gate_callee (f := 24) rfl ?_); refine goesL_ (some 79) rfl rfl Try.func24 (by kernel_rfl) rfl #[.int .u8 a0, .int .u64 a1] rfl (by (try simp only [List.map_toArray, List.map_cons, List.map_nil]); first | done | rfl | (simp only [List.length_drop, List.length_take]; rfl)) ?_; (with_reducible refine (cutplaneref03_Class.calls k a0 a1 t301 _ A10.out).mono ?_); rintro e w16 ⟨rfl, hb⟩; refine ⟨_, rfl, ?_⟩; have n0_ := Aside0.mk (below_step (by repeat (first | (with_reducible first | exact HB.out | apply below_alloc | apply pw_below_drewN | apply below_drew1) | exact HB.out)) hb); clear HB; have HB := n0_; clear n0_; (try clear hb); (try clear hb2); (try clear hk); (try clear hi)))
    (try simp only [Act.put, List.setIfInBounds_toArray, List.set_cons_zero, List.set_cons_succ])
    go_cut [16, 17, 18] (fun v16 v17 v18 wc => ∃ (kq : Nat) (x16_10 : Int) (x17_10 : Int) (x18_10 : Int), v16 = .int .u64 x16_10 ∧ v17 = .int .u64 x17_10 ∧ v18 = .int .u64 x18_10 ∧ Aside0 (cutplanelaw03_WordSigns.j0 kq a0 a1 a2 t288 t289 t290 t291 t292 t293 t294 t295 x16_10 x17_10 x18_10 = some r) ∧ Aside0 (kq ≤ k) ∧ Aside0 (Below w.heap.size w wc))
    case first =>
      have H := HC11.out
      clear HC11
      by_cases c17 : t301 = 5
      · rw [if_pos c17] at H
        have c17b0 : (t301 == 5) = true := beq_iff_eq.mpr c17
        have c17b1 : (t301 != 5) = false := bne_eq_false_iff_eq.mpr c17
        clear c17
        (first | rw [c17b0] | (simp only [i64_w, i32_w]; rw [c17b0]) | skip)
        replace H := Option.bind_eq_some_iff.mp H
        obtain ⟨t302, A180, H⟩ := H
        replace H : ((cutplaneref03_None.f a0).bind fun t303 => ((cutplaneref03_None.f a0).bind fun t304 => (cutplanelaw03_WordSigns.j0 k a0 a1 a2 t288 t289 t290 t291 t292 t293 t294 t295 t302 t303 t304))) = some r := H
        have A18 := Aside0.mk A180
        clear A180
        replace H := Option.bind_eq_some_iff.mp H
        obtain ⟨t303, A190, H⟩ := H
        replace H : ((cutplaneref03_None.f a0).bind fun t304 => (cutplanelaw03_WordSigns.j0 k a0 a1 a2 t288 t289 t290 t291 t292 t293 t294 t295 t302 t303 t304)) = some r := H
        have A19 := Aside0.mk A190
        clear A190
        replace H := Option.bind_eq_some_iff.mp H
        obtain ⟨t304, A200, H⟩ := H
        replace H : (cutplanelaw03_WordSigns.j0 k a0 a1 a2 t288 t289 t290 t291 t292 t293 t294 t295 t302 t303 t304) = some r := H
        have A20 := Aside0.mk A200
        clear A200
        have H' := Aside0.mk H
        clear H
        go_wp2_with (first | ((with_reducible refine gate_callee (f := 18) rfl ?_); refine goesL_ (some 82) rfl rfl Try.func18 (by kernel_rfl) rfl #[.int .u8 a0] rfl (by (try simp only [List.map_toArray, List.map_cons, List.map_nil]); first | done | rfl | (simp only [List.length_drop, List.length_take]; rfl)) ?_; (with_reducible refine (cutplaneref03_None.calls a0 t302 _ A18.out).mono ?_); rintro e w21 ⟨rfl, hb⟩; refine ⟨_, rfl, ?_⟩; have n0_ := Aside0.mk (below_step (by repeat (first | (with_reducible first | exact HB.out | apply below_alloc | apply pw_below_drewN | apply below_drew1) | exact HB.out)) hb); clear HB; have HB := n0_; clear n0_; (try clear hb); (try clear hb2); (try clear hk); (try clear hi)) | ((with_reducible refine gate_callee (f := 18) rfl ?_); refine goesL_ (some 84) rfl rfl Try.func18 (by kernel_rfl) rfl #[.int .u8 a0] rfl (by (try simp only [List.map_toArray, List.map_cons, List.map_nil]); first | done | rfl | (simp only [List.length_drop, List.length_take]; rfl)) ?_; (with_reducible refine (cutplaneref03_None.calls a0 t303 _ A19.out).mono ?_); rintro e w22 ⟨rfl, hb⟩; refine ⟨_, rfl, ?_⟩; have n0_ := Aside0.mk (below_step (by repeat (first | (with_reducible first | exact HB.out | apply below_alloc | apply pw_below_drewN | apply below_drew1) | exact HB.out)) hb); clear HB; have HB := n0_; clear n0_; (try clear hb); (try clear hb2); (try clear hk); (try clear hi)) | ((with_reducible refine gate_callee (f := 18) rfl ?_); refine goesL_ (some 86) rfl rfl Try.func18 (by kernel_rfl) rfl #[.int .u8 a0] rfl (by (try simp only [List.map_toArray, List.map_cons, List.map_nil]); first | done | rfl | (simp only [List.length_drop, List.length_take]; rfl)) ?_; (with_reducible refine (cutplaneref03_None.calls a0 t304 _ A20.out).mono ?_); rintro e w23 ⟨rfl, hb⟩; refine ⟨_, rfl, ?_⟩; have n0_ := Aside0.mk (below_step (by repeat (first | (with_reducible first | exact HB.out | apply below_alloc | apply pw_below_drewN | apply below_drew1) | exact HB.out)) hb); clear HB; have HB := n0_; clear n0_; (try clear hb); (try clear hb2); (try clear hk); (try clear hi)))
        go_meet
        case rel => exact ⟨_, (t302), (t303), (t304), (by first | rfl | (simp; done) | (simp [*]; done)), (by first | rfl | (simp; done) | (simp [*]; done)), (by first | rfl | (simp; done) | (simp [*]; done)), H', ⟨by first | omega | exact Nat.le_refl _⟩, ⟨by repeat (first | (with_reducible first | exact HB.out | apply below_alloc | apply pw_below_drewN | apply below_drew1) | exact HB.out)⟩⟩
      · rw [if_neg c17] at H
        have c17b0 : (t301 == 5) = false := beq_eq_false_iff_ne.mpr c17
        have c17b1 : (t301 != 5) = true := bne_iff_ne.mpr c17
        (first | rw [c17b0] | (simp only [i64_w, i32_w]; rw [c17b0]) | skip)
        replace H := Option.bind_eq_some_iff.mp H
        obtain ⟨⟨t305, t306, t307⟩, A240, H⟩ := H
        replace H : ((cutplaneref03_Signed.f a0 a1 (!t305)).bind fun t308 => ((cutplaneref03_Signed.f a0 a1 false).bind fun t309 => (cutplanelaw03_WordSigns.j0 k a0 a1 a2 t288 t289 t290 t291 t292 t293 t294 t295 t308 t309 a1))) = some r := H
        have A24 := Aside0.mk A240
        clear A240
        replace H := Option.bind_eq_some_iff.mp H
        obtain ⟨t308, A250, H⟩ := H
        replace H : ((cutplaneref03_Signed.f a0 a1 false).bind fun t309 => (cutplanelaw03_WordSigns.j0 k a0 a1 a2 t288 t289 t290 t291 t292 t293 t294 t295 t308 t309 a1)) = some r := H
        have A25 := Aside0.mk A250
        clear A250
        replace H := Option.bind_eq_some_iff.mp H
        obtain ⟨t309, A260, H⟩ := H
        replace H : (cutplanelaw03_WordSigns.j0 k a0 a1 a2 t288 t289 t290 t291 t292 t293 t294 t295 t308 t309 a1) = some r := H
        have A26 := Aside0.mk A260
        clear A260
        have H' := Aside0.mk H
        clear H
        go_wp2_with (first | ((with_reducible refine gate_callee (f := 23) rfl ?_); refine goesL_ (some 91) rfl rfl Try.func23 (by kernel_rfl) rfl #[.int .u8 a0, .int .u64 a1] rfl (by (try simp only [List.map_toArray, List.map_cons, List.map_nil]); first | done | rfl | (simp only [List.length_drop, List.length_take]; rfl)) ?_; (with_reducible refine (cutplaneref03_Split.calls a0 a1 t305 t306 t307 _ A24.out).mono ?_); rintro e w27 ⟨rfl, hb⟩; refine ⟨_, rfl, ?_⟩; have n0_ := Aside0.mk (below_step (by repeat (first | (with_reducible first | exact HB.out | apply below_alloc | apply pw_below_drewN | apply below_drew1) | exact HB.out)) hb); clear HB; have HB := n0_; clear n0_; (try clear hb); (try clear hb2); (try clear hk); (try clear hi)) | ((with_reducible refine gate_callee (f := 17) rfl ?_); refine goesL_ (some 94) rfl rfl Try.func17 (by kernel_rfl) rfl #[.int .u8 a0, .int .u64 a1, .bool (!t305)] rfl (by (try simp only [List.map_toArray, List.map_cons, List.map_nil]); first | done | rfl | (simp only [List.length_drop, List.length_take]; rfl)) ?_; (with_reducible refine (cutplaneref03_Signed.calls a0 a1 (!t305) t308 _ A25.out).mono ?_); rintro e w' ⟨rfl, ⟨nd, rfl⟩⟩; refine ⟨_, rfl, ?_⟩) | ((with_reducible refine gate_callee (f := 17) rfl ?_); refine goesL_ (some 97) rfl rfl Try.func17 (by kernel_rfl) rfl #[.int .u8 a0, .int .u64 a1, .bool false] rfl (by (try simp only [List.map_toArray, List.map_cons, List.map_nil]); first | done | rfl | (simp only [List.length_drop, List.length_take]; rfl)) ?_; (with_reducible refine (cutplaneref03_Signed.calls a0 a1 false t309 _ A26.out).mono ?_); rintro e w' ⟨rfl, ⟨nd, rfl⟩⟩; refine ⟨_, rfl, ?_⟩))
        go_meet
        case rel => exact ⟨_, (t308), (t309), (a1), (by first | rfl | (simp; done) | (simp [*]; done)), (by first | rfl | (simp; done) | (simp [*]; done)), (by first | rfl | (simp; done) | (simp [*]; done)), H', ⟨by first | omega | exact Nat.le_refl _⟩, ⟨by repeat (first | (with_reducible first | exact HB.out | apply below_alloc | apply pw_below_drewN | apply below_drew1) | exact HB.out)⟩⟩
    case rest =>
      clear HC11
      try clear c1
      try clear c2
      try clear p2
      try clear c3
      try clear c5
      try clear c9
      try clear c9b0
      try clear c9b1
      try clear c17
      try clear c17b0
      try clear c17b1
      try clear c18
      try clear c19
      try clear c23
      try clear c24
      obtain ⟨kq, x16_10, x17_10, x18_10, rfl, rfl, rfl, HA, HJ10, HB⟩ := hcut
      cases kq with
      | zero => exact absurd HA.out (by simp [cutplanelaw03_WordSigns.j0])
      | succ kj10 =>
        have H := HA.out
        clear HA
        simp only [cutplanelaw03_WordSigns.j0] at H
        have HC28 := Aside0.mk H
        clear H
        go_upto_region 13 with (fail)
        go_cut [118] (fun v118 wc => ∃ (kq : Nat) (x118_27 : Bool), v118 = .bool x118_27 ∧ Aside0 (cutplanelaw03_WordSigns.j1 kq a0 a1 a2 t294 t295 x18_10 x118_27 = some r) ∧ Aside0 (kq ≤ kj10) ∧ Aside0 (Below w.heap.size w wc))
        case first =>
          have H := HC28.out
          clear HC28
          replace H := Option.bind_eq_some_iff.mp H
          obtain ⟨t310, A290, H⟩ := H
          replace H : ((cutplanelaw03_is.f t288 t289 t310 0).bind fun t311 => (if t311 = true then ((cutplanelaw03_is.f t290 t291 x16_10 0).bind fun t312 => (if t312 = true then ((cutplanelaw03_is.f t292 t293 x17_10 0).bind fun t313 => (if t313 = true then (cutplanelaw03_WordSigns.j1 kj10 a0 a1 a2 t294 t295 x18_10 false) else (cutplanelaw03_WordSigns.j1 kj10 a0 a1 a2 t294 t295 x18_10 true))) else (cutplanelaw03_WordSigns.j1 kj10 a0 a1 a2 t294 t295 x18_10 true))) else (cutplanelaw03_WordSigns.j1 kj10 a0 a1 a2 t294 t295 x18_10 true))) = some r := H
          have A29 := Aside0.mk A290
          clear A290
          replace H := Option.bind_eq_some_iff.mp H
          obtain ⟨t311, A300, H⟩ := H
          replace H : (if t311 = true then ((cutplanelaw03_is.f t290 t291 x16_10 0).bind fun t312 => (if t312 = true then ((cutplanelaw03_is.f t292 t293 x17_10 0).bind fun t313 => (if t313 = true then (cutplanelaw03_WordSigns.j1 kj10 a0 a1 a2 t294 t295 x18_10 false) else (cutplanelaw03_WordSigns.j1 kj10 a0 a1 a2 t294 t295 x18_10 true))) else (cutplanelaw03_WordSigns.j1 kj10 a0 a1 a2 t294 t295 x18_10 true))) else (cutplanelaw03_WordSigns.j1 kj10 a0 a1 a2 t294 t295 x18_10 true)) = some r := H
          have A30 := Aside0.mk A300
          clear A300
          by_cases c31 : t311 = true
          · subst c31
            have H1 : ((cutplanelaw03_is.f t290 t291 x16_10 0).bind fun t312 => (if t312 = true then ((cutplanelaw03_is.f t292 t293 x17_10 0).bind fun t313 => (if t313 = true then (cutplanelaw03_WordSigns.j1 kj10 a0 a1 a2 t294 t295 x18_10 false) else (cutplanelaw03_WordSigns.j1 kj10 a0 a1 a2 t294 t295 x18_10 true))) else (cutplanelaw03_WordSigns.j1 kj10 a0 a1 a2 t294 t295 x18_10 true))) = some r := by rw [if_pos rfl] at H; exact H
            clear H
            have H := H1
            clear H1
            replace H := Option.bind_eq_some_iff.mp H
            obtain ⟨t312, A320, H⟩ := H
            replace H : (if t312 = true then ((cutplanelaw03_is.f t292 t293 x17_10 0).bind fun t313 => (if t313 = true then (cutplanelaw03_WordSigns.j1 kj10 a0 a1 a2 t294 t295 x18_10 false) else (cutplanelaw03_WordSigns.j1 kj10 a0 a1 a2 t294 t295 x18_10 true))) else (cutplanelaw03_WordSigns.j1 kj10 a0 a1 a2 t294 t295 x18_10 true)) = some r := H
            have A32 := Aside0.mk A320
            clear A320
            by_cases c33 : t312 = true
            · subst c33
              have H1 : ((cutplanelaw03_is.f t292 t293 x17_10 0).bind fun t313 => (if t313 = true then (cutplanelaw03_WordSigns.j1 kj10 a0 a1 a2 t294 t295 x18_10 false) else (cutplanelaw03_WordSigns.j1 kj10 a0 a1 a2 t294 t295 x18_10 true))) = some r := by rw [if_pos rfl] at H; exact H
              clear H
              have H := H1
              clear H1
              replace H := Option.bind_eq_some_iff.mp H
              obtain ⟨t313, A340, H⟩ := H
              replace H : (if t313 = true then (cutplanelaw03_WordSigns.j1 kj10 a0 a1 a2 t294 t295 x18_10 false) else (cutplanelaw03_WordSigns.j1 kj10 a0 a1 a2 t294 t295 x18_10 true)) = some r := H
              have A34 := Aside0.mk A340
              clear A340
              by_cases c35 : t313 = true
              · subst c35
                have H1 : (cutplanelaw03_WordSigns.j1 kj10 a0 a1 a2 t294 t295 x18_10 false) = some r := by rw [if_pos rfl] at H; exact H
                clear H
                have H := H1
                clear H1
                have H' := Aside0.mk H
                clear H
                go_wp2_with (first | ((with_reducible refine gate_callee (f := 32) rfl ?_); refine goesL_ (some 102) rfl rfl Try.func32 (by kernel_rfl) rfl #[.int .u8 a0, .int .u64 a1] rfl (by (try simp only [List.map_toArray, List.map_cons, List.map_nil]); first | done | rfl | (simp only [List.length_drop, List.length_take]; rfl)) ?_; (with_reducible refine (cutplaneref03_Canon.calls kj10 a0 a1 t310 _ A29.out).mono ?_); rintro e w36 ⟨rfl, hb⟩; refine ⟨_, rfl, ?_⟩; have n0_ := Aside0.mk (below_step (by repeat (first | (with_reducible first | exact HB.out | apply below_alloc | apply pw_below_drewN | apply below_drew1) | exact HB.out)) hb); clear HB; have HB := n0_; clear n0_; (try clear hb); (try clear hb2); (try clear hk); (try clear hi)) | ((with_reducible refine gate_callee (f := 14) rfl ?_); refine goesL_ (some 103) rfl rfl Try.func14 (by kernel_rfl) rfl #[.int .u64 t288, .int .i64 t289, .int .u64 t310, .int .i64 0] rfl (by (try simp only [List.map_toArray, List.map_cons, List.map_nil]); first | done | rfl | (simp only [List.length_drop, List.length_take]; rfl)) ?_; (with_reducible refine (cutplanelaw03_is.calls t288 t289 t310 0 true _ A30.out).mono ?_); rintro e w' ⟨rfl, ⟨nd, rfl⟩⟩; refine ⟨_, rfl, ?_⟩) | (go_at_call 14; (with_reducible refine (cutplanelaw03_is.calls t290 t291 x16_10 0 true _ A32.out).mono ?_); rintro e w' ⟨rfl, ⟨nd, rfl⟩⟩) | (go_at_call 14; (with_reducible refine (cutplanelaw03_is.calls t292 t293 x17_10 0 true _ A34.out).mono ?_); rintro e w' ⟨rfl, ⟨nd, rfl⟩⟩))
                go_meet
                case rel => exact ⟨_, (false), (by first | rfl | (simp; done) | (simp [*]; done)), H', ⟨by have := HJ10.out; first | omega | exact Nat.le_refl _⟩, ⟨by repeat (first | (with_reducible first | exact HB.out | apply below_alloc | apply pw_below_drewN | apply below_drew1) | exact HB.out)⟩⟩
              · replace c35 := Bool.eq_false_iff.mpr c35
                subst c35
                have H1 : (cutplanelaw03_WordSigns.j1 kj10 a0 a1 a2 t294 t295 x18_10 true) = some r := by rw [if_neg (show ¬ (false = true) by decide)] at H; exact H
                clear H
                have H := H1
                clear H1
                have H' := Aside0.mk H
                clear H
                go_wp2_with (first | ((with_reducible refine gate_callee (f := 32) rfl ?_); refine goesL_ (some 102) rfl rfl Try.func32 (by kernel_rfl) rfl #[.int .u8 a0, .int .u64 a1] rfl (by (try simp only [List.map_toArray, List.map_cons, List.map_nil]); first | done | rfl | (simp only [List.length_drop, List.length_take]; rfl)) ?_; (with_reducible refine (cutplaneref03_Canon.calls kj10 a0 a1 t310 _ A29.out).mono ?_); rintro e w37 ⟨rfl, hb⟩; refine ⟨_, rfl, ?_⟩; have n0_ := Aside0.mk (below_step (by repeat (first | (with_reducible first | exact HB.out | apply below_alloc | apply pw_below_drewN | apply below_drew1) | exact HB.out)) hb); clear HB; have HB := n0_; clear n0_; (try clear hb); (try clear hb2); (try clear hk); (try clear hi)) | ((with_reducible refine gate_callee (f := 14) rfl ?_); refine goesL_ (some 103) rfl rfl Try.func14 (by kernel_rfl) rfl #[.int .u64 t288, .int .i64 t289, .int .u64 t310, .int .i64 0] rfl (by (try simp only [List.map_toArray, List.map_cons, List.map_nil]); first | done | rfl | (simp only [List.length_drop, List.length_take]; rfl)) ?_; (with_reducible refine (cutplanelaw03_is.calls t288 t289 t310 0 true _ A30.out).mono ?_); rintro e w' ⟨rfl, ⟨nd, rfl⟩⟩; refine ⟨_, rfl, ?_⟩) | (go_at_call 14; (with_reducible refine (cutplanelaw03_is.calls t290 t291 x16_10 0 true _ A32.out).mono ?_); rintro e w' ⟨rfl, ⟨nd, rfl⟩⟩) | (go_at_call 14; (with_reducible refine (cutplanelaw03_is.calls t292 t293 x17_10 0 false _ A34.out).mono ?_); rintro e w' ⟨rfl, ⟨nd, rfl⟩⟩))
                go_meet
                case rel => exact ⟨_, (true), (by first | rfl | (simp; done) | (simp [*]; done)), H', ⟨by have := HJ10.out; first | omega | exact Nat.le_refl _⟩, ⟨by repeat (first | (with_reducible first | exact HB.out | apply below_alloc | apply pw_below_drewN | apply below_drew1) | exact HB.out)⟩⟩
            · replace c33 := Bool.eq_false_iff.mpr c33
              subst c33
              have H1 : (cutplanelaw03_WordSigns.j1 kj10 a0 a1 a2 t294 t295 x18_10 true) = some r := by rw [if_neg (show ¬ (false = true) by decide)] at H; exact H
              clear H
              have H := H1
              clear H1
              have H' := Aside0.mk H
              clear H
              go_wp2_with (first | ((with_reducible refine gate_callee (f := 32) rfl ?_); refine goesL_ (some 102) rfl rfl Try.func32 (by kernel_rfl) rfl #[.int .u8 a0, .int .u64 a1] rfl (by (try simp only [List.map_toArray, List.map_cons, List.map_nil]); first | done | rfl | (simp only [List.length_drop, List.length_take]; rfl)) ?_; (with_reducible refine (cutplaneref03_Canon.calls kj10 a0 a1 t310 _ A29.out).mono ?_); rintro e w38 ⟨rfl, hb⟩; refine ⟨_, rfl, ?_⟩; have n0_ := Aside0.mk (below_step (by repeat (first | (with_reducible first | exact HB.out | apply below_alloc | apply pw_below_drewN | apply below_drew1) | exact HB.out)) hb); clear HB; have HB := n0_; clear n0_; (try clear hb); (try clear hb2); (try clear hk); (try clear hi)) | ((with_reducible refine gate_callee (f := 14) rfl ?_); refine goesL_ (some 103) rfl rfl Try.func14 (by kernel_rfl) rfl #[.int .u64 t288, .int .i64 t289, .int .u64 t310, .int .i64 0] rfl (by (try simp only [List.map_toArray, List.map_cons, List.map_nil]); first | done | rfl | (simp only [List.length_drop, List.length_take]; rfl)) ?_; (with_reducible refine (cutplanelaw03_is.calls t288 t289 t310 0 true _ A30.out).mono ?_); rintro e w' ⟨rfl, ⟨nd, rfl⟩⟩; refine ⟨_, rfl, ?_⟩) | (go_at_call 14; (with_reducible refine (cutplanelaw03_is.calls t290 t291 x16_10 0 false _ A32.out).mono ?_); rintro e w' ⟨rfl, ⟨nd, rfl⟩⟩))
              go_meet
              case rel => exact ⟨_, (true), (by first | rfl | (simp; done) | (simp [*]; done)), H', ⟨by have := HJ10.out; first | omega | exact Nat.le_refl _⟩, ⟨by repeat (first | (with_reducible first | exact HB.out | apply below_alloc | apply pw_below_drewN | apply below_drew1) | exact HB.out)⟩⟩
          · replace c31 := Bool.eq_false_iff.mpr c31
            subst c31
            have H1 : (cutplanelaw03_WordSigns.j1 kj10 a0 a1 a2 t294 t295 x18_10 true) = some r := by rw [if_neg (show ¬ (false = true) by decide)] at H; exact H
            clear H
            have H := H1
            clear H1
            have H' := Aside0.mk H
            clear H
            go_wp2_with (first | ((with_reducible refine gate_callee (f := 32) rfl ?_); refine goesL_ (some 102) rfl rfl Try.func32 (by kernel_rfl) rfl #[.int .u8 a0, .int .u64 a1] rfl (by (try simp only [List.map_toArray, List.map_cons, List.map_nil]); first | done | rfl | (simp only [List.length_drop, List.length_take]; rfl)) ?_; (with_reducible refine (cutplaneref03_Canon.calls kj10 a0 a1 t310 _ A29.out).mono ?_); rintro e w39 ⟨rfl, hb⟩; refine ⟨_, rfl, ?_⟩; have n0_ := Aside0.mk (below_step (by repeat (first | (with_reducible first | exact HB.out | apply below_alloc | apply pw_below_drewN | apply below_drew1) | exact HB.out)) hb); clear HB; have HB := n0_; clear n0_; (try clear hb); (try clear hb2); (try clear hk); (try clear hi)) | ((with_reducible refine gate_callee (f := 14) rfl ?_); refine goesL_ (some 103) rfl rfl Try.func14 (by kernel_rfl) rfl #[.int .u64 t288, .int .i64 t289, .int .u64 t310, .int .i64 0] rfl (by (try simp only [List.map_toArray, List.map_cons, List.map_nil]); first | done | rfl | (simp only [List.length_drop, List.length_take]; rfl)) ?_; (with_reducible refine (cutplanelaw03_is.calls t288 t289 t310 0 false _ A30.out).mono ?_); rintro e w' ⟨rfl, ⟨nd, rfl⟩⟩; refine ⟨_, rfl, ?_⟩))
            go_meet
            case rel => exact ⟨_, (true), (by first | rfl | (simp; done) | (simp [*]; done)), H', ⟨by have := HJ10.out; first | omega | exact Nat.le_refl _⟩, ⟨by repeat (first | (with_reducible first | exact HB.out | apply below_alloc | apply pw_below_drewN | apply below_drew1) | exact HB.out)⟩⟩
        case rest =>
          clear HC28
          try clear c1
          try clear c2
          try clear p2
          try clear c3
          try clear c5
          try clear c9
          try clear c9b0
          try clear c9b1
          try clear c14
          try clear c17
          try clear c17b0
          try clear c17b1
          try clear c18
          try clear c19
          try clear c23
          try clear c24
          try clear c28
          try clear c29
          try clear c30
          try clear c31
          try clear c32
          try clear c33
          try clear c35
          try clear p2
          obtain ⟨kq, x118_27, rfl, HA, HJ27, HB⟩ := hcut
          cases kq with
          | zero => exact absurd HA.out (by simp [cutplanelaw03_WordSigns.j1])
          | succ kj27 =>
            have H := HA.out
            clear HA
            simp only [cutplanelaw03_WordSigns.j1] at H
            by_cases c40 : x118_27 = true
            · subst c40
              have H1 : (some false) = some r := by rw [if_pos rfl] at H; exact H
              clear H
              have H := H1
              clear H1
              obtain rfl := Option.some.inj H
              go_wp2
              go_ret
              exact ⟨by first | rfl | (simp [errW_none, errW_some] <;> rfl) | (simp [*, errW_none, errW_some] <;> rfl), by repeat (first | (with_reducible first | exact HB.out | apply below_alloc | apply pw_below_drewN | apply below_drew1) | exact HB.out)⟩
            · replace c40 := Bool.eq_false_iff.mpr c40
              subst c40
              have H1 : ((cutplaneref03_Good.f a0 a2).bind fun t314 => (if t314 = 0 then ((cutplaneref03_Class.f kj27 a0 a1).bind fun t317 => (if t317 = 5 then ((cutplanelaw03_is.f t294 t295 x18_10 0).bind fun t318 => (if t318 = true then ((cutplanelaw03_known.f kj27).bind fun t319 => (some t319)) else (some false))) else ((cutplaneref03_Split.f a0 a2).bind fun bt320 => ((cutplaneref03_Signed.f a0 a1 bt320.1).bind fun t323 => ((cutplanelaw03_is.f t294 t295 t323 0).bind fun t324 => (if t324 = true then ((cutplanelaw03_known.f kj27).bind fun t325 => (some t325)) else (some false))))))) else ((cutplanelaw03_is.f t294 t295 0 6).bind fun t315 => (if t315 = true then ((cutplanelaw03_known.f kj27).bind fun t316 => (some t316)) else (some false))))) = some r := by rw [if_neg (show ¬ (false = true) by decide)] at H; exact H
              clear H
              have H := H1
              clear H1
              replace H := Option.bind_eq_some_iff.mp H
              obtain ⟨t314, A410, H⟩ := H
              replace H : (if t314 = 0 then ((cutplaneref03_Class.f kj27 a0 a1).bind fun t317 => (if t317 = 5 then ((cutplanelaw03_is.f t294 t295 x18_10 0).bind fun t318 => (if t318 = true then ((cutplanelaw03_known.f kj27).bind fun t319 => (some t319)) else (some false))) else ((cutplaneref03_Split.f a0 a2).bind fun bt320 => ((cutplaneref03_Signed.f a0 a1 bt320.1).bind fun t323 => ((cutplanelaw03_is.f t294 t295 t323 0).bind fun t324 => (if t324 = true then ((cutplanelaw03_known.f kj27).bind fun t325 => (some t325)) else (some false))))))) else ((cutplanelaw03_is.f t294 t295 0 6).bind fun t315 => (if t315 = true then ((cutplanelaw03_known.f kj27).bind fun t316 => (some t316)) else (some false)))) = some r := H
              have A41 := Aside0.mk A410
              clear A410
              by_cases c42 : t314 = 0
              · rw [if_pos c42] at H
                have c42b0 : (t314 == 0) = true := beq_iff_eq.mpr c42
                have c42b1 : (t314 != 0) = false := bne_eq_false_iff_eq.mpr c42
                clear c42
                replace H := Option.bind_eq_some_iff.mp H
                obtain ⟨t317, A430, H⟩ := H
                replace H : (if t317 = 5 then ((cutplanelaw03_is.f t294 t295 x18_10 0).bind fun t318 => (if t318 = true then ((cutplanelaw03_known.f kj27).bind fun t319 => (some t319)) else (some false))) else ((cutplaneref03_Split.f a0 a2).bind fun bt320 => ((cutplaneref03_Signed.f a0 a1 bt320.1).bind fun t323 => ((cutplanelaw03_is.f t294 t295 t323 0).bind fun t324 => (if t324 = true then ((cutplanelaw03_known.f kj27).bind fun t325 => (some t325)) else (some false)))))) = some r := H
                have A43 := Aside0.mk A430
                clear A430
                by_cases c44 : t317 = 5
                · rw [if_pos c44] at H
                  have c44b0 : (t317 == 5) = true := beq_iff_eq.mpr c44
                  have c44b1 : (t317 != 5) = false := bne_eq_false_iff_eq.mpr c44
                  clear c44
                  replace H := Option.bind_eq_some_iff.mp H
                  obtain ⟨t318, A450, H⟩ := H
                  replace H : (if t318 = true then ((cutplanelaw03_known.f kj27).bind fun t319 => (some t319)) else (some false)) = some r := H
                  have A45 := Aside0.mk A450
                  clear A450
                  by_cases c46 : t318 = true
                  · subst c46
                    have H1 : ((cutplanelaw03_known.f kj27).bind fun t319 => (some t319)) = some r := by rw [if_pos rfl] at H; exact H
                    clear H
                    have H := H1
                    clear H1
                    replace H := Option.bind_eq_some_iff.mp H
                    obtain ⟨t319, A470, H⟩ := H
                    replace H : (some t319) = some r := H
                    have A47 := Aside0.mk A470
                    clear A470
                    obtain rfl := Option.some.inj H
                    go_wp2_with (first | ((with_reducible refine gate_callee (f := 19) rfl ?_); refine goesL_ (some 121) rfl rfl Try.func19 (by kernel_rfl) rfl #[.int .u8 a0, .int .u64 a2] rfl (by (try simp only [List.map_toArray, List.map_cons, List.map_nil]); first | done | rfl | (simp only [List.length_drop, List.length_take]; rfl)) ?_; (with_reducible refine (cutplaneref03_Good.calls a0 a2 t314 _ A41.out).mono ?_); rintro e w' ⟨rfl, ⟨nd, rfl⟩⟩; refine ⟨_, rfl, ?_⟩) | ((with_reducible refine gate_callee (f := 24) rfl ?_); refine goesL_ (some 131) rfl rfl Try.func24 (by kernel_rfl) rfl #[.int .u8 a0, .int .u64 a1] rfl (by (try simp only [List.map_toArray, List.map_cons, List.map_nil]); first | done | rfl | (simp only [List.length_drop, List.length_take]; rfl)) ?_; (with_reducible refine (cutplaneref03_Class.calls kj27 a0 a1 t317 _ A43.out).mono ?_); rintro e w48 ⟨rfl, hb⟩; refine ⟨_, rfl, ?_⟩; have n0_ := Aside0.mk (below_step (by repeat (first | (with_reducible first | exact HB.out | apply below_alloc | apply pw_below_drewN | apply below_drew1) | exact HB.out)) hb); clear HB; have HB := n0_; clear n0_; (try clear hb); (try clear hb2); (try clear hk); (try clear hi)) | ((with_reducible refine gate_callee (f := 14) rfl ?_); refine goesL_ (some 143) rfl rfl Try.func14 (by kernel_rfl) rfl #[.int .u64 t294, .int .i64 t295, .int .u64 x18_10, .int .i64 0] rfl (by (try simp only [List.map_toArray, List.map_cons, List.map_nil]); first | done | rfl | (simp only [List.length_drop, List.length_take]; rfl)) ?_; (with_reducible refine (cutplanelaw03_is.calls t294 t295 x18_10 0 true _ A45.out).mono ?_); rintro e w' ⟨rfl, ⟨nd, rfl⟩⟩; refine ⟨_, rfl, ?_⟩) | (go_at_call 15; (with_reducible refine (cutplanelaw03_known.calls kj27  t319 _ A47.out).mono ?_); rintro e w49 ⟨rfl, hb⟩; have n0_ := Aside0.mk (below_step (by repeat (first | (with_reducible first | exact HB.out | apply below_alloc | apply pw_below_drewN | apply below_drew1) | exact HB.out)) hb); clear HB; have HB := n0_; clear n0_; (try clear hb); (try clear hb2); (try clear hk); (try clear hi)))
                    go_ret
                    exact ⟨by first | rfl | (simp [errW_none, errW_some] <;> rfl) | (simp [*, errW_none, errW_some] <;> rfl), by repeat (first | (with_reducible first | exact HB.out | apply below_alloc | apply pw_below_drewN | apply below_drew1) | exact HB.out)⟩
                  · replace c46 := Bool.eq_false_iff.mpr c46
                    subst c46
                    have H1 : (some false) = some r := by rw [if_neg (show ¬ (false = true) by decide)] at H; exact H
                    clear H
                    have H := H1
                    clear H1
                    obtain rfl := Option.some.inj H
                    go_wp2_with (first | ((with_reducible refine gate_callee (f := 19) rfl ?_); refine goesL_ (some 121) rfl rfl Try.func19 (by kernel_rfl) rfl #[.int .u8 a0, .int .u64 a2] rfl (by (try simp only [List.map_toArray, List.map_cons, List.map_nil]); first | done | rfl | (simp only [List.length_drop, List.length_take]; rfl)) ?_; (with_reducible refine (cutplaneref03_Good.calls a0 a2 t314 _ A41.out).mono ?_); rintro e w' ⟨rfl, ⟨nd, rfl⟩⟩; refine ⟨_, rfl, ?_⟩) | ((with_reducible refine gate_callee (f := 24) rfl ?_); refine goesL_ (some 131) rfl rfl Try.func24 (by kernel_rfl) rfl #[.int .u8 a0, .int .u64 a1] rfl (by (try simp only [List.map_toArray, List.map_cons, List.map_nil]); first | done | rfl | (simp only [List.length_drop, List.length_take]; rfl)) ?_; (with_reducible refine (cutplaneref03_Class.calls kj27 a0 a1 t317 _ A43.out).mono ?_); rintro e w50 ⟨rfl, hb⟩; refine ⟨_, rfl, ?_⟩; have n0_ := Aside0.mk (below_step (by repeat (first | (with_reducible first | exact HB.out | apply below_alloc | apply pw_below_drewN | apply below_drew1) | exact HB.out)) hb); clear HB; have HB := n0_; clear n0_; (try clear hb); (try clear hb2); (try clear hk); (try clear hi)) | ((with_reducible refine gate_callee (f := 14) rfl ?_); refine goesL_ (some 143) rfl rfl Try.func14 (by kernel_rfl) rfl #[.int .u64 t294, .int .i64 t295, .int .u64 x18_10, .int .i64 0] rfl (by (try simp only [List.map_toArray, List.map_cons, List.map_nil]); first | done | rfl | (simp only [List.length_drop, List.length_take]; rfl)) ?_; (with_reducible refine (cutplanelaw03_is.calls t294 t295 x18_10 0 false _ A45.out).mono ?_); rintro e w' ⟨rfl, ⟨nd, rfl⟩⟩; refine ⟨_, rfl, ?_⟩))
                    go_ret
                    exact ⟨by first | rfl | (simp [errW_none, errW_some] <;> rfl) | (simp [*, errW_none, errW_some] <;> rfl), by repeat (first | (with_reducible first | exact HB.out | apply below_alloc | apply pw_below_drewN | apply below_drew1) | exact HB.out)⟩
                · rw [if_neg c44] at H
                  have c44b0 : (t317 == 5) = false := beq_eq_false_iff_ne.mpr c44
                  have c44b1 : (t317 != 5) = true := bne_iff_ne.mpr c44
                  replace H := Option.bind_eq_some_iff.mp H
                  obtain ⟨⟨t320, t321, t322⟩, A510, H⟩ := H
                  replace H : ((cutplaneref03_Signed.f a0 a1 t320).bind fun t323 => ((cutplanelaw03_is.f t294 t295 t323 0).bind fun t324 => (if t324 = true then ((cutplanelaw03_known.f kj27).bind fun t325 => (some t325)) else (some false)))) = some r := H
                  have A51 := Aside0.mk A510
                  clear A510
                  replace H := Option.bind_eq_some_iff.mp H
                  obtain ⟨t323, A520, H⟩ := H
                  replace H : ((cutplanelaw03_is.f t294 t295 t323 0).bind fun t324 => (if t324 = true then ((cutplanelaw03_known.f kj27).bind fun t325 => (some t325)) else (some false))) = some r := H
                  have A52 := Aside0.mk A520
                  clear A520
                  replace H := Option.bind_eq_some_iff.mp H
                  obtain ⟨t324, A530, H⟩ := H
                  replace H : (if t324 = true then ((cutplanelaw03_known.f kj27).bind fun t325 => (some t325)) else (some false)) = some r := H
                  have A53 := Aside0.mk A530
                  clear A530
                  by_cases c54 : t324 = true
                  · subst c54
                    have H1 : ((cutplanelaw03_known.f kj27).bind fun t325 => (some t325)) = some r := by rw [if_pos rfl] at H; exact H
                    clear H
                    have H := H1
                    clear H1
                    replace H := Option.bind_eq_some_iff.mp H
                    obtain ⟨t325, A550, H⟩ := H
                    replace H : (some t325) = some r := H
                    have A55 := Aside0.mk A550
                    clear A550
                    obtain rfl := Option.some.inj H
                    go_wp2_with (first | ((with_reducible refine gate_callee (f := 19) rfl ?_); refine goesL_ (some 121) rfl rfl Try.func19 (by kernel_rfl) rfl #[.int .u8 a0, .int .u64 a2] rfl (by (try simp only [List.map_toArray, List.map_cons, List.map_nil]); first | done | rfl | (simp only [List.length_drop, List.length_take]; rfl)) ?_; (with_reducible refine (cutplaneref03_Good.calls a0 a2 t314 _ A41.out).mono ?_); rintro e w' ⟨rfl, ⟨nd, rfl⟩⟩; refine ⟨_, rfl, ?_⟩) | ((with_reducible refine gate_callee (f := 24) rfl ?_); refine goesL_ (some 131) rfl rfl Try.func24 (by kernel_rfl) rfl #[.int .u8 a0, .int .u64 a1] rfl (by (try simp only [List.map_toArray, List.map_cons, List.map_nil]); first | done | rfl | (simp only [List.length_drop, List.length_take]; rfl)) ?_; (with_reducible refine (cutplaneref03_Class.calls kj27 a0 a1 t317 _ A43.out).mono ?_); rintro e w56 ⟨rfl, hb⟩; refine ⟨_, rfl, ?_⟩; have n0_ := Aside0.mk (below_step (by repeat (first | (with_reducible first | exact HB.out | apply below_alloc | apply pw_below_drewN | apply below_drew1) | exact HB.out)) hb); clear HB; have HB := n0_; clear n0_; (try clear hb); (try clear hb2); (try clear hk); (try clear hi)) | ((with_reducible refine gate_callee (f := 23) rfl ?_); refine goesL_ (some 137) rfl rfl Try.func23 (by kernel_rfl) rfl #[.int .u8 a0, .int .u64 a2] rfl (by (try simp only [List.map_toArray, List.map_cons, List.map_nil]); first | done | rfl | (simp only [List.length_drop, List.length_take]; rfl)) ?_; (with_reducible refine (cutplaneref03_Split.calls a0 a2 t320 t321 t322 _ A51.out).mono ?_); rintro e w57 ⟨rfl, hb⟩; refine ⟨_, rfl, ?_⟩; have n0_ := Aside0.mk (below_step (by repeat (first | (with_reducible first | exact HB.out | apply below_alloc | apply pw_below_drewN | apply below_drew1) | exact HB.out)) hb); clear HB; have HB := n0_; clear n0_; (try clear hb); (try clear hb2); (try clear hk); (try clear hi)) | ((with_reducible refine gate_callee (f := 17) rfl ?_); refine goesL_ (some 139) rfl rfl Try.func17 (by kernel_rfl) rfl #[.int .u8 a0, .int .u64 a1, .bool t320] rfl (by (try simp only [List.map_toArray, List.map_cons, List.map_nil]); first | done | rfl | (simp only [List.length_drop, List.length_take]; rfl)) ?_; (with_reducible refine (cutplaneref03_Signed.calls a0 a1 t320 t323 _ A52.out).mono ?_); rintro e w' ⟨rfl, ⟨nd, rfl⟩⟩; refine ⟨_, rfl, ?_⟩) | ((with_reducible refine gate_callee (f := 14) rfl ?_); refine goesL_ (some 143) rfl rfl Try.func14 (by kernel_rfl) rfl #[.int .u64 t294, .int .i64 t295, .int .u64 t323, .int .i64 0] rfl (by (try simp only [List.map_toArray, List.map_cons, List.map_nil]); first | done | rfl | (simp only [List.length_drop, List.length_take]; rfl)) ?_; (with_reducible refine (cutplanelaw03_is.calls t294 t295 t323 0 true _ A53.out).mono ?_); rintro e w' ⟨rfl, ⟨nd, rfl⟩⟩; refine ⟨_, rfl, ?_⟩) | (go_at_call 15; (with_reducible refine (cutplanelaw03_known.calls kj27  t325 _ A55.out).mono ?_); rintro e w58 ⟨rfl, hb⟩; have n0_ := Aside0.mk (below_step (by repeat (first | (with_reducible first | exact HB.out | apply below_alloc | apply pw_below_drewN | apply below_drew1) | exact HB.out)) hb); clear HB; have HB := n0_; clear n0_; (try clear hb); (try clear hb2); (try clear hk); (try clear hi)))
                    go_ret
                    exact ⟨by first | rfl | (simp [errW_none, errW_some] <;> rfl) | (simp [*, errW_none, errW_some] <;> rfl), by repeat (first | (with_reducible first | exact HB.out | apply below_alloc | apply pw_below_drewN | apply below_drew1) | exact HB.out)⟩
                  · replace c54 := Bool.eq_false_iff.mpr c54
                    subst c54
                    have H1 : (some false) = some r := by rw [if_neg (show ¬ (false = true) by decide)] at H; exact H
                    clear H
                    have H := H1
                    clear H1
                    obtain rfl := Option.some.inj H
                    go_wp2_with (first | ((with_reducible refine gate_callee (f := 19) rfl ?_); refine goesL_ (some 121) rfl rfl Try.func19 (by kernel_rfl) rfl #[.int .u8 a0, .int .u64 a2] rfl (by (try simp only [List.map_toArray, List.map_cons, List.map_nil]); first | done | rfl | (simp only [List.length_drop, List.length_take]; rfl)) ?_; (with_reducible refine (cutplaneref03_Good.calls a0 a2 t314 _ A41.out).mono ?_); rintro e w' ⟨rfl, ⟨nd, rfl⟩⟩; refine ⟨_, rfl, ?_⟩) | ((with_reducible refine gate_callee (f := 24) rfl ?_); refine goesL_ (some 131) rfl rfl Try.func24 (by kernel_rfl) rfl #[.int .u8 a0, .int .u64 a1] rfl (by (try simp only [List.map_toArray, List.map_cons, List.map_nil]); first | done | rfl | (simp only [List.length_drop, List.length_take]; rfl)) ?_; (with_reducible refine (cutplaneref03_Class.calls kj27 a0 a1 t317 _ A43.out).mono ?_); rintro e w59 ⟨rfl, hb⟩; refine ⟨_, rfl, ?_⟩; have n0_ := Aside0.mk (below_step (by repeat (first | (with_reducible first | exact HB.out | apply below_alloc | apply pw_below_drewN | apply below_drew1) | exact HB.out)) hb); clear HB; have HB := n0_; clear n0_; (try clear hb); (try clear hb2); (try clear hk); (try clear hi)) | ((with_reducible refine gate_callee (f := 23) rfl ?_); refine goesL_ (some 137) rfl rfl Try.func23 (by kernel_rfl) rfl #[.int .u8 a0, .int .u64 a2] rfl (by (try simp only [List.map_toArray, List.map_cons, List.map_nil]); first | done | rfl | (simp only [List.length_drop, List.length_take]; rfl)) ?_; (with_reducible refine (cutplaneref03_Split.calls a0 a2 t320 t321 t322 _ A51.out).mono ?_); rintro e w60 ⟨rfl, hb⟩; refine ⟨_, rfl, ?_⟩; have n0_ := Aside0.mk (below_step (by repeat (first | (with_reducible first | exact HB.out | apply below_alloc | apply pw_below_drewN | apply below_drew1) | exact HB.out)) hb); clear HB; have HB := n0_; clear n0_; (try clear hb); (try clear hb2); (try clear hk); (try clear hi)) | ((with_reducible refine gate_callee (f := 17) rfl ?_); refine goesL_ (some 139) rfl rfl Try.func17 (by kernel_rfl) rfl #[.int .u8 a0, .int .u64 a1, .bool t320] rfl (by (try simp only [List.map_toArray, List.map_cons, List.map_nil]); first | done | rfl | (simp only [List.length_drop, List.length_take]; rfl)) ?_; (with_reducible refine (cutplaneref03_Signed.calls a0 a1 t320 t323 _ A52.out).mono ?_); rintro e w' ⟨rfl, ⟨nd, rfl⟩⟩; refine ⟨_, rfl, ?_⟩) | ((with_reducible refine gate_callee (f := 14) rfl ?_); refine goesL_ (some 143) rfl rfl Try.func14 (by kernel_rfl) rfl #[.int .u64 t294, .int .i64 t295, .int .u64 t323, .int .i64 0] rfl (by (try simp only [List.map_toArray, List.map_cons, List.map_nil]); first | done | rfl | (simp only [List.length_drop, List.length_take]; rfl)) ?_; (with_reducible refine (cutplanelaw03_is.calls t294 t295 t323 0 false _ A53.out).mono ?_); rintro e w' ⟨rfl, ⟨nd, rfl⟩⟩; refine ⟨_, rfl, ?_⟩))
                    go_ret
                    exact ⟨by first | rfl | (simp [errW_none, errW_some] <;> rfl) | (simp [*, errW_none, errW_some] <;> rfl), by repeat (first | (with_reducible first | exact HB.out | apply below_alloc | apply pw_below_drewN | apply below_drew1) | exact HB.out)⟩
              · rw [if_neg c42] at H
                have c42b0 : (t314 == 0) = false := beq_eq_false_iff_ne.mpr c42
                have c42b1 : (t314 != 0) = true := bne_iff_ne.mpr c42
                replace H := Option.bind_eq_some_iff.mp H
                obtain ⟨t315, A610, H⟩ := H
                replace H : (if t315 = true then ((cutplanelaw03_known.f kj27).bind fun t316 => (some t316)) else (some false)) = some r := H
                have A61 := Aside0.mk A610
                clear A610
                by_cases c62 : t315 = true
                · subst c62
                  have H1 : ((cutplanelaw03_known.f kj27).bind fun t316 => (some t316)) = some r := by rw [if_pos rfl] at H; exact H
                  clear H
                  have H := H1
                  clear H1
                  replace H := Option.bind_eq_some_iff.mp H
                  obtain ⟨t316, A630, H⟩ := H
                  replace H : (some t316) = some r := H
                  have A63 := Aside0.mk A630
                  clear A630
                  obtain rfl := Option.some.inj H
                  go_wp2_with (first | ((with_reducible refine gate_callee (f := 19) rfl ?_); refine goesL_ (some 121) rfl rfl Try.func19 (by kernel_rfl) rfl #[.int .u8 a0, .int .u64 a2] rfl (by (try simp only [List.map_toArray, List.map_cons, List.map_nil]); first | done | rfl | (simp only [List.length_drop, List.length_take]; rfl)) ?_; (with_reducible refine (cutplaneref03_Good.calls a0 a2 t314 _ A41.out).mono ?_); rintro e w' ⟨rfl, ⟨nd, rfl⟩⟩; refine ⟨_, rfl, ?_⟩) | ((with_reducible refine gate_callee (f := 14) rfl ?_); refine goesL_ (some 125) rfl rfl Try.func14 (by kernel_rfl) rfl #[.int .u64 t294, .int .i64 t295, .int .u64 0, .int .i64 6] rfl (by (try simp only [List.map_toArray, List.map_cons, List.map_nil]); first | done | rfl | (simp only [List.length_drop, List.length_take]; rfl)) ?_; (with_reducible refine (cutplanelaw03_is.calls t294 t295 0 6 true _ A61.out).mono ?_); rintro e w' ⟨rfl, ⟨nd, rfl⟩⟩; refine ⟨_, rfl, ?_⟩) | (go_at_call 15; (with_reducible refine (cutplanelaw03_known.calls kj27  t316 _ A63.out).mono ?_); rintro e w64 ⟨rfl, hb⟩; have n0_ := Aside0.mk (below_step (by repeat (first | (with_reducible first | exact HB.out | apply below_alloc | apply pw_below_drewN | apply below_drew1) | exact HB.out)) hb); clear HB; have HB := n0_; clear n0_; (try clear hb); (try clear hb2); (try clear hk); (try clear hi)))
                  go_ret
                  exact ⟨by first | rfl | (simp [errW_none, errW_some] <;> rfl) | (simp [*, errW_none, errW_some] <;> rfl), by repeat (first | (with_reducible first | exact HB.out | apply below_alloc | apply pw_below_drewN | apply below_drew1) | exact HB.out)⟩
                · replace c62 := Bool.eq_false_iff.mpr c62
                  subst c62
                  have H1 : (some false) = some r := by rw [if_neg (show ¬ (false = true) by decide)] at H; exact H
                  clear H
                  have H := H1
                  clear H1
                  obtain rfl := Option.some.inj H
                  go_wp2_with (first | ((with_reducible refine gate_callee (f := 19) rfl ?_); refine goesL_ (some 121) rfl rfl Try.func19 (by kernel_rfl) rfl #[.int .u8 a0, .int .u64 a2] rfl (by (try simp only [List.map_toArray, List.map_cons, List.map_nil]); first | done | rfl | (simp only [List.length_drop, List.length_take]; rfl)) ?_; (with_reducible refine (cutplaneref03_Good.calls a0 a2 t314 _ A41.out).mono ?_); rintro e w' ⟨rfl, ⟨nd, rfl⟩⟩; refine ⟨_, rfl, ?_⟩) | ((with_reducible refine gate_callee (f := 14) rfl ?_); refine goesL_ (some 125) rfl rfl Try.func14 (by kernel_rfl) rfl #[.int .u64 t294, .int .i64 t295, .int .u64 0, .int .i64 6] rfl (by (try simp only [List.map_toArray, List.map_cons, List.map_nil]); first | done | rfl | (simp only [List.length_drop, List.length_take]; rfl)) ?_; (with_reducible refine (cutplanelaw03_is.calls t294 t295 0 6 false _ A61.out).mono ?_); rintro e w' ⟨rfl, ⟨nd, rfl⟩⟩; refine ⟨_, rfl, ?_⟩))
                  go_ret
                  exact ⟨by first | rfl | (simp [errW_none, errW_some] <;> rfl) | (simp [*, errW_none, errW_some] <;> rfl), by repeat (first | (with_reducible first | exact HB.out | apply below_alloc | apply pw_below_drewN | apply below_drew1) | exact HB.out)⟩
  · rw [if_neg c9] at H
    have c9b0 : (t287 == 0) = false := beq_eq_false_iff_ne.mpr c9
    have c9b1 : (t287 != 0) = true := bne_iff_ne.mpr c9
    replace H := Option.bind_eq_some_iff.mp H
    obtain ⟨t296, A650, H⟩ := H
    replace H : (if t296 = true then ((cutplanelaw03_is.f t290 t291 0 t287).bind fun t297 => (if t297 = true then ((cutplanelaw03_is.f t292 t293 0 t287).bind fun t298 => (if t298 = true then ((cutplanelaw03_is.f t294 t295 0 t287).bind fun t299 => (if t299 = true then ((cutplanelaw03_known.f k).bind fun t300 => (some t300)) else (some false))) else (some false))) else (some false))) else (some false)) = some r := H
    have A65 := Aside0.mk A650
    clear A650
    by_cases c66 : t296 = true
    · subst c66
      have H1 : ((cutplanelaw03_is.f t290 t291 0 t287).bind fun t297 => (if t297 = true then ((cutplanelaw03_is.f t292 t293 0 t287).bind fun t298 => (if t298 = true then ((cutplanelaw03_is.f t294 t295 0 t287).bind fun t299 => (if t299 = true then ((cutplanelaw03_known.f k).bind fun t300 => (some t300)) else (some false))) else (some false))) else (some false))) = some r := by rw [if_pos rfl] at H; exact H
      clear H
      have H := H1
      clear H1
      replace H := Option.bind_eq_some_iff.mp H
      obtain ⟨t297, A670, H⟩ := H
      replace H : (if t297 = true then ((cutplanelaw03_is.f t292 t293 0 t287).bind fun t298 => (if t298 = true then ((cutplanelaw03_is.f t294 t295 0 t287).bind fun t299 => (if t299 = true then ((cutplanelaw03_known.f k).bind fun t300 => (some t300)) else (some false))) else (some false))) else (some false)) = some r := H
      have A67 := Aside0.mk A670
      clear A670
      by_cases c68 : t297 = true
      · subst c68
        have H1 : ((cutplanelaw03_is.f t292 t293 0 t287).bind fun t298 => (if t298 = true then ((cutplanelaw03_is.f t294 t295 0 t287).bind fun t299 => (if t299 = true then ((cutplanelaw03_known.f k).bind fun t300 => (some t300)) else (some false))) else (some false))) = some r := by rw [if_pos rfl] at H; exact H
        clear H
        have H := H1
        clear H1
        replace H := Option.bind_eq_some_iff.mp H
        obtain ⟨t298, A690, H⟩ := H
        replace H : (if t298 = true then ((cutplanelaw03_is.f t294 t295 0 t287).bind fun t299 => (if t299 = true then ((cutplanelaw03_known.f k).bind fun t300 => (some t300)) else (some false))) else (some false)) = some r := H
        have A69 := Aside0.mk A690
        clear A690
        by_cases c70 : t298 = true
        · subst c70
          have H1 : ((cutplanelaw03_is.f t294 t295 0 t287).bind fun t299 => (if t299 = true then ((cutplanelaw03_known.f k).bind fun t300 => (some t300)) else (some false))) = some r := by rw [if_pos rfl] at H; exact H
          clear H
          have H := H1
          clear H1
          replace H := Option.bind_eq_some_iff.mp H
          obtain ⟨t299, A710, H⟩ := H
          replace H : (if t299 = true then ((cutplanelaw03_known.f k).bind fun t300 => (some t300)) else (some false)) = some r := H
          have A71 := Aside0.mk A710
          clear A710
          by_cases c72 : t299 = true
          · subst c72
            have H1 : ((cutplanelaw03_known.f k).bind fun t300 => (some t300)) = some r := by rw [if_pos rfl] at H; exact H
            clear H
            have H := H1
            clear H1
            replace H := Option.bind_eq_some_iff.mp H
            obtain ⟨t300, A730, H⟩ := H
            replace H : (some t300) = some r := H
            have A73 := Aside0.mk A730
            clear A730
            obtain rfl := Option.some.inj H
            go_enter Try.func5, Try.ntmps5
            go_wp2_with (first | ((with_reducible refine gate_callee (f := 19) rfl ?_); refine goesL_ (some 21) rfl rfl Try.func19 (by kernel_rfl) rfl #[.int .u8 a0, .int .u64 a1] rfl (by (try simp only [List.map_toArray, List.map_cons, List.map_nil]); first | done | rfl | (simp only [List.length_drop, List.length_take]; rfl)) ?_; (with_reducible refine (cutplaneref03_Good.calls a0 a1 t287 _ A4.out).mono ?_); rintro e w' ⟨rfl, ⟨nd, rfl⟩⟩; refine ⟨_, rfl, ?_⟩) | ((with_reducible refine gate_callee (f := 28) rfl ?_); refine goesL_ (some 25) rfl rfl Try.func28 (by kernel_rfl) rfl #[.int .u8 a0, .int .u64 a1] rfl (by (try simp only [List.map_toArray, List.map_cons, List.map_nil]); first | done | rfl | (simp only [List.length_drop, List.length_take]; rfl)) ?_; (with_reducible refine (word_Canon.calls k a0 a1 t288 t289 _ A5.out).mono ?_); rintro e w74 ⟨rfl, hb⟩; refine ⟨_, rfl, ?_⟩; have n0_ := Aside0.mk (below_step (by repeat (first | (with_reducible first | exact HB.out | apply below_alloc | apply pw_below_drewN | apply below_drew1) | exact HB.out)) hb); clear HB; have HB := n0_; clear n0_; (try clear hb); (try clear hb2); (try clear hk); (try clear hi)) | ((with_reducible refine gate_callee (f := 29) rfl ?_); refine goesL_ (some 31) rfl rfl Try.func29 (by kernel_rfl) rfl #[.int .u8 a0, .int .u64 a1] rfl (by (try simp only [List.map_toArray, List.map_cons, List.map_nil]); first | done | rfl | (simp only [List.length_drop, List.length_take]; rfl)) ?_; (with_reducible refine (word_Neg.calls k a0 a1 t290 t291 _ A6.out).mono ?_); rintro e w75 ⟨rfl, hb⟩; refine ⟨_, rfl, ?_⟩; have n0_ := Aside0.mk (below_step (by repeat (first | (with_reducible first | exact HB.out | apply below_alloc | apply pw_below_drewN | apply below_drew1) | exact HB.out)) hb); clear HB; have HB := n0_; clear n0_; (try clear hb); (try clear hb2); (try clear hk); (try clear hi)) | ((with_reducible refine gate_callee (f := 30) rfl ?_); refine goesL_ (some 37) rfl rfl Try.func30 (by kernel_rfl) rfl #[.int .u8 a0, .int .u64 a1] rfl (by (try simp only [List.map_toArray, List.map_cons, List.map_nil]); first | done | rfl | (simp only [List.length_drop, List.length_take]; rfl)) ?_; (with_reducible refine (word_Abs.calls k a0 a1 t292 t293 _ A7.out).mono ?_); rintro e w76 ⟨rfl, hb⟩; refine ⟨_, rfl, ?_⟩; have n0_ := Aside0.mk (below_step (by repeat (first | (with_reducible first | exact HB.out | apply below_alloc | apply pw_below_drewN | apply below_drew1) | exact HB.out)) hb); clear HB; have HB := n0_; clear n0_; (try clear hb); (try clear hb2); (try clear hk); (try clear hi)) | ((with_reducible refine gate_callee (f := 31) rfl ?_); refine goesL_ (some 44) rfl rfl Try.func31 (by kernel_rfl) rfl #[.int .u8 a0, .int .u64 a1, .int .u64 a2] rfl (by (try simp only [List.map_toArray, List.map_cons, List.map_nil]); first | done | rfl | (simp only [List.length_drop, List.length_take]; rfl)) ?_; (with_reducible refine (word_CopySign.calls k a0 a1 a2 t294 t295 _ A8.out).mono ?_); rintro e w77 ⟨rfl, hb⟩; refine ⟨_, rfl, ?_⟩; have n0_ := Aside0.mk (below_step (by repeat (first | (with_reducible first | exact HB.out | apply below_alloc | apply pw_below_drewN | apply below_drew1) | exact HB.out)) hb); clear HB; have HB := n0_; clear n0_; (try clear hb); (try clear hb2); (try clear hk); (try clear hi)) | ((with_reducible refine gate_callee (f := 14) rfl ?_); refine goesL_ (some 52) rfl rfl Try.func14 (by kernel_rfl) rfl #[.int .u64 t288, .int .i64 t289, .int .u64 0, .int .i64 t287] rfl (by (try simp only [List.map_toArray, List.map_cons, List.map_nil]); first | done | rfl | (simp only [List.length_drop, List.length_take]; rfl)) ?_; (with_reducible refine (cutplanelaw03_is.calls t288 t289 0 t287 true _ A65.out).mono ?_); rintro e w' ⟨rfl, ⟨nd, rfl⟩⟩; refine ⟨_, rfl, ?_⟩) | (go_at_call 14; (with_reducible refine (cutplanelaw03_is.calls t290 t291 0 t287 true _ A67.out).mono ?_); rintro e w' ⟨rfl, ⟨nd, rfl⟩⟩) | (go_at_call 14; (with_reducible refine (cutplanelaw03_is.calls t292 t293 0 t287 true _ A69.out).mono ?_); rintro e w' ⟨rfl, ⟨nd, rfl⟩⟩) | (go_at_call 14; (with_reducible refine (cutplanelaw03_is.calls t294 t295 0 t287 true _ A71.out).mono ?_); rintro e w' ⟨rfl, ⟨nd, rfl⟩⟩) | (go_at_call 15; (with_reducible refine (cutplanelaw03_known.calls k  t300 _ A73.out).mono ?_); rintro e w78 ⟨rfl, hb⟩; have n0_ := Aside0.mk (below_step (by repeat (first | (with_reducible first | exact HB.out | apply below_alloc | apply pw_below_drewN | apply below_drew1) | exact HB.out)) hb); clear HB; have HB := n0_; clear n0_; (try clear hb); (try clear hb2); (try clear hk); (try clear hi)))
            go_ret
            exact ⟨by first | rfl | (simp [errW_none, errW_some] <;> rfl) | (simp [*, errW_none, errW_some] <;> rfl), by repeat (first | (with_reducible first | exact HB.out | apply below_alloc | apply pw_below_drewN | apply below_drew1) | exact HB.out)⟩
          · replace c72 := Bool.eq_false_iff.mpr c72
            subst c72
            have H1 : (some false) = some r := by rw [if_neg (show ¬ (false = true) by decide)] at H; exact H
            clear H
            have H := H1
            clear H1
            obtain rfl := Option.some.inj H
            go_enter Try.func5, Try.ntmps5
            go_wp2_with (first | ((with_reducible refine gate_callee (f := 19) rfl ?_); refine goesL_ (some 21) rfl rfl Try.func19 (by kernel_rfl) rfl #[.int .u8 a0, .int .u64 a1] rfl (by (try simp only [List.map_toArray, List.map_cons, List.map_nil]); first | done | rfl | (simp only [List.length_drop, List.length_take]; rfl)) ?_; (with_reducible refine (cutplaneref03_Good.calls a0 a1 t287 _ A4.out).mono ?_); rintro e w' ⟨rfl, ⟨nd, rfl⟩⟩; refine ⟨_, rfl, ?_⟩) | ((with_reducible refine gate_callee (f := 28) rfl ?_); refine goesL_ (some 25) rfl rfl Try.func28 (by kernel_rfl) rfl #[.int .u8 a0, .int .u64 a1] rfl (by (try simp only [List.map_toArray, List.map_cons, List.map_nil]); first | done | rfl | (simp only [List.length_drop, List.length_take]; rfl)) ?_; (with_reducible refine (word_Canon.calls k a0 a1 t288 t289 _ A5.out).mono ?_); rintro e w79 ⟨rfl, hb⟩; refine ⟨_, rfl, ?_⟩; have n0_ := Aside0.mk (below_step (by repeat (first | (with_reducible first | exact HB.out | apply below_alloc | apply pw_below_drewN | apply below_drew1) | exact HB.out)) hb); clear HB; have HB := n0_; clear n0_; (try clear hb); (try clear hb2); (try clear hk); (try clear hi)) | ((with_reducible refine gate_callee (f := 29) rfl ?_); refine goesL_ (some 31) rfl rfl Try.func29 (by kernel_rfl) rfl #[.int .u8 a0, .int .u64 a1] rfl (by (try simp only [List.map_toArray, List.map_cons, List.map_nil]); first | done | rfl | (simp only [List.length_drop, List.length_take]; rfl)) ?_; (with_reducible refine (word_Neg.calls k a0 a1 t290 t291 _ A6.out).mono ?_); rintro e w80 ⟨rfl, hb⟩; refine ⟨_, rfl, ?_⟩; have n0_ := Aside0.mk (below_step (by repeat (first | (with_reducible first | exact HB.out | apply below_alloc | apply pw_below_drewN | apply below_drew1) | exact HB.out)) hb); clear HB; have HB := n0_; clear n0_; (try clear hb); (try clear hb2); (try clear hk); (try clear hi)) | ((with_reducible refine gate_callee (f := 30) rfl ?_); refine goesL_ (some 37) rfl rfl Try.func30 (by kernel_rfl) rfl #[.int .u8 a0, .int .u64 a1] rfl (by (try simp only [List.map_toArray, List.map_cons, List.map_nil]); first | done | rfl | (simp only [List.length_drop, List.length_take]; rfl)) ?_; (with_reducible refine (word_Abs.calls k a0 a1 t292 t293 _ A7.out).mono ?_); rintro e w81 ⟨rfl, hb⟩; refine ⟨_, rfl, ?_⟩; have n0_ := Aside0.mk (below_step (by repeat (first | (with_reducible first | exact HB.out | apply below_alloc | apply pw_below_drewN | apply below_drew1) | exact HB.out)) hb); clear HB; have HB := n0_; clear n0_; (try clear hb); (try clear hb2); (try clear hk); (try clear hi)) | ((with_reducible refine gate_callee (f := 31) rfl ?_); refine goesL_ (some 44) rfl rfl Try.func31 (by kernel_rfl) rfl #[.int .u8 a0, .int .u64 a1, .int .u64 a2] rfl (by (try simp only [List.map_toArray, List.map_cons, List.map_nil]); first | done | rfl | (simp only [List.length_drop, List.length_take]; rfl)) ?_; (with_reducible refine (word_CopySign.calls k a0 a1 a2 t294 t295 _ A8.out).mono ?_); rintro e w82 ⟨rfl, hb⟩; refine ⟨_, rfl, ?_⟩; have n0_ := Aside0.mk (below_step (by repeat (first | (with_reducible first | exact HB.out | apply below_alloc | apply pw_below_drewN | apply below_drew1) | exact HB.out)) hb); clear HB; have HB := n0_; clear n0_; (try clear hb); (try clear hb2); (try clear hk); (try clear hi)) | ((with_reducible refine gate_callee (f := 14) rfl ?_); refine goesL_ (some 52) rfl rfl Try.func14 (by kernel_rfl) rfl #[.int .u64 t288, .int .i64 t289, .int .u64 0, .int .i64 t287] rfl (by (try simp only [List.map_toArray, List.map_cons, List.map_nil]); first | done | rfl | (simp only [List.length_drop, List.length_take]; rfl)) ?_; (with_reducible refine (cutplanelaw03_is.calls t288 t289 0 t287 true _ A65.out).mono ?_); rintro e w' ⟨rfl, ⟨nd, rfl⟩⟩; refine ⟨_, rfl, ?_⟩) | (go_at_call 14; (with_reducible refine (cutplanelaw03_is.calls t290 t291 0 t287 true _ A67.out).mono ?_); rintro e w' ⟨rfl, ⟨nd, rfl⟩⟩) | (go_at_call 14; (with_reducible refine (cutplanelaw03_is.calls t292 t293 0 t287 true _ A69.out).mono ?_); rintro e w' ⟨rfl, ⟨nd, rfl⟩⟩) | (go_at_call 14; (with_reducible refine (cutplanelaw03_is.calls t294 t295 0 t287 false _ A71.out).mono ?_); rintro e w' ⟨rfl, ⟨nd, rfl⟩⟩))
            go_ret
            exact ⟨by first | rfl | (simp [errW_none, errW_some] <;> rfl) | (simp [*, errW_none, errW_some] <;> rfl), by repeat (first | (with_reducible first | exact HB.out | apply below_alloc | apply pw_below_drewN | apply below_drew1) | exact HB.out)⟩
        · replace c70 := Bool.eq_false_iff.mpr c70
          subst c70
          have H1 : (some false) = some r := by rw [if_neg (show ¬ (false = true) by decide)] at H; exact H
          clear H
          have H := H1
          clear H1
          obtain rfl := Option.some.inj H
          go_enter Try.func5, Try.ntmps5
          go_wp2_with (first | ((with_reducible refine gate_callee (f := 19) rfl ?_); refine goesL_ (some 21) rfl rfl Try.func19 (by kernel_rfl) rfl #[.int .u8 a0, .int .u64 a1] rfl (by (try simp only [List.map_toArray, List.map_cons, List.map_nil]); first | done | rfl | (simp only [List.length_drop, List.length_take]; rfl)) ?_; (with_reducible refine (cutplaneref03_Good.calls a0 a1 t287 _ A4.out).mono ?_); rintro e w' ⟨rfl, ⟨nd, rfl⟩⟩; refine ⟨_, rfl, ?_⟩) | ((with_reducible refine gate_callee (f := 28) rfl ?_); refine goesL_ (some 25) rfl rfl Try.func28 (by kernel_rfl) rfl #[.int .u8 a0, .int .u64 a1] rfl (by (try simp only [List.map_toArray, List.map_cons, List.map_nil]); first | done | rfl | (simp only [List.length_drop, List.length_take]; rfl)) ?_; (with_reducible refine (word_Canon.calls k a0 a1 t288 t289 _ A5.out).mono ?_); rintro e w83 ⟨rfl, hb⟩; refine ⟨_, rfl, ?_⟩; have n0_ := Aside0.mk (below_step (by repeat (first | (with_reducible first | exact HB.out | apply below_alloc | apply pw_below_drewN | apply below_drew1) | exact HB.out)) hb); clear HB; have HB := n0_; clear n0_; (try clear hb); (try clear hb2); (try clear hk); (try clear hi)) | ((with_reducible refine gate_callee (f := 29) rfl ?_); refine goesL_ (some 31) rfl rfl Try.func29 (by kernel_rfl) rfl #[.int .u8 a0, .int .u64 a1] rfl (by (try simp only [List.map_toArray, List.map_cons, List.map_nil]); first | done | rfl | (simp only [List.length_drop, List.length_take]; rfl)) ?_; (with_reducible refine (word_Neg.calls k a0 a1 t290 t291 _ A6.out).mono ?_); rintro e w84 ⟨rfl, hb⟩; refine ⟨_, rfl, ?_⟩; have n0_ := Aside0.mk (below_step (by repeat (first | (with_reducible first | exact HB.out | apply below_alloc | apply pw_below_drewN | apply below_drew1) | exact HB.out)) hb); clear HB; have HB := n0_; clear n0_; (try clear hb); (try clear hb2); (try clear hk); (try clear hi)) | ((with_reducible refine gate_callee (f := 30) rfl ?_); refine goesL_ (some 37) rfl rfl Try.func30 (by kernel_rfl) rfl #[.int .u8 a0, .int .u64 a1] rfl (by (try simp only [List.map_toArray, List.map_cons, List.map_nil]); first | done | rfl | (simp only [List.length_drop, List.length_take]; rfl)) ?_; (with_reducible refine (word_Abs.calls k a0 a1 t292 t293 _ A7.out).mono ?_); rintro e w85 ⟨rfl, hb⟩; refine ⟨_, rfl, ?_⟩; have n0_ := Aside0.mk (below_step (by repeat (first | (with_reducible first | exact HB.out | apply below_alloc | apply pw_below_drewN | apply below_drew1) | exact HB.out)) hb); clear HB; have HB := n0_; clear n0_; (try clear hb); (try clear hb2); (try clear hk); (try clear hi)) | ((with_reducible refine gate_callee (f := 31) rfl ?_); refine goesL_ (some 44) rfl rfl Try.func31 (by kernel_rfl) rfl #[.int .u8 a0, .int .u64 a1, .int .u64 a2] rfl (by (try simp only [List.map_toArray, List.map_cons, List.map_nil]); first | done | rfl | (simp only [List.length_drop, List.length_take]; rfl)) ?_; (with_reducible refine (word_CopySign.calls k a0 a1 a2 t294 t295 _ A8.out).mono ?_); rintro e w86 ⟨rfl, hb⟩; refine ⟨_, rfl, ?_⟩; have n0_ := Aside0.mk (below_step (by repeat (first | (with_reducible first | exact HB.out | apply below_alloc | apply pw_below_drewN | apply below_drew1) | exact HB.out)) hb); clear HB; have HB := n0_; clear n0_; (try clear hb); (try clear hb2); (try clear hk); (try clear hi)) | ((with_reducible refine gate_callee (f := 14) rfl ?_); refine goesL_ (some 52) rfl rfl Try.func14 (by kernel_rfl) rfl #[.int .u64 t288, .int .i64 t289, .int .u64 0, .int .i64 t287] rfl (by (try simp only [List.map_toArray, List.map_cons, List.map_nil]); first | done | rfl | (simp only [List.length_drop, List.length_take]; rfl)) ?_; (with_reducible refine (cutplanelaw03_is.calls t288 t289 0 t287 true _ A65.out).mono ?_); rintro e w' ⟨rfl, ⟨nd, rfl⟩⟩; refine ⟨_, rfl, ?_⟩) | (go_at_call 14; (with_reducible refine (cutplanelaw03_is.calls t290 t291 0 t287 true _ A67.out).mono ?_); rintro e w' ⟨rfl, ⟨nd, rfl⟩⟩) | (go_at_call 14; (with_reducible refine (cutplanelaw03_is.calls t292 t293 0 t287 false _ A69.out).mono ?_); rintro e w' ⟨rfl, ⟨nd, rfl⟩⟩))
          go_ret
          exact ⟨by first | rfl | (simp [errW_none, errW_some] <;> rfl) | (simp [*, errW_none, errW_some] <;> rfl), by repeat (first | (with_reducible first | exact HB.out | apply below_alloc | apply pw_below_drewN | apply below_drew1) | exact HB.out)⟩
      · replace c68 := Bool.eq_false_iff.mpr c68
        subst c68
        have H1 : (some false) = some r := by rw [if_neg (show ¬ (false = true) by decide)] at H; exact H
        clear H
        have H := H1
        clear H1
        obtain rfl := Option.some.inj H
        go_enter Try.func5, Try.ntmps5
        go_wp2_with (first | ((with_reducible refine gate_callee (f := 19) rfl ?_); refine goesL_ (some 21) rfl rfl Try.func19 (by kernel_rfl) rfl #[.int .u8 a0, .int .u64 a1] rfl (by (try simp only [List.map_toArray, List.map_cons, List.map_nil]); first | done | rfl | (simp only [List.length_drop, List.length_take]; rfl)) ?_; (with_reducible refine (cutplaneref03_Good.calls a0 a1 t287 _ A4.out).mono ?_); rintro e w' ⟨rfl, ⟨nd, rfl⟩⟩; refine ⟨_, rfl, ?_⟩) | ((with_reducible refine gate_callee (f := 28) rfl ?_); refine goesL_ (some 25) rfl rfl Try.func28 (by kernel_rfl) rfl #[.int .u8 a0, .int .u64 a1] rfl (by (try simp only [List.map_toArray, List.map_cons, List.map_nil]); first | done | rfl | (simp only [List.length_drop, List.length_take]; rfl)) ?_; (with_reducible refine (word_Canon.calls k a0 a1 t288 t289 _ A5.out).mono ?_); rintro e w87 ⟨rfl, hb⟩; refine ⟨_, rfl, ?_⟩; have n0_ := Aside0.mk (below_step (by repeat (first | (with_reducible first | exact HB.out | apply below_alloc | apply pw_below_drewN | apply below_drew1) | exact HB.out)) hb); clear HB; have HB := n0_; clear n0_; (try clear hb); (try clear hb2); (try clear hk); (try clear hi)) | ((with_reducible refine gate_callee (f := 29) rfl ?_); refine goesL_ (some 31) rfl rfl Try.func29 (by kernel_rfl) rfl #[.int .u8 a0, .int .u64 a1] rfl (by (try simp only [List.map_toArray, List.map_cons, List.map_nil]); first | done | rfl | (simp only [List.length_drop, List.length_take]; rfl)) ?_; (with_reducible refine (word_Neg.calls k a0 a1 t290 t291 _ A6.out).mono ?_); rintro e w88 ⟨rfl, hb⟩; refine ⟨_, rfl, ?_⟩; have n0_ := Aside0.mk (below_step (by repeat (first | (with_reducible first | exact HB.out | apply below_alloc | apply pw_below_drewN | apply below_drew1) | exact HB.out)) hb); clear HB; have HB := n0_; clear n0_; (try clear hb); (try clear hb2); (try clear hk); (try clear hi)) | ((with_reducible refine gate_callee (f := 30) rfl ?_); refine goesL_ (some 37) rfl rfl Try.func30 (by kernel_rfl) rfl #[.int .u8 a0, .int .u64 a1] rfl (by (try simp only [List.map_toArray, List.map_cons, List.map_nil]); first | done | rfl | (simp only [List.length_drop, List.length_take]; rfl)) ?_; (with_reducible refine (word_Abs.calls k a0 a1 t292 t293 _ A7.out).mono ?_); rintro e w89 ⟨rfl, hb⟩; refine ⟨_, rfl, ?_⟩; have n0_ := Aside0.mk (below_step (by repeat (first | (with_reducible first | exact HB.out | apply below_alloc | apply pw_below_drewN | apply below_drew1) | exact HB.out)) hb); clear HB; have HB := n0_; clear n0_; (try clear hb); (try clear hb2); (try clear hk); (try clear hi)) | ((with_reducible refine gate_callee (f := 31) rfl ?_); refine goesL_ (some 44) rfl rfl Try.func31 (by kernel_rfl) rfl #[.int .u8 a0, .int .u64 a1, .int .u64 a2] rfl (by (try simp only [List.map_toArray, List.map_cons, List.map_nil]); first | done | rfl | (simp only [List.length_drop, List.length_take]; rfl)) ?_; (with_reducible refine (word_CopySign.calls k a0 a1 a2 t294 t295 _ A8.out).mono ?_); rintro e w90 ⟨rfl, hb⟩; refine ⟨_, rfl, ?_⟩; have n0_ := Aside0.mk (below_step (by repeat (first | (with_reducible first | exact HB.out | apply below_alloc | apply pw_below_drewN | apply below_drew1) | exact HB.out)) hb); clear HB; have HB := n0_; clear n0_; (try clear hb); (try clear hb2); (try clear hk); (try clear hi)) | ((with_reducible refine gate_callee (f := 14) rfl ?_); refine goesL_ (some 52) rfl rfl Try.func14 (by kernel_rfl) rfl #[.int .u64 t288, .int .i64 t289, .int .u64 0, .int .i64 t287] rfl (by (try simp only [List.map_toArray, List.map_cons, List.map_nil]); first | done | rfl | (simp only [List.length_drop, List.length_take]; rfl)) ?_; (with_reducible refine (cutplanelaw03_is.calls t288 t289 0 t287 true _ A65.out).mono ?_); rintro e w' ⟨rfl, ⟨nd, rfl⟩⟩; refine ⟨_, rfl, ?_⟩) | (go_at_call 14; (with_reducible refine (cutplanelaw03_is.calls t290 t291 0 t287 false _ A67.out).mono ?_); rintro e w' ⟨rfl, ⟨nd, rfl⟩⟩))
        go_ret
        exact ⟨by first | rfl | (simp [errW_none, errW_some] <;> rfl) | (simp [*, errW_none, errW_some] <;> rfl), by repeat (first | (with_reducible first | exact HB.out | apply below_alloc | apply pw_below_drewN | apply below_drew1) | exact HB.out)⟩
    · replace c66 := Bool.eq_false_iff.mpr c66
      subst c66
      have H1 : (some false) = some r := by rw [if_neg (show ¬ (false = true) by decide)] at H; exact H
      clear H
      have H := H1
      clear H1
      obtain rfl := Option.some.inj H
      go_enter Try.func5, Try.ntmps5
      go_wp2_with (first | ((with_reducible refine gate_callee (f := 19) rfl ?_); refine goesL_ (some 21) rfl rfl Try.func19 (by kernel_rfl) rfl #[.int .u8 a0, .int .u64 a1] rfl (by (try simp only [List.map_toArray, List.map_cons, List.map_nil]); first | done | rfl | (simp only [List.length_drop, List.length_take]; rfl)) ?_; (with_reducible refine (cutplaneref03_Good.calls a0 a1 t287 _ A4.out).mono ?_); rintro e w' ⟨rfl, ⟨nd, rfl⟩⟩; refine ⟨_, rfl, ?_⟩) | ((with_reducible refine gate_callee (f := 28) rfl ?_); refine goesL_ (some 25) rfl rfl Try.func28 (by kernel_rfl) rfl #[.int .u8 a0, .int .u64 a1] rfl (by (try simp only [List.map_toArray, List.map_cons, List.map_nil]); first | done | rfl | (simp only [List.length_drop, List.length_take]; rfl)) ?_; (with_reducible refine (word_Canon.calls k a0 a1 t288 t289 _ A5.out).mono ?_); rintro e w91 ⟨rfl, hb⟩; refine ⟨_, rfl, ?_⟩; have n0_ := Aside0.mk (below_step (by repeat (first | (with_reducible first | exact HB.out | apply below_alloc | apply pw_below_drewN | apply below_drew1) | exact HB.out)) hb); clear HB; have HB := n0_; clear n0_; (try clear hb); (try clear hb2); (try clear hk); (try clear hi)) | ((with_reducible refine gate_callee (f := 29) rfl ?_); refine goesL_ (some 31) rfl rfl Try.func29 (by kernel_rfl) rfl #[.int .u8 a0, .int .u64 a1] rfl (by (try simp only [List.map_toArray, List.map_cons, List.map_nil]); first | done | rfl | (simp only [List.length_drop, List.length_take]; rfl)) ?_; (with_reducible refine (word_Neg.calls k a0 a1 t290 t291 _ A6.out).mono ?_); rintro e w92 ⟨rfl, hb⟩; refine ⟨_, rfl, ?_⟩; have n0_ := Aside0.mk (below_step (by repeat (first | (with_reducible first | exact HB.out | apply below_alloc | apply pw_below_drewN | apply below_drew1) | exact HB.out)) hb); clear HB; have HB := n0_; clear n0_; (try clear hb); (try clear hb2); (try clear hk); (try clear hi)) | ((with_reducible refine gate_callee (f := 30) rfl ?_); refine goesL_ (some 37) rfl rfl Try.func30 (by kernel_rfl) rfl #[.int .u8 a0, .int .u64 a1] rfl (by (try simp only [List.map_toArray, List.map_cons, List.map_nil]); first | done | rfl | (simp only [List.length_drop, List.length_take]; rfl)) ?_; (with_reducible refine (word_Abs.calls k a0 a1 t292 t293 _ A7.out).mono ?_); rintro e w93 ⟨rfl, hb⟩; refine ⟨_, rfl, ?_⟩; have n0_ := Aside0.mk (below_step (by repeat (first | (with_reducible first | exact HB.out | apply below_alloc | apply pw_below_drewN | apply below_drew1) | exact HB.out)) hb); clear HB; have HB := n0_; clear n0_; (try clear hb); (try clear hb2); (try clear hk); (try clear hi)) | ((with_reducible refine gate_callee (f := 31) rfl ?_); refine goesL_ (some 44) rfl rfl Try.func31 (by kernel_rfl) rfl #[.int .u8 a0, .int .u64 a1, .int .u64 a2] rfl (by (try simp only [List.map_toArray, List.map_cons, List.map_nil]); first | done | rfl | (simp only [List.length_drop, List.length_take]; rfl)) ?_; (with_reducible refine (word_CopySign.calls k a0 a1 a2 t294 t295 _ A8.out).mono ?_); rintro e w94 ⟨rfl, hb⟩; refine ⟨_, rfl, ?_⟩; have n0_ := Aside0.mk (below_step (by repeat (first | (with_reducible first | exact HB.out | apply below_alloc | apply pw_below_drewN | apply below_drew1) | exact HB.out)) hb); clear HB; have HB := n0_; clear n0_; (try clear hb); (try clear hb2); (try clear hk); (try clear hi)) | ((with_reducible refine gate_callee (f := 14) rfl ?_); refine goesL_ (some 52) rfl rfl Try.func14 (by kernel_rfl) rfl #[.int .u64 t288, .int .i64 t289, .int .u64 0, .int .i64 t287] rfl (by (try simp only [List.map_toArray, List.map_cons, List.map_nil]); first | done | rfl | (simp only [List.length_drop, List.length_take]; rfl)) ?_; (with_reducible refine (cutplanelaw03_is.calls t288 t289 0 t287 false _ A65.out).mono ?_); rintro e w' ⟨rfl, ⟨nd, rfl⟩⟩; refine ⟨_, rfl, ?_⟩))
      go_ret
      exact ⟨by first | rfl | (simp [errW_none, errW_some] <;> rfl) | (simp [*, errW_none, errW_some] <;> rfl), by repeat (first | (with_reducible first | exact HB.out | apply below_alloc | apply pw_below_drewN | apply below_drew1) | exact HB.out)⟩

/-- THE ONE PURE STATEMENT of cutplanelaw03_WordSigns: yours. -/
def cutplanelaw03_WordSigns.Pure : Prop := ∀ (a0 : Int) (a1 : Int) (a2 : Int), (Lit.int .u8 a0).wf = true → (Lit.int .u64 a1).wf = true → (Lit.int .u64 a2).wf = true → ∃ k, cutplanelaw03_WordSigns.f k a0 a1 a2 = some true
theorem cutplanelaw03_WordSigns.walk (P : cutplanelaw03_WordSigns.Pure) (a0 : Int) (a1 : Int) (a2 : Int) (w : World) (w0 : (Lit.int .u8 a0).wf = true) (w1 : (Lit.int .u64 a1).wf = true) (w2 : (Lit.int .u64 a2).wf = true) :
    Calls Try.prog 5 #[.int .u8 a0, .int .u64 a1, .int .u64 a2] w fun e w' => e = .returned (.bool true) ∧ Below w.heap.size w w' := by
  obtain ⟨k, h⟩ := P a0 a1 a2 w0 w1 w2
  refine (cutplanelaw03_WordSigns.calls k a0 a1 a2 true w h).mono ?_
  rintro e w' ⟨rfl, hd⟩
  exact ⟨rfl, hd⟩

end Go.Proofs.Ythiklmgdmaemgaa.PA
