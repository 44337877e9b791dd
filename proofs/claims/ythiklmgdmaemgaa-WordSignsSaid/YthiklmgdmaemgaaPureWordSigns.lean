/- The law WordSigns, plain: for every format's number and any two words of 64 bits the program's four sign functions answer as the document's. No condition. -/
import Derived.Test.YthiklmgdmaemgaaWord
import Derived.Test.YthiklmgdmaemgaaPAx14
namespace Go.Proofs.Ythiklmgdmaemgaa.Pure
open Go.RowKit Go.Proofs.Ythiklmgdmaemgaa.PA Go.Proofs.YthiklmgdmaemgaaW.PrintWords Go.Proofs.YthiklmgdmaemgaaW.PrintLast Go.Proofs.Ythiklmgdmaemgaa.Wd
set_option linter.unusedSimpArgs false
set_option linter.unusedVariables false
theorem is_same (a b : Int) : cutplanelaw03_is.f a 0 b 0 = some (decide (a = b)) := by
  unfold cutplanelaw03_is.f
  by_cases h : a = b <;> simp [h]
theorem is_refused (e : Int) (h : e ≠ 0) : cutplanelaw03_is.f 0 e 0 e = some true := by
  unfold cutplanelaw03_is.f
  simp [h]
theorem flip_sign (f : Int) {w : Int} (hu : U w) (h : Gd f w) : (if (!decide (w ≥ sgn f)) = true then w % sgn f + sgn f else w % sgn f) = flipw f w := by
  unfold flipw
  rcases h with ⟨rfl, h0, h1⟩ | ⟨rfl, h0, h1⟩
  · have e : sgn 1 = 2147483648 := rfl
    rw [e]
    by_cases c : w ≥ 2147483648
    · simp [c]; omega
    · simp [c]; omega
  · have e : sgn 2 = 9223372036854775808 := rfl
    rw [e]
    by_cases c : w ≥ 9223372036854775808
    · simp [c]; omega
    · simp [c]; omega
theorem WordSigns : cutplanelaw03_WordSigns.Pure := by
  intro f w s _ hw hs
  have hu := u_of hw
  have hv := u_of hs
  refine ⟨6, ?_⟩
  unfold cutplanelaw03_WordSigns.f
  rw [ref_Good f w]
  by_cases he : err f w = 0
  · have h := gd_of he hu
    rw [canon_good 4 h, neg_good 4 h, abs_good 4 h]
    simp only [Option.bind_some, he, if_true, ref_Class 5 f hu, ref_None, ref_Split f hu, ref_Signed f hu]
    by_cases hg : err f s = 0
    · have g := gd_of hg hv
      rw [copysign_good 3 h g]
      simp only [Option.bind_some]
      by_cases c : cl f w = 5
      · have e1 : canw f w = nanw f := by unfold canw; rw [if_pos c]
        have e2 : negw f w = nanw f := by unfold negw; rw [if_pos c]
        have e3 : absw f w = nanw f := by unfold absw; rw [if_pos c]
        have e4 : cpw f w s = nanw f := by unfold cpw; rw [if_pos c]
        rw [if_pos c]
        simp only [cutplanelaw03_WordSigns.j0, cutplanelaw03_WordSigns.j1, ref_Canon 4 f hu, Option.bind_some, is_same, e1, e2, e3, e4, decide_true, if_true, Bool.not_true, ref_Good, hg, ref_Class 3 f hu, c, known03 2]
        rfl
      · have e2 : negw f w = flipw f w := by unfold negw; rw [if_neg c]
        have e3 : absw f w = w % sgn f := by unfold absw; rw [if_neg c]
        have e4 : cpw f w s = if (decide (s ≥ sgn f)) = true then w % sgn f + sgn f else w % sgn f := by unfold cpw; rw [if_neg c]; simp
        rw [if_neg c]
        simp only [cutplanelaw03_WordSigns.j0, cutplanelaw03_WordSigns.j1, ref_Canon 4 f hu, Option.bind_some, is_same, e2, e3, e4, flip_sign f hu h, decide_true, if_true, Bool.not_true, ref_Good, hg, ref_Class 3 f hu, if_neg c, ref_Split f hv, ref_Signed f hu, known03 2, Bool.false_eq_true, if_false]
    · rw [copysign_bad 3 hu hv (fun a => hg a.2), if_pos he]
      simp only [Option.bind_some]
      have hg6 : err f s = 6 := by
        unfold err at hg he ⊢
        rcases h with ⟨rfl, _, _⟩ | ⟨rfl, _, _⟩
        · simp at hg ⊢; exact hg
        · exact absurd rfl hg
      by_cases c : cl f w = 5
      · have e1 : canw f w = nanw f := by unfold canw; rw [if_pos c]
        have e2 : negw f w = nanw f := by unfold negw; rw [if_pos c]
        have e3 : absw f w = nanw f := by unfold absw; rw [if_pos c]
        rw [if_pos c]
        simp only [cutplanelaw03_WordSigns.j0, cutplanelaw03_WordSigns.j1, ref_Canon 4 f hu, Option.bind_some, is_same, e1, e2, e3, decide_true, if_true, Bool.not_true, ref_Good, hg6, known03 2]
        simp [is_refused 6 (by decide)]
      · have e2 : negw f w = flipw f w := by unfold negw; rw [if_neg c]
        have e3 : absw f w = w % sgn f := by unfold absw; rw [if_neg c]
        rw [if_neg c]
        simp only [cutplanelaw03_WordSigns.j0, cutplanelaw03_WordSigns.j1, ref_Canon 4 f hu, Option.bind_some, is_same, e2, e3, flip_sign f hu h, decide_true, if_true, Bool.not_true, ref_Good, hg6, known03 2, Bool.false_eq_true, if_false]
        simp [is_refused 6 (by decide)]
  · rw [canon_bad 4 hu he, neg_bad 4 hu he, abs_bad 4 hu he, copysign_bad 3 hu hv (fun a => he a.1), if_neg he, known03 4]
    simp only [Option.bind_some, if_neg he, is_refused _ he, if_true]
end Go.Proofs.Ythiklmgdmaemgaa.Pure
