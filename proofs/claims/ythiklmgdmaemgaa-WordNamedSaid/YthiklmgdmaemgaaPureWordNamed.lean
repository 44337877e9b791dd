/- The law WordNamed, plain: for every format's number and either sign the five named words of the program are the document's. No condition. -/
import Derived.Test.YthiklmgdmaemgaaNamed
import Derived.Test.YthiklmgdmaemgaaPAx8
namespace Go.Proofs.Ythiklmgdmaemgaa.Pure
open Go.RowKit Go.Proofs.Ythiklmgdmaemgaa.PA Go.Proofs.YthiklmgdmaemgaaW.PrintWords Go.Proofs.YthiklmgdmaemgaaW.PrintLast Go.Proofs.Ythiklmgdmaemgaa.Wd
set_option linter.unusedSimpArgs false
theorem is_same (a b : Int) : cutplanelaw03_is.f a 0 b 0 = some (decide (a = b)) := by
  unfold cutplanelaw03_is.f
  by_cases h : a = b <;> simp [h]
theorem is_refused (e : Int) (h : e ≠ 0) : cutplanelaw03_is.f 0 e 0 e = some true := by
  unfold cutplanelaw03_is.f
  simp [h]
theorem WordNamed : cutplanelaw03_WordNamed.Pure := by
  intro f b _
  refine ⟨3, ?_⟩
  unfold cutplanelaw03_WordNamed.f
  rw [ref_Is f]
  by_cases hf : f = 1 ∨ f = 2
  · have u0 : U 0 := ⟨by decide, by decide⟩
    have u1 : U 1 := ⟨by decide, by decide⟩
    have hs := sgn_cases f
    have hi := infw_lt f
    have z0 : (0 : Int) % sgn f = 0 := by simp
    have z1 : (1 : Int) % sgn f = 1 := by rcases hs with h | h <;> rw [h] <;> rfl
    rw [zero_good 2 hf, inf_good 2 hf, greatest_good 2 hf, least_good 2 hf, none_good 2 hf, ref_Inf f, ref_Signed f u0, ref_Signed f u1, ref_None f, known03 1, z0, z1]
    simp only [Option.bind_some, hf, decide_true, if_true, is_same, wrapu64]
    have e1 : (infw f - 1) % 18446744073709551616 = infw f - 1 := by omega
    have e2 : (infw f + sgn f - 1) % 18446744073709551616 = infw f + sgn f - 1 := by omega
    cases b
    · simp [e1]
    · simp [e2]; omega
  · rw [zero_nof 2 hf, inf_nof 2 hf, greatest_nof 2 hf, least_nof 2 hf, none_nof 2 hf, known03 1]
    simp only [Option.bind_some, hf, decide_false, is_refused 4 (by decide), if_true]
    rfl
end Go.Proofs.Ythiklmgdmaemgaa.Pure
