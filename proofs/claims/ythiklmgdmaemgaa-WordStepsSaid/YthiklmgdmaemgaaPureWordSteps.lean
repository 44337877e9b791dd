/- The law WordSteps, plain: for every format's number and any word one step up and one step down are the document's. No condition. -/
import Derived.Test.YthiklmgdmaemgaaSteps
import Derived.Test.YthiklmgdmaemgaaPAx18
namespace Go.Proofs.Ythiklmgdmaemgaa.Pure
open Go.RowKit Go.Proofs.Ythiklmgdmaemgaa.PA Go.Proofs.YthiklmgdmaemgaaW.PrintWords Go.Proofs.YthiklmgdmaemgaaW.PrintLast Go.Proofs.Ythiklmgdmaemgaa.Wd
set_option linter.unusedSimpArgs false
set_option linter.unusedVariables false
theorem is_same (a b : Int) : cutplanelaw03_is.f a 0 b 0 = some (decide (a = b)) := by
  unfold cutplanelaw03_is.f
  by_cases h : a = b <;> simp [h]
theorem is_refused (e : Int) (h : e ≠ 0) (b : Int) : cutplanelaw03_is.f 0 e b e = some true := by
  unfold cutplanelaw03_is.f
  simp [h]
theorem WordSteps : cutplanelaw03_WordSteps.Pure := by
  intro f w _ hw
  have hu := u_of hw
  refine ⟨6, ?_⟩
  unfold cutplanelaw03_WordSteps.f
  rw [ref_Good f w]
  by_cases he : err f w = 0
  · have h := gd_of he hu
    rw [up_good 4 h, down_good 4 h, ref_Up 5 h, ref_Down 5 h]
    rcases hq : upw f w with _ | u <;> rcases hr : downw f w with _ | d
    all_goals simp [he, cutplanelaw03_WordSteps.j0, is_same, is_refused 7 (by decide), known03 3]
  · rw [up_bad 4 hu he, down_bad 4 hu he, known03 4]
    simp only [Option.bind_some, if_neg he, is_refused _ he, if_true]
end Go.Proofs.Ythiklmgdmaemgaa.Pure
