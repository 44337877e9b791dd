/- The law WordTwice, plain: the other sign of the other sign is the word, the size has no sign, each call leaves a NaN the canonical one, for every format's number and any two words. No condition. -/
import Derived.Test.YthiklmgdmaemgaaWord
import Derived.Test.YthiklmgdmaemgaaPAx15
namespace Go.Proofs.Ythiklmgdmaemgaa.Pure
open Go.RowKit Go.Proofs.Ythiklmgdmaemgaa.PA Go.Proofs.YthiklmgdmaemgaaW.PrintWords Go.Proofs.YthiklmgdmaemgaaW.PrintLast Go.Proofs.Ythiklmgdmaemgaa.Wd
set_option linter.unusedSimpArgs false
set_option linter.unusedVariables false
theorem WordTwice : cutplanelaw03_WordTwice.Pure := by
  intro f w s _ hw hs
  have hu := u_of hw
  have hv := u_of hs
  refine ⟨6, ?_⟩
  unfold cutplanelaw03_WordTwice.f
  rw [good_word 4 hu]
  simp only [Option.bind_some]
  by_cases he : err f w = 0
  · have h := gd_of he hu
    rw [if_pos he, good_word 4 hv]
    simp only [Option.bind_some]
    by_cases hg : err f s = 0
    · have g := gd_of hg hv
      have hn := neg_gd h
      have hc := cp_gd (s := s) h
      simp only [cutplanelaw03_WordTwice.j0, hg, bne_self_eq_false, Bool.false_eq_true, if_false, neg_good 3 h, neg_good 3 hn, canon_good 3 h, abs_good 3 hn, abs_good 3 h, copysign_good 2 h g, copysign_good 2 hc h, Option.bind_some, if_true, known03 3]
      have twice := neg_neg' h
      rw [if_pos (neg_neg' h), if_pos (abs_neg h), if_pos (cp_cp h)]
    · have hb : (err f s != 0) = true := bne_iff_ne.2 hg
      simp only [cutplanelaw03_WordTwice.j0, hb, if_true, known03 3, Option.bind_some]
  · rw [if_neg he]
    simp only [cutplanelaw03_WordTwice.j0, if_true, known03 3, Option.bind_some]
end Go.Proofs.Ythiklmgdmaemgaa.Pure
