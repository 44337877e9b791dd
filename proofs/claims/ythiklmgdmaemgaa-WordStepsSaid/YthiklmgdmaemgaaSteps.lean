/- One step up and one step down from a word, of the program and of the document, in plain arithmetic. -/
import Derived.Test.YthiklmgdmaemgaaNamed
import Derived.Test.YthiklmgdmaemgaaPAx16
import Derived.Test.YthiklmgdmaemgaaPAx17
namespace Go.Proofs.Ythiklmgdmaemgaa.PA
open Go.RowKit Go.Proofs.YthiklmgdmaemgaaW.PrintWords Go.Proofs.YthiklmgdmaemgaaW.PrintLast Go.Proofs.YthiklmgdmaemgaaW.PrintMore Go.Proofs.Ythiklmgdmaemgaa.Wd
set_option linter.unusedSimpArgs false
set_option linter.unusedVariables false
theorem size_pos (f w : Int) : 0 ≤ w % sgn f ∧ w % sgn f < sgn f := by
  rcases sgn_cases f with h | h <;> rw [h] <;> omega
theorem cl5 (f w : Int) : cl f w = 5 ↔ infw f < w % sgn f := by
  have h := size_pos f w
  have hi := infw_lt f
  unfold cl cls
  repeat' split
  all_goals constructor <;> intro <;> first | omega | (exfalso; omega)
theorem cl4 (f w : Int) : cl f w = 4 ↔ w % sgn f = infw f := by
  have h := size_pos f w
  have hi := infw_lt f
  unfold cl cls
  repeat' split
  all_goals constructor <;> intro <;> first | omega | (exfalso; omega)
theorem cl1 (f w : Int) : cl f w = 1 ↔ w % sgn f = 0 := by
  have h := size_pos f w
  have hi := infw_lt f
  unfold cl cls
  repeat' split
  all_goals constructor <;> intro <;> first | omega | (exfalso; omega)
def upw (f w : Int) : Option Int := if cl f w = 5 then some (nanw f) else if w = infw f then none else if w % sgn f = 0 then some 1 else if w ≥ sgn f then some (w - 1) else some (w + 1)
/-- a word lies below twice the sign -/
theorem gd_lt {f w : Int} (h : Gd f w) : 0 ≤ w ∧ w < 2 * sgn f ∧ (f = 1 ∨ f = 2) := by
  unfold sgn
  rcases h with ⟨rfl, h0, h1⟩ | ⟨rfl, h0, h1⟩
  · exact ⟨h0, by simp only [if_true]; omega, .inl rfl⟩
  · exact ⟨h0, by simp only [show (¬ ((2 : Int) = 1)) by decide, if_false]; omega, .inr rfl⟩
theorem gd_mk {f w : Int} (hf : f = 1 ∨ f = 2) (h0 : 0 ≤ w) (h1 : w < 2 * sgn f) : Gd f w := by
  unfold sgn at h1
  rcases hf with rfl | rfl
  · exact .inl ⟨rfl, h0, by simpa using h1⟩
  · exact .inr ⟨rfl, h0, by simpa using h1⟩
theorem size_lo {f w : Int} (h : Gd f w) : (w < sgn f ∧ w % sgn f = w) ∨ (sgn f ≤ w ∧ w % sgn f = w - sgn f) := by
  have := gd_lt h
  rcases sgn_cases f with e | e <;> rw [e] at this ⊢ <;> omega
theorem and_sgn {f w : Int} (h : Gd f w) : (Go.bits .and .u64 w (shp f).2.2 = 0) ↔ w < sgn f := by
  rw [shp3 h]
  rcases h with ⟨rfl, h0, h1⟩ | ⟨rfl, h0, h1⟩
  · have e : sgn 1 = 2147483648 := rfl
    rw [e, and31 h0 h1]
    split <;> omega
  · have e : sgn 2 = 9223372036854775808 := rfl
    rw [e, and63 h0 h1]
    split <;> omega
theorem andNot_sgn {f w : Int} (h : Gd f w) : Go.bits .andNot .u64 w (shp f).2.2 = w % sgn f := by
  rw [shp3 h]
  rcases h with ⟨rfl, h0, h1⟩ | ⟨rfl, h0, h1⟩
  · exact andNot31 h0 h1
  · exact andNot63 h0 h1
theorem up_good (k : Nat) {f w : Int} (h : Gd f w) : word_Up.f (k + 2) f w = some (match upw f w with | some u => (u, 0) | none => (0, 7)) := by
  have hg := gd_lt h
  have hs := sgn_cases f
  have hz := size_lo h
  unfold word_Up.f upw
  rw [open_one k f w h.u, h.err]
  simp only [Option.bind_some, if_true, shape_class h, shape_none h, shape_inf hg.2.2, andNot_sgn h, wrapu64]
  by_cases c : cl f w = 5
  · rw [if_pos c, if_pos c]
  · rw [if_neg c, if_neg c]
    by_cases d : w = infw f
    · rw [if_pos d, if_pos d]
    · rw [if_neg d, if_neg d]
      by_cases e : w % sgn f = 0
      · rw [if_pos e, if_pos e]
      · rw [if_neg e, if_neg e]
        by_cases g : w ≥ sgn f
        · rw [if_neg (fun z => by have := (and_sgn h).1 z; omega), if_pos g]
          simp only
          rw [Int.emod_eq_of_lt (by omega) (by omega)]
        · rw [if_pos ((and_sgn h).2 (by omega)), if_neg g]
          simp only
          rw [Int.emod_eq_of_lt (by omega) (by omega)]
theorem up_bad (k : Nat) {f w : Int} (hu : U w) (h : err f w ≠ 0) : word_Up.f (k + 2) f w = some (0, err f w) := by
  unfold word_Up.f
  rw [open_one k f w hu]
  simp only [Option.bind_some]
  rw [if_neg h]
theorem ref_Up (k : Nat) {f w : Int} (h : Gd f w) : cutplaneref03_Up.f (k + 1) f w = some (match upw f w with | some u => (u, true) | none => (0, false)) := by
  have hg := gd_lt h
  have hs := sgn_cases f
  have hz := size_lo h
  have hi := infw_lt f
  unfold cutplaneref03_Up.f upw
  rw [ref_Class k f h.u, ref_Split f h.u, ref_None]
  simp only [Option.bind_some, cutplaneref03_Up.j0, wrapu64]
  by_cases c : cl f w = 5
  · rw [if_pos c, if_pos c]
  · rw [if_neg c, if_neg c]
    have c5 : w % sgn f ≤ infw f := by have := mt (cl5 f w).2 c; omega
    have ff : ¬ (false = true) := by decide
    have e1 : cl f w = 1 ↔ w % sgn f = 0 := cl1 f w
    by_cases d : w = infw f
    · have d4 : cl f w = 4 := (cl4 f w).2 (by omega)
      rw [if_pos d, if_pos d4, if_neg (by simp; omega)]
      rfl
    · have key : ∀ t t' : Option (Int × Bool), t = t' → (if cl f w = 4 then (if decide (w ≥ sgn f) = true then (if false = true then some (0, false) else t) else if True then some (0, false) else t) else if false = true then some (0, false) else t) = t' := by
        intro t t' ht
        subst ht
        by_cases z : cl f w = 4
        · have := (cl4 f w).1 z
          rw [if_pos z, if_pos (by simp; omega), if_neg ff]
        · rw [if_neg z, if_neg ff]
      refine key _ _ ?_
      rw [if_neg d]
      by_cases e : w % sgn f = 0
      · rw [if_pos (e1.2 e), if_pos e]
      · rw [if_neg (fun z => e (e1.1 z)), if_neg e]
        by_cases g : w ≥ sgn f
        · rw [if_pos (by simp [g]), if_pos g, Int.emod_eq_of_lt (by omega) (by omega)]
        · rw [if_neg (by simp [g]), if_neg g, Int.emod_eq_of_lt (by omega) (by omega)]
theorem up_gd {f w u : Int} (h : Gd f w) (hu : upw f w = some u) : Gd f u ∧ (cl f u = 5 → u = nanw f) := by
  have hg := gd_lt h
  have hs := sgn_cases f
  have hz := size_lo h
  have hi := infw_lt f
  unfold upw at hu
  by_cases c : cl f w = 5
  · rw [if_pos c] at hu; obtain rfl := Option.some.inj hu; exact ⟨nan_gd h, fun _ => rfl⟩
  · rw [if_neg c] at hu
    have c5 : w % sgn f ≤ infw f := by have := mt (cl5 f w).2 c; omega
    have hu2 : Gd f u := by
      split at hu
      · cases hu
      · split at hu
        · obtain rfl := Option.some.inj hu; exact gd_mk hg.2.2 (by omega) (by omega)
        · split at hu
          · obtain rfl := Option.some.inj hu; exact gd_mk hg.2.2 (by omega) (by omega)
          · obtain rfl := Option.some.inj hu; exact gd_mk hg.2.2 (by omega) (by omega)
    refine ⟨hu2, fun z => ?_⟩
    have z5 := (cl5 f u).1 z
    have hz2 := size_lo hu2
    generalize u % sgn f = m at z5 hz2
    exfalso
    split at hu
    · cases hu
    · split at hu
      · obtain rfl := Option.some.inj hu; omega
      · split at hu
        · obtain rfl := Option.some.inj hu; omega
        · obtain rfl := Option.some.inj hu; omega
def downw (f w : Int) : Option Int := match upw f (negw f w) with | some u => some (negw f u) | none => none
theorem down_good (k : Nat) {f w : Int} (h : Gd f w) : word_Down.f (k + 2) f w = some (match downw f w with | some u => (u, 0) | none => (0, 7)) := by
  unfold word_Down.f downw
  rw [neg_good k h]
  simp only [Option.bind_some, if_true, up_good k (neg_gd h)]
  rcases hq : upw f (negw f w) with _ | u
  · simp
  · have g := up_gd (neg_gd h) hq
    simp [neg_good k g.1]
theorem down_bad (k : Nat) {f w : Int} (hu : U w) (h : err f w ≠ 0) : word_Down.f (k + 2) f w = some (0, err f w) := by
  unfold word_Down.f
  rw [neg_bad k hu h]
  simp only [Option.bind_some]
  rw [if_neg h]
theorem can_flipw {f w : Int} (h : Gd f w) : canw f (flipw f w) = negw f w := by
  unfold canw negw
  rw [cl_flipw h]
theorem ref_Down (k : Nat) {f w : Int} (h : Gd f w) : cutplaneref03_Down.f (k + 1) f w = some (match downw f w with | some u => (u, true) | none => (0, false)) := by
  have fs : ∀ {v : Int}, Gd f v → (if (!decide (v ≥ sgn f)) = true then v % sgn f + sgn f else v % sgn f) = flipw f v := by
    intro v hv
    have hz := size_lo hv
    unfold flipw
    by_cases c : v ≥ sgn f
    · simp [c]; omega
    · simp [c]; omega
  unfold cutplaneref03_Down.f downw
  rw [ref_Split f h.u]
  simp only [Option.bind_some, ref_Signed f h.u, fs h, ref_Canon k f (flipw_gd h).u, can_flipw h, ref_Up k (neg_gd h)]
  rcases hq : upw f (negw f w) with _ | u
  · simp
  · have g := up_gd (neg_gd h) hq
    simp only [if_true, ref_Class k f g.1.u, Option.bind_some]
    by_cases c : cl f u = 5
    · rw [if_pos c]; unfold negw; rw [if_pos c, g.2 c]
    · rw [if_neg c, ref_Split f g.1.u]
      simp only [Option.bind_some, ref_Signed f g.1.u, fs g.1]
      unfold negw; rw [if_neg c]
end Go.Proofs.Ythiklmgdmaemgaa.PA
