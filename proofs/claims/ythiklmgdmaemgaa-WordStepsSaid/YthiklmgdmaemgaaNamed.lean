/- What the program's named words come to, in plain arithmetic. -/
import Derived.Test.YthiklmgdmaemgaaWord
import Derived.Test.YthiklmgdmaemgaaPAx3
import Derived.Test.YthiklmgdmaemgaaPAx4
namespace Go.Proofs.Ythiklmgdmaemgaa.PA
open Go.RowKit Go.Proofs.YthiklmgdmaemgaaW.PrintWords Go.Proofs.YthiklmgdmaemgaaW.PrintLast Go.Proofs.YthiklmgdmaemgaaW.PrintMore Go.Proofs.Ythiklmgdmaemgaa.Wd
set_option linter.unusedSimpArgs false
set_option linter.unusedVariables false
theorem named_good (k : Nat) {f : Int} (hf : f = 1 ∨ f = 2) (b : Bool) {g : Int → Int → Int → Option Int} {z : Int} (hg : g (shp f).1 (shp f).2.1 (shp f).2.2 = some z) (h0 : 0 ≤ z) (h1 : z < sgn f) :
    word_named.f (k + 1) f b g = some (if b then z + sgn f else z, 0) := by
  unfold word_named.f
  rw [open_nil' k f]
  simp only [Option.bind_some, if_pos hf, if_true, hg]
  have e : Go.bits .or .u64 z (shp f).2.2 = z + sgn f := by
    rcases hf with rfl | rfl
    · exact or31 h0 h1
    · exact or63 h0 h1
  rw [e]
  cases b <;> rfl
theorem named_nof (k : Nat) {f : Int} (hf : ¬ (f = 1 ∨ f = 2)) (b : Bool) {g : Int → Int → Int → Option Int} : word_named.f (k + 1) f b g = some (0, 4) := by
  unfold word_named.f
  rw [open_nil' k f]
  simp only [Option.bind_some, if_neg hf]
  rw [if_neg (by decide)]
theorem infw_lt (f : Int) : 0 ≤ infw f ∧ infw f < sgn f ∧ infw f < nanw f ∧ nanw f < sgn f ∧ one f < infw f ∧ 0 < one f := by unfold infw sgn nanw one; split <;> decide
theorem shape_inf {f : Int} (hf : f = 1 ∨ f = 2) : word_shape_inf.f (shp f).1 (shp f).2.1 (shp f).2.2 = some (infw f) := by
  rcases hf with rfl | rfl
  · exact shape_inf1
  · exact shape_inf2
theorem zero_good (k : Nat) {f : Int} (hf : f = 1 ∨ f = 2) (b : Bool) : word_Zero.f (k + 1) f b = some (if b then 0 + sgn f else 0, 0) := by
  unfold word_Zero.f
  rw [named_good k hf b (z := 0) rfl (by decide) (by rcases sgn_cases f with h | h <;> rw [h] <;> decide)]
  rfl
theorem inf_good (k : Nat) {f : Int} (hf : f = 1 ∨ f = 2) (b : Bool) : word_Inf.f (k + 1) f b = some (if b then infw f + sgn f else infw f, 0) := by
  unfold word_Inf.f
  rw [named_good k hf b (z := infw f) (shape_inf hf) (infw_lt f).1 (infw_lt f).2.1]
  rfl
theorem greatest_good (k : Nat) {f : Int} (hf : f = 1 ∨ f = 2) (b : Bool) : word_Greatest.f (k + 1) f b = some (if b then infw f - 1 + sgn f else infw f - 1, 0) := by
  unfold word_Greatest.f
  have h := infw_lt f
  rw [named_good k hf b (z := infw f - 1) ?_ (by omega) (by omega)]
  · rfl
  · unfold word_Greatest_1.f
    rw [shape_inf hf]
    simp only [Option.bind_some, wrapu64]
    have := sgn_cases f
    rw [Int.emod_eq_of_lt (by omega) (by omega)]
theorem least_good (k : Nat) {f : Int} (hf : f = 1 ∨ f = 2) (b : Bool) : word_Least.f (k + 1) f b = some (if b then 1 + sgn f else 1, 0) := by
  unfold word_Least.f
  rw [named_good k hf b (z := 1) rfl (by decide) (by rcases sgn_cases f with h | h <;> rw [h] <;> decide)]
  rfl
theorem none_good (k : Nat) {f : Int} (hf : f = 1 ∨ f = 2) : word_None.f (k + 1) f = some (nanw f, 0) := by
  unfold word_None.f
  rw [named_good k hf false (z := nanw f) (by rcases hf with rfl | rfl; exact shape_none1; exact shape_none2) (by have := infw_lt f; omega) (infw_lt f).2.2.2.1]
  rfl
theorem zero_nof (k : Nat) {f : Int} (hf : ¬ (f = 1 ∨ f = 2)) (b : Bool) : word_Zero.f (k + 1) f b = some (0, 4) := by unfold word_Zero.f; rw [named_nof k hf]; rfl
theorem inf_nof (k : Nat) {f : Int} (hf : ¬ (f = 1 ∨ f = 2)) (b : Bool) : word_Inf.f (k + 1) f b = some (0, 4) := by unfold word_Inf.f; rw [named_nof k hf]; rfl
theorem greatest_nof (k : Nat) {f : Int} (hf : ¬ (f = 1 ∨ f = 2)) (b : Bool) : word_Greatest.f (k + 1) f b = some (0, 4) := by unfold word_Greatest.f; rw [named_nof k hf]; rfl
theorem least_nof (k : Nat) {f : Int} (hf : ¬ (f = 1 ∨ f = 2)) (b : Bool) : word_Least.f (k + 1) f b = some (0, 4) := by unfold word_Least.f; rw [named_nof k hf]; rfl
theorem none_nof (k : Nat) {f : Int} (hf : ¬ (f = 1 ∨ f = 2)) : word_None.f (k + 1) f = some (0, 4) := by unfold word_None.f; rw [named_nof k hf]; rfl
end Go.Proofs.Ythiklmgdmaemgaa.PA
