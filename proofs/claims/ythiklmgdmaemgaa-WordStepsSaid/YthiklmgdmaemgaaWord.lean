/- What the program's functions on one word of a format come to, in plain arithmetic. No condition beyond those that each fact names. -/
import Derived.Test.YthiklmgdmaemgaaBits
import Derived.OpenShut
import Derived.Test.YthiklmgdmaemgaaPAx10
import Derived.Test.YthiklmgdmaemgaaPAx12
import Derived.Test.YthiklmgdmaemgaaPAx13
import Derived.Test.YthiklmgdmaemgaaPAx2
import Derived.Test.YthiklmgdmaemgaaPAx4
import Derived.Test.YthiklmgdmaemgaaPAx5
import Derived.Test.YthiklmgdmaemgaaPAx6
import Derived.Test.YthiklmgdmaemgaaPAx7
import Derived.Test.YthiklmgdmaemgaaPAx9
namespace Go.Proofs.Ythiklmgdmaemgaa.PA
open Go.RowKit Go.Proofs.YthiklmgdmaemgaaW.PrintWords Go.Proofs.YthiklmgdmaemgaaW.PrintLast Go.Proofs.YthiklmgdmaemgaaW.PrintMore Go.Proofs.Ythiklmgdmaemgaa.Wd
set_option linter.unusedSimpArgs false
set_option linter.unusedVariables false

/-- the class of a size: P one above the fractions, I the infinite size -/
def cls (P I s : Int) : Int := if s = 0 then 1 else if s < P then 2 else if s < I then 3 else if s = I then 4 else 5
def sgn (f : Int) : Int := if f = 1 then 2147483648 else 9223372036854775808
def one (f : Int) : Int := if f = 1 then 8388608 else 4503599627370496
def infw (f : Int) : Int := if f = 1 then 2139095040 else 9218868437227405312
def nanw (f : Int) : Int := if f = 1 then 2143289344 else 9221120237041090560
def cl (f w : Int) : Int := cls (one f) (infw f) (w % sgn f)
/-- the error of a word, as Good tells it -/
def err (f w : Int) : Int := if f = 1 then (if w ≥ 4294967296 then 6 else 0) else if f = 2 then 0 else 4
/-- a good word -/
def Gd (f w : Int) : Prop := (f = 1 ∧ 0 ≤ w ∧ w < 4294967296) ∨ (f = 2 ∧ 0 ≤ w ∧ w < 18446744073709551616)
def U (w : Int) : Prop := 0 ≤ w ∧ w < 18446744073709551616
theorem Gd.u {f w : Int} (h : Gd f w) : U w := by rcases h with ⟨_, a, b⟩ | ⟨_, a, b⟩ <;> exact ⟨a, by omega⟩
theorem Gd.err {f w : Int} (h : Gd f w) : err f w = 0 := by
  rcases h with ⟨rfl, a, b⟩ | ⟨rfl, a, b⟩
  · simp [PA.err]; omega
  · simp [PA.err]
theorem gd_of {f w : Int} (h : err f w = 0) (hu : U w) : Gd f w := by
  unfold err at h
  unfold U at hu
  unfold Gd
  split at h
  · split at h
    · omega
    · omega
  · split at h <;> omega
theorem u_of {w : Int} (h : (Lit.int .u64 w).wf = true) : U w := by have := bounds_u64 h; exact ⟨by omega, by omega⟩

theorem rd_zero (w : Int) : rd [w] 0 = w := by rfl
theorem rd_zero2 (w v : Int) : rd [w, v] 0 = w := by rfl
theorem rd_one2 (w v : Int) : rd [w, v] 1 = v := by rfl

theorem top31 : Go.bits .or .u64 2147483648 (IntKind.u64.wrap (2147483648 - 1)) = 4294967295 := by decide +kernel
theorem top63 : Go.bits .or .u64 9223372036854775808 (IntKind.u64.wrap (9223372036854775808 - 1)) = 18446744073709551615 := by decide +kernel

/-- the shape of a format -/
def shp (f : Int) : Int × Int × Int := if f = 1 then (23, 255, 2147483648) else if f = 2 then (52, 2047, 9223372036854775808) else (0, 0, 0)
theorem open_nil (k : Nat) (f : Int) : word_open.f (k + 1) f [] = some ((shp f).1, (shp f).2.1, (shp f).2.2, if f = 1 ∨ f = 2 then 0 else 4) := by
  unfold word_open.f word_shapeOf.f shp
  by_cases h1 : f = 1
  · subst h1; simp [word_open.l0]
  · by_cases h2 : f = 2
    · subst h2; simp [word_open.l0]
    · simp [h1, h2]
theorem open_one (k : Nat) (f w : Int) (hu : U w) : word_open.f (k + 2) f [w] = some ((shp f).1, (shp f).2.1, (shp f).2.2, err f w) := by
  obtain ⟨h0, h3⟩ := hu
  unfold word_open.f word_shapeOf.f shp err
  by_cases h1 : f = 1
  · subst h1
    have l1 : (([w] : List Int).length : Int) = 1 := rfl
    have w1 : wrap64 (0 + 1) = 1 := by decide +kernel
    simp only [if_true, Option.bind_some, word_open.l0, l1, rd_zero, top31, Int.zero_lt_one, Int.le_refl, w1]
    by_cases c : w ≥ 4294967296
    · rw [if_pos (by omega)]; simp [c]
    · rw [if_neg (by omega)]; simp [c]
  · by_cases h2 : f = 2
    · subst h2
      have l1 : (([w] : List Int).length : Int) = 1 := rfl
      have w1 : wrap64 (0 + 1) = 1 := by decide +kernel
      simp only [show (¬ ((2 : Int) = 1)) by decide, if_false, if_true, Option.bind_some, word_open.l0, l1, rd_zero, top63, Int.zero_lt_one, Int.le_refl, w1]
      rw [if_neg (by omega)]
      simp
    · simp [h1, h2]
theorem open_two (k : Nat) (f w v : Int) (hu : U w) (hv : U v) : word_open.f (k + 3) f [w, v] = some ((shp f).1, (shp f).2.1, (shp f).2.2, if err f w = 0 then err f v else err f w) := by
  obtain ⟨h0, h3⟩ := hu
  obtain ⟨g0, g3⟩ := hv
  unfold word_open.f word_shapeOf.f shp err
  by_cases h1 : f = 1
  · subst h1
    have l2 : (([w, v] : List Int).length : Int) = 2 := rfl
    have w1 : wrap64 (0 + 1) = 1 := by decide +kernel
    have w2 : wrap64 (1 + 1) = 2 := by decide +kernel
    simp only [if_true, Option.bind_some, word_open.l0, l2, rd_zero2, rd_one2, top31, Int.le_refl, w1, w2]
    by_cases c : w ≥ 4294967296
    · rw [if_pos (by omega), if_pos (by omega), if_pos (by omega)]; simp [c]
    · rw [if_pos (by omega), if_pos (by omega), if_neg (by omega), if_pos (by omega), if_pos (by omega), if_pos (by omega)]
      by_cases d : v ≥ 4294967296
      · rw [if_pos (by omega)]; simp [c, d]
      · rw [if_neg (by omega), if_neg (by omega)]; simp [c, d]
  · by_cases h2 : f = 2
    · subst h2
      have l2 : (([w, v] : List Int).length : Int) = 2 := rfl
      have w1 : wrap64 (0 + 1) = 1 := by decide +kernel
      have w2 : wrap64 (1 + 1) = 2 := by decide +kernel
      simp only [show (¬ ((2 : Int) = 1)) by decide, if_false, if_true, Option.bind_some, word_open.l0, l2, rd_zero2, rd_one2, top63, Int.le_refl, w1, w2]
      rw [if_pos (by omega), if_pos (by omega), if_neg (by omega), if_pos (by omega), if_pos (by omega), if_pos (by omega), if_neg (by omega), if_neg (by omega)]
    · simp [h1, h2]

theorem shape_inf1 : word_shape_inf.f 23 255 2147483648 = some 2139095040 := by decide +kernel
theorem shape_inf2 : word_shape_inf.f 52 2047 9223372036854775808 = some 9218868437227405312 := by decide +kernel
theorem shape_none1 : word_shape_none.f 23 255 2147483648 = some 2143289344 := by decide +kernel
theorem shape_none2 : word_shape_none.f 52 2047 9223372036854775808 = some 9221120237041090560 := by decide +kernel
theorem shl23 : shl .u64 1 23 = 8388608 := by decide +kernel
theorem shl52 : shl .u64 1 52 = 4503599627370496 := by decide +kernel

theorem shape_class {f w : Int} (h : Gd f w) : word_shape_class.f (shp f).1 (shp f).2.1 (shp f).2.2 w = some (cl f w) := by
  rcases h with ⟨rfl, h0, h1⟩ | ⟨rfl, h0, h1⟩
  · have e1 : shp 1 = (23, 255, 2147483648) := rfl
    rw [e1]
    simp only [word_shape_class.f, andNot31 h0 h1, shape_inf1, Option.bind_some, shl23, cl, cls, one, infw, sgn, if_true]
    repeat' split
    all_goals first | rfl | (exfalso; omega)
  · have e1 : shp 2 = (52, 2047, 9223372036854775808) := rfl
    rw [e1]
    simp only [word_shape_class.f, andNot63 h0 h1, shape_inf2, Option.bind_some, shl52, cl, cls, one, infw, sgn]
    simp only [show (¬ ((2 : Int) = 1)) by decide, if_false]
    repeat' split
    all_goals first | rfl | (exfalso; omega)

theorem split_good (k : Nat) {f w : Int} (h : Gd f w) : word_Split.f (k + 2) f w = some (decide (w ≥ sgn f), w % sgn f / one f, w % one f, 0) := by
  unfold word_Split.f
  rw [open_one k f w h.u, h.err]
  rcases h with ⟨rfl, h0, h1⟩ | ⟨rfl, h0, h1⟩
  · have e1 : shp 1 = (23, 255, 2147483648) := rfl
    have e2 : IntKind.u64.wrap (8388608 - 1) = 8388607 := by decide +kernel
    have e3 : shr .u64 (w % 2147483648) 23 = w % 2147483648 / 8388608 := rfl
    rw [e1]
    simp only [Option.bind_some, if_true, word_shape_split.f, andNot31 h0 h1, and31 h0 h1, shl23, e2, e3, sgn, one]
    rw [and23 (by omega) (by omega)]
    have e4 : wrap64 (w % 2147483648 / 8388608) = w % 2147483648 / 8388608 := by unfold wrap64; omega
    have e5 : w % 2147483648 % 8388608 = w % 8388608 := by omega
    rw [e4, e5]
    by_cases c : w ≥ 2147483648 <;> simp [c]
  · have e1 : shp 2 = (52, 2047, 9223372036854775808) := rfl
    have e2 : IntKind.u64.wrap (4503599627370496 - 1) = 4503599627370495 := by decide +kernel
    have e3 : shr .u64 (w % 9223372036854775808) 52 = w % 9223372036854775808 / 4503599627370496 := rfl
    rw [e1]
    simp only [Option.bind_some, if_true, word_shape_split.f, andNot63 h0 h1, and63 h0 h1, shl52, e2, e3, sgn, one]
    rw [and52 (by omega) (by omega)]
    have e4 : wrap64 (w % 9223372036854775808 / 4503599627370496) = w % 9223372036854775808 / 4503599627370496 := by unfold wrap64; omega
    have e5 : w % 9223372036854775808 % 4503599627370496 = w % 4503599627370496 := by omega
    rw [e4, e5]
    by_cases c : w ≥ 9223372036854775808 <;> simp [c]
theorem split_bad (k : Nat) {f w : Int} (hu : U w) (h : err f w ≠ 0) : word_Split.f (k + 2) f w = some (false, 0, 0, err f w) := by
  unfold word_Split.f
  rw [open_one k f w hu]
  simp only [Option.bind_some]
  rw [if_neg h]
theorem class_good (k : Nat) {f w : Int} (h : Gd f w) : word_Class.f (k + 2) f w = some (cl f w, 0) := by
  unfold word_Class.f
  rw [open_one k f w h.u, h.err]
  simp only [Option.bind_some, if_true, shape_class h]
theorem class_bad (k : Nat) {f w : Int} (hu : U w) (h : err f w ≠ 0) : word_Class.f (k + 2) f w = some (0, err f w) := by
  unfold word_Class.f
  rw [open_one k f w hu]
  simp only [Option.bind_some]
  rw [if_neg h]

theorem good_word (k : Nat) {f w : Int} (hu : U w) : word_Good.f (k + 2) f w = some (err f w) := by
  unfold word_Good.f
  rw [open_one k f w hu]
  simp only [Option.bind_some]

/-! the document's side -/
theorem ref_Is (f : Int) : cutplaneref03_Is.f f = some (decide (f = 1 ∨ f = 2)) := by
  unfold cutplaneref03_Is.f
  by_cases h1 : f = 1
  · simp [h1]
  · rw [if_neg h1]; by_cases h2 : f = 2 <;> simp [h1, h2]
theorem ref_Good (f w : Int) : cutplaneref03_Good.f f w = some (err f w) := by
  unfold cutplaneref03_Good.f err
  rw [ref_Is]
  by_cases h1 : f = 1
  · subst h1; simp
    split <;> rfl
  · by_cases h2 : f = 2 <;> simp [h1, h2]
theorem ref_Split (f : Int) {w : Int} (hu : U w) : cutplaneref03_Split.f f w = some (decide (w ≥ sgn f), w % sgn f / one f, w % one f) := by
  unfold cutplaneref03_Split.f sgn one
  unfold U at hu
  rw [if_pos hu]
  split <;> rfl
theorem ref_Most (f : Int) : cutplaneref03_Most.f f = some (if f = 1 then 255 else 2047) := by unfold cutplaneref03_Most.f; split <;> rfl
theorem ref_Class (k : Nat) (f : Int) {w : Int} (hu : U w) : cutplaneref03_Class.f (k + 1) f w = some (cl f w) := by
  obtain ⟨h0, h1⟩ := hu
  unfold cutplaneref03_Class.f
  rw [ref_Split f ⟨h0, h1⟩]
  simp only [Option.bind_some, cutplaneref03_Class.j0, ref_Most]
  unfold cl cls sgn one infw
  by_cases hf : f = 1
  · simp only [hf, if_true]
    by_cases a : w % 2147483648 / 8388608 = 0
    · rw [if_pos a]
      by_cases b : w % 8388608 = 0
      · rw [if_pos (by simp [b]), if_pos (by omega)]
      · rw [if_neg (by simp [b]), if_pos a, if_neg (by omega), if_pos (by omega)]
    · rw [if_neg a, if_neg (by decide), if_neg a]
      by_cases c : w % 2147483648 / 8388608 < 255
      · rw [if_pos c, if_neg (by omega), if_neg (by omega), if_pos (by omega)]
      · rw [if_neg c]
        by_cases d : w % 8388608 = 0
        · rw [if_pos d, if_neg (by omega), if_neg (by omega), if_neg (by omega), if_pos (by omega)]
        · rw [if_neg d, if_neg (by omega), if_neg (by omega), if_neg (by omega), if_neg (by omega)]
  · simp only [hf, if_false]
    by_cases a : w % 9223372036854775808 / 4503599627370496 = 0
    · rw [if_pos a]
      by_cases b : w % 4503599627370496 = 0
      · rw [if_pos (by simp [b]), if_pos (by omega)]
      · rw [if_neg (by simp [b]), if_pos a, if_neg (by omega), if_pos (by omega)]
    · rw [if_neg a, if_neg (by decide), if_neg a]
      by_cases c : w % 9223372036854775808 / 4503599627370496 < 2047
      · rw [if_pos c, if_neg (by omega), if_neg (by omega), if_pos (by omega)]
      · rw [if_neg c]
        by_cases d : w % 4503599627370496 = 0
        · rw [if_pos d, if_neg (by omega), if_neg (by omega), if_neg (by omega), if_pos (by omega)]
        · rw [if_neg d, if_neg (by omega), if_neg (by omega), if_neg (by omega), if_neg (by omega)]
theorem ref_Sign (f : Int) : cutplaneref03_Sign.f f = some (sgn f) := by unfold cutplaneref03_Sign.f sgn; split <;> rfl
theorem ref_Frac (f : Int) : cutplaneref03_Frac.f f = some (if f = 1 then 23 else 52) := by unfold cutplaneref03_Frac.f; split <;> rfl
theorem ref_None (f : Int) : cutplaneref03_None.f f = some (nanw f) := by
  by_cases hf : f = 1
  · subst hf; decide +kernel
  · unfold cutplaneref03_None.f
    rw [ref_Most, ref_Frac]
    unfold nanw
    simp only [hf, if_false, Option.bind_some]
    have e : shl .u64 1 (wrap64 (52 - 1)) = 2251799813685248 := by decide +kernel
    have e0 : 0 ≤ wrap64 (52 - 1) := by decide +kernel
    have e1 : IntKind.u64.wrap (shl .u64 (IntKind.u64.wrap 2047) 52 + 2251799813685248) = 9221120237041090560 := by decide +kernel
    rw [if_pos e0, e]
    unfold cutplaneref03_Join.f
    rw [ref_Frac]
    simp [hf, e1]
theorem ref_Inf (f : Int) (b : Bool) : cutplaneref03_Inf.f f b = some (if b then infw f + sgn f else infw f) := by
  unfold cutplaneref03_Inf.f cutplaneref03_Join.f
  rw [ref_Most, ref_Frac, ref_Sign]
  unfold infw sgn
  by_cases hf : f = 1
  · have e1 : IntKind.u64.wrap (shl .u64 (IntKind.u64.wrap 255) 23 + 0) = 2139095040 := by decide +kernel
    have e2 : IntKind.u64.wrap (2139095040 + 2147483648) = 4286578688 := by decide +kernel
    simp only [hf, if_true, Option.bind_some, e1, e2]
    cases b <;> simp
  · have e1 : IntKind.u64.wrap (shl .u64 (IntKind.u64.wrap 2047) 52 + 0) = 9218868437227405312 := by decide +kernel
    have e2 : IntKind.u64.wrap (9218868437227405312 + 9223372036854775808) = 18442240474082181120 := by decide +kernel
    simp only [hf, if_false, Option.bind_some, e1, e2]
    cases b <;> simp
theorem ref_Signed (f : Int) {w : Int} (hu : U w) (b : Bool) : cutplaneref03_Signed.f f w b = some (if b then w % sgn f + sgn f else w % sgn f) := by
  obtain ⟨h0, h1⟩ := hu
  unfold cutplaneref03_Signed.f
  rw [ref_Sign]
  simp only [Option.bind_some]
  have hs : sgn f = 2147483648 ∨ sgn f = 9223372036854775808 := by unfold sgn; split <;> simp
  have e : Int.tmod w (sgn f) = w % sgn f := Int.tmod_eq_emod_of_nonneg h0
  rw [if_neg (by omega), e, wrapu64]
  have e2 : (w % sgn f + sgn f) % 18446744073709551616 = w % sgn f + sgn f := by rcases hs with h | h <;> rw [h] <;> omega
  rw [e2]
  cases b <;> simp

/-! signs -/
def canw (f w : Int) : Int := if cl f w = 5 then nanw f else w
def flipw (f w : Int) : Int := if w ≥ sgn f then w - sgn f else w + sgn f
def negw (f w : Int) : Int := if cl f w = 5 then nanw f else flipw f w
def absw (f w : Int) : Int := if cl f w = 5 then nanw f else w % sgn f
def cpw (f w s : Int) : Int := if cl f w = 5 then nanw f else if s ≥ sgn f then w % sgn f + sgn f else w % sgn f
theorem shape_none {f w : Int} (h : Gd f w) : word_shape_none.f (shp f).1 (shp f).2.1 (shp f).2.2 = some (nanw f) := by
  rcases h with ⟨rfl, _, _⟩ | ⟨rfl, _, _⟩
  · exact shape_none1
  · exact shape_none2
theorem turned_good (k : Nat) {f w : Int} (h : Gd f w) {g : Int → Int → Int → Option Int} {z : Int} (hg : g (shp f).1 (shp f).2.1 (shp f).2.2 = some z) :
    word_turned.f (k + 2) f w g = some (if cl f w = 5 then nanw f else z, 0) := by
  unfold word_turned.f
  rw [open_one k f w h.u, h.err]
  simp only [Option.bind_some, if_true, shape_class h, shape_none h, hg]
  split <;> rfl
theorem turned_bad (k : Nat) {f w : Int} (hu : U w) (h : err f w ≠ 0) {g : Int → Int → Int → Option Int} :
    word_turned.f (k + 2) f w g = some (0, err f w) := by
  unfold word_turned.f
  rw [open_one k f w hu]
  simp only [Option.bind_some]
  rw [if_neg h]
theorem shp3 {f w : Int} (h : Gd f w) : (shp f).2.2 = sgn f := by
  rcases h with ⟨rfl, _, _⟩ | ⟨rfl, _, _⟩ <;> rfl
theorem canon_good (k : Nat) {f w : Int} (h : Gd f w) : word_Canon.f (k + 2) f w = some (canw f w, 0) := by
  unfold word_Canon.f
  rw [turned_good k h (z := w) rfl]; rfl
theorem neg_good (k : Nat) {f w : Int} (h : Gd f w) : word_Neg.f (k + 2) f w = some (negw f w, 0) := by
  unfold word_Neg.f
  rw [turned_good k h (z := flipw f w) ?_]
  · rfl
  · unfold word_Neg_1.f flipw
    rw [shp3 h]
    rcases h with ⟨rfl, h0, h1⟩ | ⟨rfl, h0, h1⟩
    · exact congrArg some (xor31 h0 h1)
    · exact congrArg some (xor63 h0 h1)
theorem abs_good (k : Nat) {f w : Int} (h : Gd f w) : word_Abs.f (k + 2) f w = some (absw f w, 0) := by
  unfold word_Abs.f
  rw [turned_good k h (z := w % sgn f) ?_]
  · rfl
  · unfold word_Abs_1.f
    rw [shp3 h]
    rcases h with ⟨rfl, h0, h1⟩ | ⟨rfl, h0, h1⟩
    · exact congrArg some (andNot31 h0 h1)
    · exact congrArg some (andNot63 h0 h1)
theorem copysign_good (k : Nat) {f w s : Int} (h : Gd f w) (hs : Gd f s) : word_CopySign.f (k + 3) f w s = some (cpw f w s, 0) := by
  unfold word_CopySign.f
  rw [open_two k f w s h.u hs.u, h.err, hs.err]
  simp only [Option.bind_some, if_true]
  rw [show k + 3 = (k + 1) + 2 from rfl, turned_good (k + 1) h (z := if s ≥ sgn f then w % sgn f + sgn f else w % sgn f) ?_]
  · rfl
  · unfold word_CopySign_1.f
    rw [shp3 h]
    rcases h with ⟨rfl, h0, h1⟩ | ⟨rfl, h0, h1⟩
    · rcases hs with ⟨_, g0, g1⟩ | ⟨e, _⟩
      · have e : sgn 1 = 2147483648 := rfl
        rw [e, andNot31 h0 h1, and31 g0 g1]
        split
        · rw [or31 (by omega) (by omega)]
        · rw [or0 (by omega) (by omega)]
      · exact absurd e (by decide)
    · rcases hs with ⟨e, _⟩ | ⟨_, g0, g1⟩
      · exact absurd e (by decide)
      · have e : sgn 2 = 9223372036854775808 := rfl
        rw [e, andNot63 h0 h1, and63 g0 g1]
        split
        · rw [or63 (by omega) (by omega)]
        · rw [or0 (by omega) (by omega)]
theorem canon_bad (k : Nat) {f w : Int} (hu : U w) (h : err f w ≠ 0) : word_Canon.f (k + 2) f w = some (0, err f w) := by
  unfold word_Canon.f; rw [turned_bad k hu h]; rfl
theorem neg_bad (k : Nat) {f w : Int} (hu : U w) (h : err f w ≠ 0) : word_Neg.f (k + 2) f w = some (0, err f w) := by
  unfold word_Neg.f; rw [turned_bad k hu h]; rfl
theorem abs_bad (k : Nat) {f w : Int} (hu : U w) (h : err f w ≠ 0) : word_Abs.f (k + 2) f w = some (0, err f w) := by
  unfold word_Abs.f; rw [turned_bad k hu h]; rfl
theorem copysign_bad (k : Nat) {f w s : Int} (hu : U w) (hs : U s) (h : ¬ (err f w = 0 ∧ err f s = 0)) : word_CopySign.f (k + 3) f w s = some (0, if err f w = 0 then err f s else err f w) := by
  unfold word_CopySign.f
  rw [open_two k f w s hu hs]
  simp only [Option.bind_some]
  rw [if_neg]
  intro c
  apply h
  by_cases e : err f w = 0
  · rw [if_pos e] at c; exact ⟨e, c⟩
  · rw [if_neg e] at c; exact absurd c e
/-! bounds -/
theorem sgn_cases (f : Int) : sgn f = 2147483648 ∨ sgn f = 9223372036854775808 := by unfold sgn; split <;> simp
theorem nan_gd {f w : Int} (h : Gd f w) : Gd f (nanw f) := by
  rcases h with ⟨rfl, _, _⟩ | ⟨rfl, _, _⟩
  · exact .inl ⟨rfl, by decide, by decide⟩
  · exact .inr ⟨rfl, by decide, by decide⟩
theorem flipw_gd {f w : Int} (h : Gd f w) : Gd f (flipw f w) := by
  unfold flipw sgn
  rcases h with ⟨rfl, h0, h1⟩ | ⟨rfl, h0, h1⟩
  · exact .inl ⟨rfl, by simp only [if_true]; split <;> omega, by simp only [if_true]; split <;> omega⟩
  · exact .inr ⟨rfl, by simp only [show (¬ ((2 : Int) = 1)) by decide, if_false]; split <;> omega, by simp only [show (¬ ((2 : Int) = 1)) by decide, if_false]; split <;> omega⟩
theorem size_gd {f w : Int} (h : Gd f w) : Gd f (w % sgn f) := by
  unfold sgn
  rcases h with ⟨rfl, h0, h1⟩ | ⟨rfl, h0, h1⟩
  · exact .inl ⟨rfl, by simp only [if_true]; omega, by simp only [if_true]; omega⟩
  · exact .inr ⟨rfl, by simp only [show (¬ ((2 : Int) = 1)) by decide, if_false]; omega, by simp only [show (¬ ((2 : Int) = 1)) by decide, if_false]; omega⟩
theorem neg_gd {f w : Int} (h : Gd f w) : Gd f (negw f w) := by unfold negw; split; exact nan_gd h; exact flipw_gd h
theorem can_gd {f w : Int} (h : Gd f w) : Gd f (canw f w) := by unfold canw; split; exact nan_gd h; exact h
theorem abs_gd {f w : Int} (h : Gd f w) : Gd f (absw f w) := by unfold absw; split; exact nan_gd h; exact size_gd h
theorem cp_gd {f w s : Int} (h : Gd f w) : Gd f (cpw f w s) := by
  unfold cpw
  split
  · exact nan_gd h
  · split
    · unfold sgn
      rcases h with ⟨rfl, h0, h1⟩ | ⟨rfl, h0, h1⟩
      · exact .inl ⟨rfl, by simp only [if_true]; omega, by simp only [if_true]; omega⟩
      · exact .inr ⟨rfl, by simp only [show (¬ ((2 : Int) = 1)) by decide, if_false]; omega, by simp only [show (¬ ((2 : Int) = 1)) by decide, if_false]; omega⟩
    · exact size_gd h
theorem ref_Canon (k : Nat) (f : Int) {w : Int} (hu : U w) : cutplaneref03_Canon.f (k + 1) f w = some (canw f w) := by
  unfold cutplaneref03_Canon.f canw
  rw [ref_Class k f hu]
  simp only [Option.bind_some, ref_None]
  split <;> rfl
/-! fields, put together -/
def most (f : Int) : Int := if f = 1 then 255 else 2047
def Fit (f e fr : Int) : Prop := 0 ≤ e ∧ e ≤ most f ∧ fr < one f
def jw (f : Int) (b : Bool) (e fr : Int) : Int := if b then e * one f + fr + sgn f else e * one f + fr
theorem open_nil' (k : Nat) (f : Int) : word_open.f (k + 1) f ([] : List Int) = some ((shp f).1, (shp f).2.1, (shp f).2.2, if f = 1 ∨ f = 2 then 0 else 4) := open_nil k f
theorem div_zero_iff {x P : Int} (hP : 0 < P) (h0 : 0 ≤ x) : x / P = 0 ↔ x < P := by
  constructor
  · intro h
    by_cases c : x < P
    · exact c
    · have : 1 ≤ x / P := (Int.le_ediv_iff_mul_le hP).2 (by omega)
      omega
  · intro h; exact Int.ediv_eq_zero_of_lt h0 h
theorem shape_join {f : Int} (hf : f = 1 ∨ f = 2) {b : Bool} {e fr : Int} (h : Fit f e fr) (h0 : 0 ≤ fr) :
    word_shape_join.f (shp f).1 (shp f).2.1 (shp f).2.2 b e fr = some (jw f b e fr) := by
  obtain ⟨a1, a2, a3⟩ := h
  unfold word_shape_join.f jw
  rcases hf with rfl | rfl
  · have e1 : shp 1 = (23, 255, 2147483648) := rfl
    have a4 : e ≤ 255 := a2
    have a5 : fr < 8388608 := a3
    have e2 : shl .u64 (IntKind.u64.wrap e) 23 = e * 8388608 := by
      have : shl .u64 (IntKind.u64.wrap e) 23 = IntKind.u64.wrap (IntKind.u64.wrap e * 8388608) := rfl
      rw [this, wrapu64, wrapu64]; omega
    rw [e1]
    simp only [e2, one, sgn, if_true]
    rw [join23 (by omega) (by omega) h0 (by omega), if_pos (by decide), or31 (by omega) (by omega)]
    cases b <;> rfl
  · have e1 : shp 2 = (52, 2047, 9223372036854775808) := rfl
    have a4 : e ≤ 2047 := a2
    have a5 : fr < 4503599627370496 := a3
    have e2 : shl .u64 (IntKind.u64.wrap e) 52 = e * 4503599627370496 := by
      have : shl .u64 (IntKind.u64.wrap e) 52 = IntKind.u64.wrap (IntKind.u64.wrap e * 4503599627370496) := rfl
      rw [this, wrapu64, wrapu64]; omega
    rw [e1]
    simp only [e2, one, sgn, show (¬ ((2 : Int) = 1)) by decide, if_false]
    rw [join52 (by omega) (by omega) h0 (by omega), if_pos (by decide), or63 (by omega) (by omega)]
    cases b <;> rfl
theorem join_good (k : Nat) {f : Int} (hf : f = 1 ∨ f = 2) {b : Bool} {e fr : Int} (h : Fit f e fr) (h0 : 0 ≤ fr) : word_Join.f (k + 1) f b e fr = some (jw f b e fr, 0) := by
  unfold word_Join.f
  rw [open_nil' k f]
  have hj := shape_join hf (b := b) h h0
  obtain ⟨a1, a2, a3⟩ := h
  have c1 : (shp f).2.1 = most f := by rcases hf with rfl | rfl <;> rfl
  have c2 : 0 ≤ (shp f).1 := by rcases hf with rfl | rfl <;> decide
  have c3 : shr .u64 fr (shp f).1 = 0 := by
    rcases hf with rfl | rfl
    · exact (div_zero_iff (P := 8388608) (by decide) h0).2 a3
    · exact (div_zero_iff (P := 4503599627370496) (by decide) h0).2 a3
  simp only [Option.bind_some, if_pos hf, if_true]
  rw [if_neg (by omega), if_neg (by omega), if_pos c2, if_pos c3, hj]
  rfl
theorem join_misfit (k : Nat) {f : Int} (hf : f = 1 ∨ f = 2) {b : Bool} {e fr : Int} (h : ¬ Fit f e fr) (h0 : 0 ≤ fr) : word_Join.f (k + 1) f b e fr = some (0, 2) := by
  unfold word_Join.f
  rw [open_nil' k f]
  have c1 : (shp f).2.1 = most f := by rcases hf with rfl | rfl <;> rfl
  have c2 : 0 ≤ (shp f).1 := by rcases hf with rfl | rfl <;> decide
  have c3 : shr .u64 fr (shp f).1 = 0 ↔ fr < one f := by
    rcases hf with rfl | rfl
    · exact div_zero_iff (P := 8388608) (by decide) h0
    · exact div_zero_iff (P := 4503599627370496) (by decide) h0
  simp only [Option.bind_some, if_pos hf, if_true]
  by_cases d1 : e < 0
  · rw [if_pos d1]
  · rw [if_neg d1]
    by_cases d2 : e > most f
    · rw [if_pos (by omega)]
    · rw [if_neg (by omega), if_pos c2, if_neg]
      intro c
      exact h ⟨by omega, by omega, c3.1 c⟩
theorem join_nof (k : Nat) {f : Int} (hf : ¬ (f = 1 ∨ f = 2)) {b : Bool} {e fr : Int} : word_Join.f (k + 1) f b e fr = some (0, 4) := by
  unfold word_Join.f
  rw [open_nil' k f]
  simp only [Option.bind_some, if_neg hf]
  rw [if_neg (by decide)]
theorem ref_Join {f : Int} (hf : f = 1 ∨ f = 2) {b : Bool} {e fr : Int} (h : Fit f e fr) (h0 : 0 ≤ fr) : cutplaneref03_Join.f f b e fr = some (jw f b e fr) := by
  obtain ⟨a1, a2, a3⟩ := h
  unfold cutplaneref03_Join.f jw
  rw [ref_Frac, ref_Sign]
  rcases hf with rfl | rfl
  · have a4 : e ≤ 255 := a2
    have a5 : fr < 8388608 := a3
    have e2 : shl .u64 (IntKind.u64.wrap e) 23 = e * 8388608 := by
      have : shl .u64 (IntKind.u64.wrap e) 23 = IntKind.u64.wrap (IntKind.u64.wrap e * 8388608) := rfl
      rw [this, wrapu64, wrapu64]; omega
    simp only [Option.bind_some, if_true, e2, one, sgn]
    simp only [wrapu64]
    rw [if_pos (by decide), Int.emod_eq_of_lt (a := e * 8388608 + fr) (by omega) (by omega), Int.emod_eq_of_lt (a := e * 8388608 + fr + 2147483648) (by omega) (by omega)]
    cases b <;> rfl
  · have a4 : e ≤ 2047 := a2
    have a5 : fr < 4503599627370496 := a3
    have e2 : shl .u64 (IntKind.u64.wrap e) 52 = e * 4503599627370496 := by
      have : shl .u64 (IntKind.u64.wrap e) 52 = IntKind.u64.wrap (IntKind.u64.wrap e * 4503599627370496) := rfl
      rw [this, wrapu64, wrapu64]; omega
    simp only [Option.bind_some, show (¬ ((2 : Int) = 1)) by decide, if_false, e2, one, sgn]
    simp only [wrapu64]
    rw [if_pos (by decide), Int.emod_eq_of_lt (a := e * 4503599627370496 + fr) (by omega) (by omega), Int.emod_eq_of_lt (a := e * 4503599627370496 + fr + 9223372036854775808) (by omega) (by omega)]
    cases b <;> rfl
theorem known03 (k : Nat) : cutplanelaw03_known.f (k + 2) = some true := by
  unfold cutplanelaw03_known.f
  rw [show k + 2 = (k + 1) + 1 from rfl, join_good (k + 1) (f := 1) (.inl rfl) (by unfold Fit most one; decide) (by decide), split_good k (f := 2) (.inr ⟨rfl, by decide, by decide⟩)]
  decide +kernel
/-! signs, twice -/
theorem cl_size (f w : Int) : cl f (w % sgn f) = cl f w := by unfold cl; rw [Int.emod_emod_of_dvd _ (Int.dvd_refl _)]
theorem cl_flipw {f w : Int} (h : Gd f w) : cl f (flipw f w) = cl f w := by
  unfold cl
  have : flipw f w % sgn f = w % sgn f := by
    unfold flipw sgn
    rcases h with ⟨rfl, h0, h1⟩ | ⟨rfl, h0, h1⟩
    · simp only [if_true]; split <;> omega
    · simp only [show (¬ ((2 : Int) = 1)) by decide, if_false]; split <;> omega
  rw [this]
theorem cl_nan (f : Int) : cl f (nanw f) = 5 := by
  unfold cl cls nanw one infw sgn
  split <;> decide
theorem cl_signed (f w : Int) : cl f (w % sgn f + sgn f) = cl f w := by
  unfold cl
  rw [Int.add_emod_right, Int.emod_emod_of_dvd _ (Int.dvd_refl _)]
theorem flipw_flipw {f w : Int} (h : Gd f w) : flipw f (flipw f w) = w := by
  unfold flipw sgn
  rcases h with ⟨rfl, h0, h1⟩ | ⟨rfl, h0, h1⟩
  · simp only [if_true]; split <;> split <;> omega
  · simp only [show (¬ ((2 : Int) = 1)) by decide, if_false]; split <;> split <;> omega
theorem neg_neg' {f w : Int} (h : Gd f w) : negw f (negw f w) = canw f w := by
  unfold negw canw
  by_cases c : cl f w = 5
  · simp only [if_pos c, cl_nan, if_true]
  · simp only [if_neg c, cl_flipw h, flipw_flipw h]
theorem abs_neg {f w : Int} (h : Gd f w) : absw f (negw f w) = absw f w := by
  unfold negw absw
  by_cases c : cl f w = 5
  · simp only [if_pos c, cl_nan, if_true]
  · simp only [if_neg c, cl_flipw h]
    unfold flipw sgn
    rcases h with ⟨rfl, h0, h1⟩ | ⟨rfl, h0, h1⟩
    · simp only [if_true]; split <;> omega
    · simp only [show (¬ ((2 : Int) = 1)) by decide, if_false]; split <;> omega
theorem cp_cp {f w s : Int} (h : Gd f w) : cpw f (cpw f w s) w = canw f w := by
  unfold cpw canw
  by_cases c : cl f w = 5
  · simp only [if_pos c, cl_nan, if_true]
  · have e : cl f (if s ≥ sgn f then w % sgn f + sgn f else w % sgn f) = cl f w := by split; exact cl_signed f w; exact cl_size f w
    simp only [if_neg c, e]
    unfold sgn
    rcases h with ⟨rfl, h0, h1⟩ | ⟨rfl, h0, h1⟩
    · simp only [if_true]; split <;> split <;> omega
    · simp only [show (¬ ((2 : Int) = 1)) by decide, if_false]; split <;> split <;> omega
end Go.Proofs.Ythiklmgdmaemgaa.PA
