/- Steps of Go functions that the law WordFields uses, told as plain Lean functions, each with the proof that its call comes to what it tells; words on memory; plain facts. No condition beyond those that each text names. -/
import Derived.Laws.BitsAllLaws
import Derived.Laws.BitsLemmas
import Derived.OpenShut
import Derived.Test.YthiklmgdmaemgaaProg
import Derived.Below
import Derived.Deep.Draws
import Derived.Deep.AppendLies
import Derived.Maps.AppendAt
import Derived.OwnWalk
import Derived.Laws.BytesArg
import Derived.Laws.MakeOwn
import Derived.Laws.OwnMore
import Derived.Deep.OwnRows
import Derived.Tactics
import Derived.Lib.ConvBytes
import Derived.Laws.Slices
import Derived.WalkKit
import Derived.KernelRfl
import Derived.RowKit3
import Derived.Deep.LoopGhost
import Derived.Deep.QuietTactic
import Derived.BigQuiet
import Derived.WideLaws
import Derived.Deep.DeepCutAuto
import Derived.Deep.CutBlock
import Derived.Deep.RegionHeld3
import Derived.Laws.Rows
import Derived.Lib.AppendStr
import Derived.ArgAppend
import Derived.Laws.IdiomCopy
import Derived.OrdersHeld
import Derived.RowKit
import Derived.Laws.StructEq
import Derived.Test.YthiklmgdmaemgaaSWordFields0
import Derived.Test.YthiklmgdmaemgaaSWordFields1
import Derived.Test.YthiklmgdmaemgaaSWordFields2
import Derived.Test.YthiklmgdmaemgaaSWordFields3
import Derived.Test.YthiklmgdmaemgaaSWordFields4
section
namespace Go.Proofs.Ythiklmgdmaemgaa.Wd
open Go
theorem nat_and_lt {n a : Nat} (h : a < 2 ^ n) : a &&& 2 ^ n = 0 := by
  apply Nat.eq_of_testBit_eq
  intro i
  rw [Nat.testBit_and, Nat.testBit_two_pow, Nat.zero_testBit]
  by_cases e : n = i
  · subst e; simp [Nat.testBit_lt_two_pow h]
  · simp [e]
theorem nat_and_ge {n l : Nat} (h : l < 2 ^ n) : (2 ^ n + l) &&& 2 ^ n = 2 ^ n := by
  apply Nat.eq_of_testBit_eq
  intro i
  rw [Nat.testBit_and, Nat.testBit_two_pow]
  by_cases e : n = i
  · subst e; rw [Nat.testBit_two_pow_add_eq, Nat.testBit_lt_two_pow h]; simp
  · simp [e]
theorem nat_or_lt {n a : Nat} (h : a < 2 ^ n) : a ||| 2 ^ n = 2 ^ n + a := by
  have := Nat.two_pow_add_eq_or_of_lt h 1
  rw [Nat.mul_one] at this
  rw [this, Nat.or_comm]
theorem nat_mask {n a : Nat} (hn : n ≤ 63) (h : a < 2 ^ (n + 1)) : a &&& (2 ^ 64 - (2 ^ n + 1)) = a % 2 ^ n := by
  apply Nat.eq_of_testBit_eq
  intro i
  rw [Nat.testBit_and, Nat.testBit_mod_two_pow, Nat.testBit_two_pow_sub_succ (by exact Nat.pow_lt_pow_right (by decide) (by omega)), Nat.testBit_two_pow]
  by_cases e : i < n
  · simp [e, show n ≠ i by omega, show i < 64 by omega]
  · by_cases e2 : n = i
    · subst e2; simp
    · have : a.testBit i = false := Nat.testBit_lt_two_pow (Nat.lt_of_lt_of_le h (Nat.pow_le_pow_right (by decide) (by omega)))
      simp [this]
section
variable {w : Int}
theorem andNot31 (h0 : 0 ≤ w) (h1 : w < 4294967296) : Go.bits .andNot .u64 w 2147483648 = w % 2147483648 := by
  obtain ⟨a, rfl⟩ := Int.eq_ofNat_of_zero_le h0
  have ha : a < 2 ^ (31 + 1) := by omega
  have e := u64_andNot_nat a 2147483648 (by omega) (by decide)
  have m : a &&& 18446744071562067967 = a % 2147483648 := nat_mask (n := 31) (by decide) ha
  rw [show ((2147483648 : Int)) = ((2147483648 : Nat) : Int) from rfl, e, show (18446744073709551615 - 2147483648 : Nat) = 18446744071562067967 from rfl, m]
  omega
theorem andNot63 (h0 : 0 ≤ w) (h1 : w < 18446744073709551616) : Go.bits .andNot .u64 w 9223372036854775808 = w % 9223372036854775808 := by
  obtain ⟨a, rfl⟩ := Int.eq_ofNat_of_zero_le h0
  have ha : a < 2 ^ (63 + 1) := by omega
  have e := u64_andNot_nat a 9223372036854775808 (by omega) (by decide)
  have m : a &&& 9223372036854775807 = a % 9223372036854775808 := nat_mask (n := 63) (by decide) ha
  rw [show ((9223372036854775808 : Int)) = ((9223372036854775808 : Nat) : Int) from rfl, e, show (18446744073709551615 - 9223372036854775808 : Nat) = 9223372036854775807 from rfl, m]
  omega
theorem and31 (h0 : 0 ≤ w) (h1 : w < 4294967296) : Go.bits .and .u64 w 2147483648 = if w ≥ 2147483648 then 2147483648 else 0 := by
  obtain ⟨a, rfl⟩ := Int.eq_ofNat_of_zero_le h0
  have e := u64_and_nat a 2147483648 (by omega) (by decide)
  rw [show ((2147483648 : Int)) = ((2147483648 : Nat) : Int) from rfl, e]
  by_cases c : a < 2 ^ 31
  · have m : a &&& 2147483648 = 0 := nat_and_lt (n := 31) c
    rw [m, if_neg (by omega)]; rfl
  · obtain ⟨l, rfl⟩ : ∃ l, a = 2 ^ 31 + l := ⟨a - 2 ^ 31, by omega⟩
    have m : (2 ^ 31 + l) &&& 2147483648 = 2147483648 := nat_and_ge (n := 31) (l := l) (by omega)
    rw [m, if_pos (by omega)]
theorem and63 (h0 : 0 ≤ w) (h1 : w < 18446744073709551616) : Go.bits .and .u64 w 9223372036854775808 = if w ≥ 9223372036854775808 then 9223372036854775808 else 0 := by
  obtain ⟨a, rfl⟩ := Int.eq_ofNat_of_zero_le h0
  have e := u64_and_nat a 9223372036854775808 (by omega) (by decide)
  rw [show ((9223372036854775808 : Int)) = ((9223372036854775808 : Nat) : Int) from rfl, e]
  by_cases c : a < 2 ^ 63
  · have m : a &&& 9223372036854775808 = 0 := nat_and_lt (n := 63) c
    rw [m, if_neg (by omega)]; rfl
  · obtain ⟨l, rfl⟩ : ∃ l, a = 2 ^ 63 + l := ⟨a - 2 ^ 63, by omega⟩
    have m : (2 ^ 63 + l) &&& 9223372036854775808 = 9223372036854775808 := nat_and_ge (n := 63) (l := l) (by omega)
    rw [m, if_pos (by omega)]
theorem or31 (h0 : 0 ≤ w) (h1 : w < 2147483648) : Go.bits .or .u64 w 2147483648 = w + 2147483648 := by
  obtain ⟨a, rfl⟩ := Int.eq_ofNat_of_zero_le h0
  have e := u64_or_nat a 2147483648 (by omega) (by decide)
  have m : a ||| 2147483648 = 2 ^ 31 + a := nat_or_lt (n := 31) (by omega)
  rw [show ((2147483648 : Int)) = ((2147483648 : Nat) : Int) from rfl, e, m]
  omega
theorem or63 (h0 : 0 ≤ w) (h1 : w < 9223372036854775808) : Go.bits .or .u64 w 9223372036854775808 = w + 9223372036854775808 := by
  obtain ⟨a, rfl⟩ := Int.eq_ofNat_of_zero_le h0
  have e := u64_or_nat a 9223372036854775808 (by omega) (by decide)
  have m : a ||| 9223372036854775808 = 2 ^ 63 + a := nat_or_lt (n := 63) (by omega)
  rw [show ((9223372036854775808 : Int)) = ((9223372036854775808 : Nat) : Int) from rfl, e, m]
  omega
theorem wrapu64 (n : Int) : IntKind.u64.wrap n = n % 18446744073709551616 := by simp [IntKind.wrap, IntKind.bits, IntKind.signed]
theorem wraps_u64 (n : Int) (h₀ : 0 ≤ n) (h₁ : n < 2 ^ 64) : IntKind.u64.wrap n = n := by
  rw [wrapu64]; omega
theorem and23 (h0 : 0 ≤ w) (h1 : w < 18446744073709551616) : Go.bits .and .u64 w 8388607 = w % 8388608 :=
  bits_mask .u64 64 (by decide) wraps_u64 23 (by decide) w h0 (by omega)
theorem and52 (h0 : 0 ≤ w) (h1 : w < 18446744073709551616) : Go.bits .and .u64 w 4503599627370495 = w % 4503599627370496 :=
  bits_mask .u64 64 (by decide) wraps_u64 52 (by decide) w h0 (by omega)
theorem join23 {x y : Int} (h0 : 0 ≤ x) (h1 : x < 2199023255552) (h2 : 0 ≤ y) (h3 : y < 8388608) : Go.bits .or .u64 (x * 8388608) y = x * 8388608 + y :=
  bits_join .u64 64 (by decide) wraps_u64 23 _ _ (by omega) (by omega) (by omega) h2 (by omega) (by omega)
theorem join52 {x y : Int} (h0 : 0 ≤ x) (h1 : x < 4096) (h2 : 0 ≤ y) (h3 : y < 4503599627370496) : Go.bits .or .u64 (x * 4503599627370496) y = x * 4503599627370496 + y :=
  bits_join .u64 64 (by decide) wraps_u64 52 _ _ (by omega) (by omega) (by omega) h2 (by omega) (by omega)
end
end Go.Proofs.Ythiklmgdmaemgaa.Wd
end

section
namespace Go.Proofs.Ythiklmgdmaemgaa.PA
open Go.RowKit Go.Proofs.YthiklmgdmaemgaaW.PrintWords Go.Proofs.YthiklmgdmaemgaaW.PrintLast Go.Proofs.YthiklmgdmaemgaaW.PrintMore Go.Proofs.Ythiklmgdmaemgaa.Wd
set_option linter.unusedSimpArgs false
set_option linter.unusedVariables false
/-- the class of a size: P one above the fractions, I the infinite size -/
def cls (P I s : Int) : Int := if s = 0 then 1 else if s < P then 2 else if s < I then 3 else if s = I then 4 else 5
def sgn (f : Int) : Int := if f = 1 then 2147483648 else 9223372036854775808
def one (f : Int) : Int := if f = 1 then 8388608 else 4503599627370496
def infw (f : Int) : Int := if f = 1 then 2139095040 else 9218868437227405312
def cl (f w : Int) : Int := cls (one f) (infw f) (w % sgn f)
/-- the error of a word, as Good tells it -/
def err (f w : Int) : Int := if f = 1 then (if w ≥ 4294967296 then 6 else 0) else if f = 2 then 0 else 4
/-- a good word -/
def Gd (f w : Int) : Prop := (f = 1 ∧ 0 ≤ w ∧ w < 4294967296) ∨ (f = 2 ∧ 0 ≤ w ∧ w < 18446744073709551616)
def U (w : Int) : Prop := 0 ≤ w ∧ w < 18446744073709551616
theorem Gd.u {f w : Int} (h : Gd f w) : U w := by rcases h with ⟨_, a, b⟩ | ⟨_, a, b⟩ <;> exact ⟨a, by omega⟩
theorem Gd.err {f w : Int} (h : Gd f w) : err f w = 0 := by
  rcases h with ⟨rfl, a, b⟩ | ⟨rfl, a, b⟩
  · simp [PA.err]; omega
  · simp [PA.err]
theorem gd_of {f w : Int} (h : err f w = 0) (hu : U w) : Gd f w := by
  unfold err at h
  unfold U at hu
  unfold Gd
  split at h
  · split at h
    · omega
    · omega
  · split at h <;> omega
theorem u_of {w : Int} (h : (Lit.int .u64 w).wf = true) : U w := by have := bounds_u64 h; exact ⟨by omega, by omega⟩
theorem rd_zero (w : Int) : rd [w] 0 = w := by rfl
theorem top31 : Go.bits .or .u64 2147483648 (IntKind.u64.wrap (2147483648 - 1)) = 4294967295 := by decide +kernel
theorem top63 : Go.bits .or .u64 9223372036854775808 (IntKind.u64.wrap (9223372036854775808 - 1)) = 18446744073709551615 := by decide +kernel
/-- the shape of a format -/
def shp (f : Int) : Int × Int × Int := if f = 1 then (23, 255, 2147483648) else if f = 2 then (52, 2047, 9223372036854775808) else (0, 0, 0)
theorem open_nil (k : Nat) (f : Int) : word_open.f (k + 1) f [] = some ((shp f).1, (shp f).2.1, (shp f).2.2, if f = 1 ∨ f = 2 then 0 else 4) := by
  unfold word_open.f word_shapeOf.f shp
  by_cases h1 : f = 1
  · subst h1; simp [word_open.l0]
  · by_cases h2 : f = 2
    · subst h2; simp [word_open.l0]
    · simp [h1, h2]
theorem open_one (k : Nat) (f w : Int) (hu : U w) : word_open.f (k + 2) f [w] = some ((shp f).1, (shp f).2.1, (shp f).2.2, err f w) := by
  obtain ⟨h0, h3⟩ := hu
  unfold word_open.f word_shapeOf.f shp err
  by_cases h1 : f = 1
  · subst h1
    have l1 : (([w] : List Int).length : Int) = 1 := rfl
    have w1 : wrap64 (0 + 1) = 1 := by decide +kernel
    simp only [if_true, Option.bind_some, word_open.l0, l1, rd_zero, top31, Int.zero_lt_one, Int.le_refl, w1]
    by_cases c : w ≥ 4294967296
    · rw [if_pos (by omega)]; simp [c]
    · rw [if_neg (by omega)]; simp [c]
  · by_cases h2 : f = 2
    · subst h2
      have l1 : (([w] : List Int).length : Int) = 1 := rfl
      have w1 : wrap64 (0 + 1) = 1 := by decide +kernel
      simp only [show (¬ ((2 : Int) = 1)) by decide, if_false, if_true, Option.bind_some, word_open.l0, l1, rd_zero, top63, Int.zero_lt_one, Int.le_refl, w1]
      rw [if_neg (by omega)]
      simp
    · simp [h1, h2]
theorem shape_inf1 : word_shape_inf.f 23 255 2147483648 = some 2139095040 := by decide +kernel
theorem shape_inf2 : word_shape_inf.f 52 2047 9223372036854775808 = some 9218868437227405312 := by decide +kernel
theorem shl23 : shl .u64 1 23 = 8388608 := by decide +kernel
theorem shl52 : shl .u64 1 52 = 4503599627370496 := by decide +kernel
theorem shape_class {f w : Int} (h : Gd f w) : word_shape_class.f (shp f).1 (shp f).2.1 (shp f).2.2 w = some (cl f w) := by
  rcases h with ⟨rfl, h0, h1⟩ | ⟨rfl, h0, h1⟩
  · have e1 : shp 1 = (23, 255, 2147483648) := rfl
    rw [e1]
    simp only [word_shape_class.f, andNot31 h0 h1, shape_inf1, Option.bind_some, shl23, cl, cls, one, infw, sgn, if_true]
    repeat' split
    all_goals first | rfl | (exfalso; omega)
  · have e1 : shp 2 = (52, 2047, 9223372036854775808) := rfl
    rw [e1]
    simp only [word_shape_class.f, andNot63 h0 h1, shape_inf2, Option.bind_some, shl52, cl, cls, one, infw, sgn]
    simp only [show (¬ ((2 : Int) = 1)) by decide, if_false]
    repeat' split
    all_goals first | rfl | (exfalso; omega)
theorem split_good (k : Nat) {f w : Int} (h : Gd f w) : word_Split.f (k + 2) f w = some (decide (w ≥ sgn f), w % sgn f / one f, w % one f, 0) := by
  unfold word_Split.f
  rw [open_one k f w h.u, h.err]
  rcases h with ⟨rfl, h0, h1⟩ | ⟨rfl, h0, h1⟩
  · have e1 : shp 1 = (23, 255, 2147483648) := rfl
    have e2 : IntKind.u64.wrap (8388608 - 1) = 8388607 := by decide +kernel
    have e3 : shr .u64 (w % 2147483648) 23 = w % 2147483648 / 8388608 := rfl
    rw [e1]
    simp only [Option.bind_some, if_true, word_shape_split.f, andNot31 h0 h1, and31 h0 h1, shl23, e2, e3, sgn, one]
    rw [and23 (by omega) (by omega)]
    have e4 : wrap64 (w % 2147483648 / 8388608) = w % 2147483648 / 8388608 := by unfold wrap64; omega
    have e5 : w % 2147483648 % 8388608 = w % 8388608 := by omega
    rw [e4, e5]
    by_cases c : w ≥ 2147483648 <;> simp [c]
  · have e1 : shp 2 = (52, 2047, 9223372036854775808) := rfl
    have e2 : IntKind.u64.wrap (4503599627370496 - 1) = 4503599627370495 := by decide +kernel
    have e3 : shr .u64 (w % 9223372036854775808) 52 = w % 9223372036854775808 / 4503599627370496 := rfl
    rw [e1]
    simp only [Option.bind_some, if_true, word_shape_split.f, andNot63 h0 h1, and63 h0 h1, shl52, e2, e3, sgn, one]
    rw [and52 (by omega) (by omega)]
    have e4 : wrap64 (w % 9223372036854775808 / 4503599627370496) = w % 9223372036854775808 / 4503599627370496 := by unfold wrap64; omega
    have e5 : w % 9223372036854775808 % 4503599627370496 = w % 4503599627370496 := by omega
    rw [e4, e5]
    by_cases c : w ≥ 9223372036854775808 <;> simp [c]
theorem split_bad (k : Nat) {f w : Int} (hu : U w) (h : err f w ≠ 0) : word_Split.f (k + 2) f w = some (false, 0, 0, err f w) := by
  unfold word_Split.f
  rw [open_one k f w hu]
  simp only [Option.bind_some]
  rw [if_neg h]
theorem class_good (k : Nat) {f w : Int} (h : Gd f w) : word_Class.f (k + 2) f w = some (cl f w, 0) := by
  unfold word_Class.f
  rw [open_one k f w h.u, h.err]
  simp only [Option.bind_some, if_true, shape_class h]
theorem class_bad (k : Nat) {f w : Int} (hu : U w) (h : err f w ≠ 0) : word_Class.f (k + 2) f w = some (0, err f w) := by
  unfold word_Class.f
  rw [open_one k f w hu]
  simp only [Option.bind_some]
  rw [if_neg h]
theorem good_word (k : Nat) {f w : Int} (hu : U w) : word_Good.f (k + 2) f w = some (err f w) := by
  unfold word_Good.f
  rw [open_one k f w hu]
  simp only [Option.bind_some]
theorem ref_Is (f : Int) : cutplaneref03_Is.f f = some (decide (f = 1 ∨ f = 2)) := by
  unfold cutplaneref03_Is.f
  by_cases h1 : f = 1
  · simp [h1]
  · rw [if_neg h1]; by_cases h2 : f = 2 <;> simp [h1, h2]
theorem ref_Good (f w : Int) : cutplaneref03_Good.f f w = some (err f w) := by
  unfold cutplaneref03_Good.f err
  rw [ref_Is]
  by_cases h1 : f = 1
  · subst h1; simp
    split <;> rfl
  · by_cases h2 : f = 2 <;> simp [h1, h2]
theorem ref_Split (f : Int) {w : Int} (hu : U w) : cutplaneref03_Split.f f w = some (decide (w ≥ sgn f), w % sgn f / one f, w % one f) := by
  unfold cutplaneref03_Split.f sgn one
  unfold U at hu
  rw [if_pos hu]
  split <;> rfl
theorem ref_Most (f : Int) : cutplaneref03_Most.f f = some (if f = 1 then 255 else 2047) := by unfold cutplaneref03_Most.f; split <;> rfl
theorem ref_Class (k : Nat) (f : Int) {w : Int} (hu : U w) : cutplaneref03_Class.f (k + 1) f w = some (cl f w) := by
  obtain ⟨h0, h1⟩ := hu
  unfold cutplaneref03_Class.f
  rw [ref_Split f ⟨h0, h1⟩]
  simp only [Option.bind_some, cutplaneref03_Class.j0, ref_Most]
  unfold cl cls sgn one infw
  by_cases hf : f = 1
  · simp only [hf, if_true]
    by_cases a : w % 2147483648 / 8388608 = 0
    · rw [if_pos a]
      by_cases b : w % 8388608 = 0
      · rw [if_pos (by simp [b]), if_pos (by omega)]
      · rw [if_neg (by simp [b]), if_pos a, if_neg (by omega), if_pos (by omega)]
    · rw [if_neg a, if_neg (by decide), if_neg a]
      by_cases c : w % 2147483648 / 8388608 < 255
      · rw [if_pos c, if_neg (by omega), if_neg (by omega), if_pos (by omega)]
      · rw [if_neg c]
        by_cases d : w % 8388608 = 0
        · rw [if_pos d, if_neg (by omega), if_neg (by omega), if_neg (by omega), if_pos (by omega)]
        · rw [if_neg d, if_neg (by omega), if_neg (by omega), if_neg (by omega), if_neg (by omega)]
  · simp only [hf, if_false]
    by_cases a : w % 9223372036854775808 / 4503599627370496 = 0
    · rw [if_pos a]
      by_cases b : w % 4503599627370496 = 0
      · rw [if_pos (by simp [b]), if_pos (by omega)]
      · rw [if_neg (by simp [b]), if_pos a, if_neg (by omega), if_pos (by omega)]
    · rw [if_neg a, if_neg (by decide), if_neg a]
      by_cases c : w % 9223372036854775808 / 4503599627370496 < 2047
      · rw [if_pos c, if_neg (by omega), if_neg (by omega), if_pos (by omega)]
      · rw [if_neg c]
        by_cases d : w % 4503599627370496 = 0
        · rw [if_pos d, if_neg (by omega), if_neg (by omega), if_neg (by omega), if_pos (by omega)]
        · rw [if_neg d, if_neg (by omega), if_neg (by omega), if_neg (by omega), if_neg (by omega)]
theorem ref_Sign (f : Int) : cutplaneref03_Sign.f f = some (sgn f) := by unfold cutplaneref03_Sign.f sgn; split <;> rfl
theorem ref_Frac (f : Int) : cutplaneref03_Frac.f f = some (if f = 1 then 23 else 52) := by unfold cutplaneref03_Frac.f; split <;> rfl
def most (f : Int) : Int := if f = 1 then 255 else 2047
def Fit (f e fr : Int) : Prop := 0 ≤ e ∧ e ≤ most f ∧ fr < one f
def jw (f : Int) (b : Bool) (e fr : Int) : Int := if b then e * one f + fr + sgn f else e * one f + fr
theorem open_nil' (k : Nat) (f : Int) : word_open.f (k + 1) f ([] : List Int) = some ((shp f).1, (shp f).2.1, (shp f).2.2, if f = 1 ∨ f = 2 then 0 else 4) := open_nil k f
theorem div_zero_iff {x P : Int} (hP : 0 < P) (h0 : 0 ≤ x) : x / P = 0 ↔ x < P := by
  constructor
  · intro h
    by_cases c : x < P
    · exact c
    · have : 1 ≤ x / P := (Int.le_ediv_iff_mul_le hP).2 (by omega)
      omega
  · intro h; exact Int.ediv_eq_zero_of_lt h0 h
theorem shape_join {f : Int} (hf : f = 1 ∨ f = 2) {b : Bool} {e fr : Int} (h : Fit f e fr) (h0 : 0 ≤ fr) :
    word_shape_join.f (shp f).1 (shp f).2.1 (shp f).2.2 b e fr = some (jw f b e fr) := by
  obtain ⟨a1, a2, a3⟩ := h
  unfold word_shape_join.f jw
  rcases hf with rfl | rfl
  · have e1 : shp 1 = (23, 255, 2147483648) := rfl
    have a4 : e ≤ 255 := a2
    have a5 : fr < 8388608 := a3
    have e2 : shl .u64 (IntKind.u64.wrap e) 23 = e * 8388608 := by
      have : shl .u64 (IntKind.u64.wrap e) 23 = IntKind.u64.wrap (IntKind.u64.wrap e * 8388608) := rfl
      rw [this, wrapu64, wrapu64]; omega
    rw [e1]
    simp only [e2, one, sgn, if_true]
    rw [join23 (by omega) (by omega) h0 (by omega), if_pos (by decide), or31 (by omega) (by omega)]
    cases b <;> rfl
  · have e1 : shp 2 = (52, 2047, 9223372036854775808) := rfl
    have a4 : e ≤ 2047 := a2
    have a5 : fr < 4503599627370496 := a3
    have e2 : shl .u64 (IntKind.u64.wrap e) 52 = e * 4503599627370496 := by
      have : shl .u64 (IntKind.u64.wrap e) 52 = IntKind.u64.wrap (IntKind.u64.wrap e * 4503599627370496) := rfl
      rw [this, wrapu64, wrapu64]; omega
    rw [e1]
    simp only [e2, one, sgn, show (¬ ((2 : Int) = 1)) by decide, if_false]
    rw [join52 (by omega) (by omega) h0 (by omega), if_pos (by decide), or63 (by omega) (by omega)]
    cases b <;> rfl
theorem join_good (k : Nat) {f : Int} (hf : f = 1 ∨ f = 2) {b : Bool} {e fr : Int} (h : Fit f e fr) (h0 : 0 ≤ fr) : word_Join.f (k + 1) f b e fr = some (jw f b e fr, 0) := by
  unfold word_Join.f
  rw [open_nil' k f]
  have hj := shape_join hf (b := b) h h0
  obtain ⟨a1, a2, a3⟩ := h
  have c1 : (shp f).2.1 = most f := by rcases hf with rfl | rfl <;> rfl
  have c2 : 0 ≤ (shp f).1 := by rcases hf with rfl | rfl <;> decide
  have c3 : shr .u64 fr (shp f).1 = 0 := by
    rcases hf with rfl | rfl
    · exact (div_zero_iff (P := 8388608) (by decide) h0).2 a3
    · exact (div_zero_iff (P := 4503599627370496) (by decide) h0).2 a3
  simp only [Option.bind_some, if_pos hf, if_true]
  rw [if_neg (by omega), if_neg (by omega), if_pos c2, if_pos c3, hj]
  rfl
theorem join_misfit (k : Nat) {f : Int} (hf : f = 1 ∨ f = 2) {b : Bool} {e fr : Int} (h : ¬ Fit f e fr) (h0 : 0 ≤ fr) : word_Join.f (k + 1) f b e fr = some (0, 2) := by
  unfold word_Join.f
  rw [open_nil' k f]
  have c1 : (shp f).2.1 = most f := by rcases hf with rfl | rfl <;> rfl
  have c2 : 0 ≤ (shp f).1 := by rcases hf with rfl | rfl <;> decide
  have c3 : shr .u64 fr (shp f).1 = 0 ↔ fr < one f := by
    rcases hf with rfl | rfl
    · exact div_zero_iff (P := 8388608) (by decide) h0
    · exact div_zero_iff (P := 4503599627370496) (by decide) h0
  simp only [Option.bind_some, if_pos hf, if_true]
  by_cases d1 : e < 0
  · rw [if_pos d1]
  · rw [if_neg d1]
    by_cases d2 : e > most f
    · rw [if_pos (by omega)]
    · rw [if_neg (by omega), if_pos c2, if_neg]
      intro c
      exact h ⟨by omega, by omega, c3.1 c⟩
theorem join_nof (k : Nat) {f : Int} (hf : ¬ (f = 1 ∨ f = 2)) {b : Bool} {e fr : Int} : word_Join.f (k + 1) f b e fr = some (0, 4) := by
  unfold word_Join.f
  rw [open_nil' k f]
  simp only [Option.bind_some, if_neg hf]
  rw [if_neg (by decide)]
theorem ref_Join {f : Int} (hf : f = 1 ∨ f = 2) {b : Bool} {e fr : Int} (h : Fit f e fr) (h0 : 0 ≤ fr) : cutplaneref03_Join.f f b e fr = some (jw f b e fr) := by
  obtain ⟨a1, a2, a3⟩ := h
  unfold cutplaneref03_Join.f jw
  rw [ref_Frac, ref_Sign]
  rcases hf with rfl | rfl
  · have a4 : e ≤ 255 := a2
    have a5 : fr < 8388608 := a3
    have e2 : shl .u64 (IntKind.u64.wrap e) 23 = e * 8388608 := by
      have : shl .u64 (IntKind.u64.wrap e) 23 = IntKind.u64.wrap (IntKind.u64.wrap e * 8388608) := rfl
      rw [this, wrapu64, wrapu64]; omega
    simp only [Option.bind_some, if_true, e2, one, sgn]
    simp only [wrapu64]
    rw [if_pos (by decide), Int.emod_eq_of_lt (a := e * 8388608 + fr) (by omega) (by omega), Int.emod_eq_of_lt (a := e * 8388608 + fr + 2147483648) (by omega) (by omega)]
    cases b <;> rfl
  · have a4 : e ≤ 2047 := a2
    have a5 : fr < 4503599627370496 := a3
    have e2 : shl .u64 (IntKind.u64.wrap e) 52 = e * 4503599627370496 := by
      have : shl .u64 (IntKind.u64.wrap e) 52 = IntKind.u64.wrap (IntKind.u64.wrap e * 4503599627370496) := rfl
      rw [this, wrapu64, wrapu64]; omega
    simp only [Option.bind_some, show (¬ ((2 : Int) = 1)) by decide, if_false, e2, one, sgn]
    simp only [wrapu64]
    rw [if_pos (by decide), Int.emod_eq_of_lt (a := e * 4503599627370496 + fr) (by omega) (by omega), Int.emod_eq_of_lt (a := e * 4503599627370496 + fr + 9223372036854775808) (by omega) (by omega)]
    cases b <;> rfl
theorem known03 (k : Nat) : cutplanelaw03_known.f (k + 2) = some true := by
  unfold cutplanelaw03_known.f
  rw [show k + 2 = (k + 1) + 1 from rfl, join_good (k + 1) (f := 1) (.inl rfl) (by unfold Fit most one; decide) (by decide), split_good k (f := 2) (.inr ⟨rfl, by decide, by decide⟩)]
  decide +kernel
end Go.Proofs.Ythiklmgdmaemgaa.PA
end

section
namespace Go.Proofs.Ythiklmgdmaemgaa.Pure
open Go.RowKit Go.Proofs.Ythiklmgdmaemgaa.PA Go.Proofs.YthiklmgdmaemgaaW.PrintWords Go.Proofs.YthiklmgdmaemgaaW.PrintLast Go.Proofs.Ythiklmgdmaemgaa.Wd
set_option linter.unusedSimpArgs false
set_option linter.unusedVariables false
theorem ref_Fits {f : Int} (hf : f = 1 ∨ f = 2) {b : Bool} {e fr : Int} (h0 : 0 ≤ fr) : ∃ r, cutplaneref03_Fits.f f b e fr = some r ∧ (r = true ↔ Fit f e fr) := by
  unfold cutplaneref03_Fits.f Fit
  rw [ref_Most, ref_Frac]
  have c1 : (if f = 1 then (255 : Int) else 2047) = most f := rfl
  have c3 : shr .u64 fr (if f = 1 then (23 : Int) else 52) = 0 ↔ fr < one f := by
    rcases hf with rfl | rfl
    · exact div_zero_iff (P := 8388608) (by decide) h0
    · exact div_zero_iff (P := 4503599627370496) (by decide) h0
  have c2 : 0 ≤ (if f = 1 then (23 : Int) else 52) := by rcases hf with rfl | rfl <;> decide
  by_cases d1 : e ≥ 0
  · rw [if_pos d1]
    simp only [Option.bind_some, c1]
    by_cases d2 : e ≤ most f
    · rw [if_pos d2, if_pos c2]
      exact ⟨_, rfl, by rw [beq_iff_eq, c3]; exact ⟨fun h => ⟨d1, d2, h⟩, fun h => h.2.2⟩⟩
    · rw [if_neg d2]
      exact ⟨_, rfl, by simp [d2]⟩
  · rw [if_neg d1]
    exact ⟨_, rfl, by constructor; intro h; exact absurd h (by decide); intro h; exact absurd h.1 d1⟩
theorem joins {f e fr : Int} {b : Bool} (h0 : 0 ≤ fr) :
    ((word_Join.f 6 f b e fr).bind fun bt242 => ((cutplaneref03_Is.f f).bind fun t244 => (if t244 = true then ((cutplaneref03_Fits.f f b e fr).bind fun t245 => (if t245 = true then ((cutplaneref03_Join.f f b e fr).bind fun t246 => ((cutplanelaw03_is.f bt242.1 bt242.2 t246 0).bind fun t247 => (if t247 = true then ((cutplanelaw03_known.f 6).bind fun t248 => (some t248)) else (none)))) else ((cutplanelaw03_is.f bt242.1 bt242.2 0 2).bind fun t249 => (if t249 = true then ((cutplanelaw03_known.f 6).bind fun t250 => (some t250)) else (none))))) else ((cutplanelaw03_is.f bt242.1 bt242.2 0 4).bind fun t251 => (if t251 = true then ((cutplanelaw03_known.f 6).bind fun t252 => (some t252)) else (none)))))) = some true := by
  rw [ref_Is]
  by_cases hf : f = 1 ∨ f = 2
  · obtain ⟨r, hr, hi⟩ := ref_Fits hf (b := b) (e := e) h0
    by_cases hx : Fit f e fr
    · have hr' : r = true := hi.2 hx
      subst hr'
      rw [join_good 5 hf hx h0, hr, ref_Join hf hx h0]
      simp only [Option.bind_some, hf, decide_true, if_true, cutplanelaw03_is.f, known03 4]
      rfl
    · have hr' : r = false := by cases r; rfl; exact absurd (hi.1 rfl) hx
      subst hr'
      rw [join_misfit 5 hf hx h0, hr]
      simp only [Option.bind_some, hf, decide_true, if_true, cutplanelaw03_is.f, known03 4]
      rfl
  · rw [join_nof 5 hf]
    simp only [Option.bind_some, hf, decide_false, cutplanelaw03_is.f, known03 4]
    rfl
theorem WordFields : cutplanelaw03_WordFields.Pure := by
  intro f w b e fr _ hw _ hx
  have hu := u_of hw
  have h0 := (u_of hx).1
  refine ⟨6, ?_⟩
  unfold cutplanelaw03_WordFields.f
  rw [ref_Good, good_word 4 hu]
  have hj := joins (f := f) (e := e) (b := b) h0
  by_cases he : err f w = 0
  · have h := gd_of he hu
    rw [split_good 4 h, class_good 4 h, ref_Split f hu, ref_Class 5 f hu, he]
    simp only [Option.bind_some, if_true, beq_self_eq_true, Bool.not_true, Bool.or_self, Bool.false_eq_true, if_false]
    exact hj
  · rw [split_bad 4 hu he, class_bad 4 hu he]
    simp only [Option.bind_some, if_true, if_neg he, beq_self_eq_true, Bool.not_true, Bool.or_self, Bool.false_eq_true, if_false]
    exact hj
end Go.Proofs.Ythiklmgdmaemgaa.Pure
end
