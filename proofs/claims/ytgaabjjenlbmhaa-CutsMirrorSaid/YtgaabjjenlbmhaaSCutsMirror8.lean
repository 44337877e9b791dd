/- Steps of Go functions that the law CutsMirror uses, told as plain Lean functions, each with the proof that its call comes to what it tells; words on memory; plain facts. No condition beyond those that each text names. -/
import Derived.Laws.BitsAllLaws
import Derived.Laws.BitsLemmas
import Derived.OpenShut
import Derived.Test.YtgaabjjenlbmhaaProg
import Derived.WalkMore
import Derived.Below
import Derived.Deep.Draws
import Derived.Deep.AppendLies
import Derived.Maps.AppendAt
import Derived.OwnWalk
import Derived.Laws.BytesArg
import Derived.Laws.MakeOwn
import Derived.Laws.OwnMore
import Derived.Deep.OwnRows
import Derived.Tactics
import Derived.Lib.ConvBytes
import Derived.Laws.Slices
import Derived.WalkKit
import Derived.KernelRfl
import Derived.RowKit3
import Derived.Deep.LoopGhost
import Derived.Deep.QuietTactic
import Derived.BigQuiet
import Derived.WideLaws
import Derived.Deep.DeepCutAuto
import Derived.Deep.CutBlock
import Derived.Deep.RegionHeld3
import Derived.Laws.Rows
import Derived.Lib.AppendStr
import Derived.ArgAppend
import Derived.Laws.IdiomCopy
import Derived.OrdersHeld
import Derived.RowKit
import Derived.Laws.StructEq
import Derived.Lib.EndianBits
import Derived.Test.YtgaabjjenlbmhaaSCutsMirror0
import Derived.Test.YtgaabjjenlbmhaaSCutsMirror1
import Derived.Test.YtgaabjjenlbmhaaSCutsMirror2
import Derived.Test.YtgaabjjenlbmhaaSCutsMirror3
import Derived.Test.YtgaabjjenlbmhaaSCutsMirror4
import Derived.Test.YtgaabjjenlbmhaaSCutsMirror5
import Derived.Test.YtgaabjjenlbmhaaSCutsMirror6
import Derived.Test.YtgaabjjenlbmhaaSCutsMirror7
section
namespace Go.Proofs.Ytgaabjjenlbmhaa.Wd
open Go
theorem nat_and_lt {n a : Nat} (h : a < 2 ^ n) : a &&& 2 ^ n = 0 := by
  apply Nat.eq_of_testBit_eq
  intro i
  rw [Nat.testBit_and, Nat.testBit_two_pow, Nat.zero_testBit]
  by_cases e : n = i
  · subst e; simp [Nat.testBit_lt_two_pow h]
  · simp [e]
theorem nat_and_ge {n l : Nat} (h : l < 2 ^ n) : (2 ^ n + l) &&& 2 ^ n = 2 ^ n := by
  apply Nat.eq_of_testBit_eq
  intro i
  rw [Nat.testBit_and, Nat.testBit_two_pow]
  by_cases e : n = i
  · subst e; rw [Nat.testBit_two_pow_add_eq, Nat.testBit_lt_two_pow h]; simp
  · simp [e]
theorem nat_or_lt {n a : Nat} (h : a < 2 ^ n) : a ||| 2 ^ n = 2 ^ n + a := by
  have := Nat.two_pow_add_eq_or_of_lt h 1
  rw [Nat.mul_one] at this
  rw [this, Nat.or_comm]
theorem nat_mask {n a : Nat} (hn : n ≤ 63) (h : a < 2 ^ (n + 1)) : a &&& (2 ^ 64 - (2 ^ n + 1)) = a % 2 ^ n := by
  apply Nat.eq_of_testBit_eq
  intro i
  rw [Nat.testBit_and, Nat.testBit_mod_two_pow, Nat.testBit_two_pow_sub_succ (by exact Nat.pow_lt_pow_right (by decide) (by omega)), Nat.testBit_two_pow]
  by_cases e : i < n
  · simp [e, show n ≠ i by omega, show i < 64 by omega]
  · by_cases e2 : n = i
    · subst e2; simp
    · have : a.testBit i = false := Nat.testBit_lt_two_pow (Nat.lt_of_lt_of_le h (Nat.pow_le_pow_right (by decide) (by omega)))
      simp [this]
section
variable {w : Int}
theorem andNot31 (h0 : 0 ≤ w) (h1 : w < 4294967296) : Go.bits .andNot .u64 w 2147483648 = w % 2147483648 := by
  obtain ⟨a, rfl⟩ := Int.eq_ofNat_of_zero_le h0
  have ha : a < 2 ^ (31 + 1) := by omega
  have e := u64_andNot_nat a 2147483648 (by omega) (by decide)
  have m : a &&& 18446744071562067967 = a % 2147483648 := nat_mask (n := 31) (by decide) ha
  rw [show ((2147483648 : Int)) = ((2147483648 : Nat) : Int) from rfl, e, show (18446744073709551615 - 2147483648 : Nat) = 18446744071562067967 from rfl, m]
  omega
theorem andNot63 (h0 : 0 ≤ w) (h1 : w < 18446744073709551616) : Go.bits .andNot .u64 w 9223372036854775808 = w % 9223372036854775808 := by
  obtain ⟨a, rfl⟩ := Int.eq_ofNat_of_zero_le h0
  have ha : a < 2 ^ (63 + 1) := by omega
  have e := u64_andNot_nat a 9223372036854775808 (by omega) (by decide)
  have m : a &&& 9223372036854775807 = a % 9223372036854775808 := nat_mask (n := 63) (by decide) ha
  rw [show ((9223372036854775808 : Int)) = ((9223372036854775808 : Nat) : Int) from rfl, e, show (18446744073709551615 - 9223372036854775808 : Nat) = 9223372036854775807 from rfl, m]
  omega
theorem and31 (h0 : 0 ≤ w) (h1 : w < 4294967296) : Go.bits .and .u64 w 2147483648 = if w ≥ 2147483648 then 2147483648 else 0 := by
  obtain ⟨a, rfl⟩ := Int.eq_ofNat_of_zero_le h0
  have e := u64_and_nat a 2147483648 (by omega) (by decide)
  rw [show ((2147483648 : Int)) = ((2147483648 : Nat) : Int) from rfl, e]
  by_cases c : a < 2 ^ 31
  · have m : a &&& 2147483648 = 0 := nat_and_lt (n := 31) c
    rw [m, if_neg (by omega)]; rfl
  · obtain ⟨l, rfl⟩ : ∃ l, a = 2 ^ 31 + l := ⟨a - 2 ^ 31, by omega⟩
    have m : (2 ^ 31 + l) &&& 2147483648 = 2147483648 := nat_and_ge (n := 31) (l := l) (by omega)
    rw [m, if_pos (by omega)]
theorem and63 (h0 : 0 ≤ w) (h1 : w < 18446744073709551616) : Go.bits .and .u64 w 9223372036854775808 = if w ≥ 9223372036854775808 then 9223372036854775808 else 0 := by
  obtain ⟨a, rfl⟩ := Int.eq_ofNat_of_zero_le h0
  have e := u64_and_nat a 9223372036854775808 (by omega) (by decide)
  rw [show ((9223372036854775808 : Int)) = ((9223372036854775808 : Nat) : Int) from rfl, e]
  by_cases c : a < 2 ^ 63
  · have m : a &&& 9223372036854775808 = 0 := nat_and_lt (n := 63) c
    rw [m, if_neg (by omega)]; rfl
  · obtain ⟨l, rfl⟩ : ∃ l, a = 2 ^ 63 + l := ⟨a - 2 ^ 63, by omega⟩
    have m : (2 ^ 63 + l) &&& 9223372036854775808 = 9223372036854775808 := nat_and_ge (n := 63) (l := l) (by omega)
    rw [m, if_pos (by omega)]
theorem or31 (h0 : 0 ≤ w) (h1 : w < 2147483648) : Go.bits .or .u64 w 2147483648 = w + 2147483648 := by
  obtain ⟨a, rfl⟩ := Int.eq_ofNat_of_zero_le h0
  have e := u64_or_nat a 2147483648 (by omega) (by decide)
  have m : a ||| 2147483648 = 2 ^ 31 + a := nat_or_lt (n := 31) (by omega)
  rw [show ((2147483648 : Int)) = ((2147483648 : Nat) : Int) from rfl, e, m]
  omega
theorem or63 (h0 : 0 ≤ w) (h1 : w < 9223372036854775808) : Go.bits .or .u64 w 9223372036854775808 = w + 9223372036854775808 := by
  obtain ⟨a, rfl⟩ := Int.eq_ofNat_of_zero_le h0
  have e := u64_or_nat a 9223372036854775808 (by omega) (by decide)
  have m : a ||| 9223372036854775808 = 2 ^ 63 + a := nat_or_lt (n := 63) (by omega)
  rw [show ((9223372036854775808 : Int)) = ((9223372036854775808 : Nat) : Int) from rfl, e, m]
  omega
theorem wrapu64 (n : Int) : IntKind.u64.wrap n = n % 18446744073709551616 := by simp [IntKind.wrap, IntKind.bits, IntKind.signed]
theorem wraps_u64 (n : Int) (h₀ : 0 ≤ n) (h₁ : n < 2 ^ 64) : IntKind.u64.wrap n = n := by
  rw [wrapu64]; omega
theorem and23 (h0 : 0 ≤ w) (h1 : w < 18446744073709551616) : Go.bits .and .u64 w 8388607 = w % 8388608 :=
  bits_mask .u64 64 (by decide) wraps_u64 23 (by decide) w h0 (by omega)
theorem and52 (h0 : 0 ≤ w) (h1 : w < 18446744073709551616) : Go.bits .and .u64 w 4503599627370495 = w % 4503599627370496 :=
  bits_mask .u64 64 (by decide) wraps_u64 52 (by decide) w h0 (by omega)
end
end Go.Proofs.Ytgaabjjenlbmhaa.Wd
end

section
namespace Go.Proofs.Ytgaabjjenlbmhaa.PA
open Go.RowKit Go.Proofs.YtgaabjjenlbmhaaW.PrintWords Go.Proofs.YtgaabjjenlbmhaaW.PrintLast Go.Proofs.YtgaabjjenlbmhaaW.PrintMore Go.Proofs.Ytgaabjjenlbmhaa.Wd
set_option linter.unusedSimpArgs false
set_option linter.unusedVariables false
/-- the class of a size: P one above the fractions, I the infinite size -/
def cls (P I s : Int) : Int := if s = 0 then 1 else if s < P then 2 else if s < I then 3 else if s = I then 4 else 5
def sgn (f : Int) : Int := if f = 1 then 2147483648 else 9223372036854775808
def one (f : Int) : Int := if f = 1 then 8388608 else 4503599627370496
def infw (f : Int) : Int := if f = 1 then 2139095040 else 9218868437227405312
def nanw (f : Int) : Int := if f = 1 then 2143289344 else 9221120237041090560
def cl (f w : Int) : Int := cls (one f) (infw f) (w % sgn f)
/-- the error of a word, as Good tells it -/
def err (f w : Int) : Int := if f = 1 then (if w ≥ 4294967296 then 6 else 0) else if f = 2 then 0 else 4
/-- a good word -/
def Gd (f w : Int) : Prop := (f = 1 ∧ 0 ≤ w ∧ w < 4294967296) ∨ (f = 2 ∧ 0 ≤ w ∧ w < 18446744073709551616)
def U (w : Int) : Prop := 0 ≤ w ∧ w < 18446744073709551616
theorem Gd.u {f w : Int} (h : Gd f w) : U w := by rcases h with ⟨_, a, b⟩ | ⟨_, a, b⟩ <;> exact ⟨a, by omega⟩
theorem Gd.err {f w : Int} (h : Gd f w) : err f w = 0 := by
  rcases h with ⟨rfl, a, b⟩ | ⟨rfl, a, b⟩
  · simp [PA.err]; omega
  · simp [PA.err]
theorem gd_of {f w : Int} (h : err f w = 0) (hu : U w) : Gd f w := by
  unfold err at h
  unfold U at hu
  unfold Gd
  split at h
  · split at h
    · omega
    · omega
  · split at h <;> omega
theorem u_of {w : Int} (h : (Lit.int .u64 w).wf = true) : U w := by have := bounds_u64 h; exact ⟨by omega, by omega⟩
theorem rd_zero (w : Int) : rd [w] 0 = w := by rfl
theorem top31 : Go.bits .or .u64 2147483648 (IntKind.u64.wrap (2147483648 - 1)) = 4294967295 := by decide +kernel
theorem top63 : Go.bits .or .u64 9223372036854775808 (IntKind.u64.wrap (9223372036854775808 - 1)) = 18446744073709551615 := by decide +kernel
/-- the shape of a format -/
def shp (f : Int) : Int × Int × Int := if f = 1 then (23, 255, 2147483648) else if f = 2 then (52, 2047, 9223372036854775808) else (0, 0, 0)
theorem open_nil (k : Nat) (f : Int) : word_open.f (k + 1) f [] = some ((shp f).1, (shp f).2.1, (shp f).2.2, if f = 1 ∨ f = 2 then 0 else 4) := by
  unfold word_open.f word_shapeOf.f shp
  by_cases h1 : f = 1
  · subst h1; simp [word_open.l0]
  · by_cases h2 : f = 2
    · subst h2; simp [word_open.l0]
    · simp [h1, h2]
theorem open_one (k : Nat) (f w : Int) (hu : U w) : word_open.f (k + 2) f [w] = some ((shp f).1, (shp f).2.1, (shp f).2.2, err f w) := by
  obtain ⟨h0, h3⟩ := hu
  unfold word_open.f word_shapeOf.f shp err
  by_cases h1 : f = 1
  · subst h1
    have l1 : (([w] : List Int).length : Int) = 1 := rfl
    have w1 : wrap64 (0 + 1) = 1 := by decide +kernel
    simp only [if_true, Option.bind_some, word_open.l0, l1, rd_zero, top31, Int.zero_lt_one, Int.le_refl, w1]
    by_cases c : w ≥ 4294967296
    · rw [if_pos (by omega)]; simp [c]
    · rw [if_neg (by omega)]; simp [c]
  · by_cases h2 : f = 2
    · subst h2
      have l1 : (([w] : List Int).length : Int) = 1 := rfl
      have w1 : wrap64 (0 + 1) = 1 := by decide +kernel
      simp only [show (¬ ((2 : Int) = 1)) by decide, if_false, if_true, Option.bind_some, word_open.l0, l1, rd_zero, top63, Int.zero_lt_one, Int.le_refl, w1]
      rw [if_neg (by omega)]
      simp
    · simp [h1, h2]
theorem shape_inf1 : word_shape_inf.f 23 255 2147483648 = some 2139095040 := by decide +kernel
theorem shape_inf2 : word_shape_inf.f 52 2047 9223372036854775808 = some 9218868437227405312 := by decide +kernel
theorem shape_none1 : word_shape_none.f 23 255 2147483648 = some 2143289344 := by decide +kernel
theorem shape_none2 : word_shape_none.f 52 2047 9223372036854775808 = some 9221120237041090560 := by decide +kernel
theorem shl23 : shl .u64 1 23 = 8388608 := by decide +kernel
theorem shl52 : shl .u64 1 52 = 4503599627370496 := by decide +kernel
theorem shape_class {f w : Int} (h : Gd f w) : word_shape_class.f (shp f).1 (shp f).2.1 (shp f).2.2 w = some (cl f w) := by
  rcases h with ⟨rfl, h0, h1⟩ | ⟨rfl, h0, h1⟩
  · have e1 : shp 1 = (23, 255, 2147483648) := rfl
    rw [e1]
    simp only [word_shape_class.f, andNot31 h0 h1, shape_inf1, Option.bind_some, shl23, cl, cls, one, infw, sgn, if_true]
    repeat' split
    all_goals first | rfl | (exfalso; omega)
  · have e1 : shp 2 = (52, 2047, 9223372036854775808) := rfl
    rw [e1]
    simp only [word_shape_class.f, andNot63 h0 h1, shape_inf2, Option.bind_some, shl52, cl, cls, one, infw, sgn]
    simp only [show (¬ ((2 : Int) = 1)) by decide, if_false]
    repeat' split
    all_goals first | rfl | (exfalso; omega)
theorem split_good (k : Nat) {f w : Int} (h : Gd f w) : word_Split.f (k + 2) f w = some (decide (w ≥ sgn f), w % sgn f / one f, w % one f, 0) := by
  unfold word_Split.f
  rw [open_one k f w h.u, h.err]
  rcases h with ⟨rfl, h0, h1⟩ | ⟨rfl, h0, h1⟩
  · have e1 : shp 1 = (23, 255, 2147483648) := rfl
    have e2 : IntKind.u64.wrap (8388608 - 1) = 8388607 := by decide +kernel
    have e3 : shr .u64 (w % 2147483648) 23 = w % 2147483648 / 8388608 := rfl
    rw [e1]
    simp only [Option.bind_some, if_true, word_shape_split.f, andNot31 h0 h1, and31 h0 h1, shl23, e2, e3, sgn, one]
    rw [and23 (by omega) (by omega)]
    have e4 : wrap64 (w % 2147483648 / 8388608) = w % 2147483648 / 8388608 := by unfold wrap64; omega
    have e5 : w % 2147483648 % 8388608 = w % 8388608 := by omega
    rw [e4, e5]
    by_cases c : w ≥ 2147483648 <;> simp [c]
  · have e1 : shp 2 = (52, 2047, 9223372036854775808) := rfl
    have e2 : IntKind.u64.wrap (4503599627370496 - 1) = 4503599627370495 := by decide +kernel
    have e3 : shr .u64 (w % 9223372036854775808) 52 = w % 9223372036854775808 / 4503599627370496 := rfl
    rw [e1]
    simp only [Option.bind_some, if_true, word_shape_split.f, andNot63 h0 h1, and63 h0 h1, shl52, e2, e3, sgn, one]
    rw [and52 (by omega) (by omega)]
    have e4 : wrap64 (w % 9223372036854775808 / 4503599627370496) = w % 9223372036854775808 / 4503599627370496 := by unfold wrap64; omega
    have e5 : w % 9223372036854775808 % 4503599627370496 = w % 4503599627370496 := by omega
    rw [e4, e5]
    by_cases c : w ≥ 9223372036854775808 <;> simp [c]
theorem class_good (k : Nat) {f w : Int} (h : Gd f w) : word_Class.f (k + 2) f w = some (cl f w, 0) := by
  unfold word_Class.f
  rw [open_one k f w h.u, h.err]
  simp only [Option.bind_some, if_true, shape_class h]
theorem good_word (k : Nat) {f w : Int} (hu : U w) : word_Good.f (k + 2) f w = some (err f w) := by
  unfold word_Good.f
  rw [open_one k f w hu]
  simp only [Option.bind_some]
theorem ref_Is (f : Int) : cutplaneref03_Is.f f = some (decide (f = 1 ∨ f = 2)) := by
  unfold cutplaneref03_Is.f
  by_cases h1 : f = 1
  · simp [h1]
  · rw [if_neg h1]; by_cases h2 : f = 2 <;> simp [h1, h2]
theorem ref_Good (f w : Int) : cutplaneref03_Good.f f w = some (err f w) := by
  unfold cutplaneref03_Good.f err
  rw [ref_Is]
  by_cases h1 : f = 1
  · subst h1; simp
    split <;> rfl
  · by_cases h2 : f = 2 <;> simp [h1, h2]
theorem ref_Split (f : Int) {w : Int} (hu : U w) : cutplaneref03_Split.f f w = some (decide (w ≥ sgn f), w % sgn f / one f, w % one f) := by
  unfold cutplaneref03_Split.f sgn one
  unfold U at hu
  rw [if_pos hu]
  split <;> rfl
theorem ref_Most (f : Int) : cutplaneref03_Most.f f = some (if f = 1 then 255 else 2047) := by unfold cutplaneref03_Most.f; split <;> rfl
theorem ref_Class (k : Nat) (f : Int) {w : Int} (hu : U w) : cutplaneref03_Class.f (k + 1) f w = some (cl f w) := by
  obtain ⟨h0, h1⟩ := hu
  unfold cutplaneref03_Class.f
  rw [ref_Split f ⟨h0, h1⟩]
  simp only [Option.bind_some, cutplaneref03_Class.j0, ref_Most]
  unfold cl cls sgn one infw
  by_cases hf : f = 1
  · simp only [hf, if_true]
    by_cases a : w % 2147483648 / 8388608 = 0
    · rw [if_pos a]
      by_cases b : w % 8388608 = 0
      · rw [if_pos (by simp [b]), if_pos (by omega)]
      · rw [if_neg (by simp [b]), if_pos a, if_neg (by omega), if_pos (by omega)]
    · rw [if_neg a, if_neg (by decide), if_neg a]
      by_cases c : w % 2147483648 / 8388608 < 255
      · rw [if_pos c, if_neg (by omega), if_neg (by omega), if_pos (by omega)]
      · rw [if_neg c]
        by_cases d : w % 8388608 = 0
        · rw [if_pos d, if_neg (by omega), if_neg (by omega), if_neg (by omega), if_pos (by omega)]
        · rw [if_neg d, if_neg (by omega), if_neg (by omega), if_neg (by omega), if_neg (by omega)]
  · simp only [hf, if_false]
    by_cases a : w % 9223372036854775808 / 4503599627370496 = 0
    · rw [if_pos a]
      by_cases b : w % 4503599627370496 = 0
      · rw [if_pos (by simp [b]), if_pos (by omega)]
      · rw [if_neg (by simp [b]), if_pos a, if_neg (by omega), if_pos (by omega)]
    · rw [if_neg a, if_neg (by decide), if_neg a]
      by_cases c : w % 9223372036854775808 / 4503599627370496 < 2047
      · rw [if_pos c, if_neg (by omega), if_neg (by omega), if_pos (by omega)]
      · rw [if_neg c]
        by_cases d : w % 4503599627370496 = 0
        · rw [if_pos d, if_neg (by omega), if_neg (by omega), if_neg (by omega), if_pos (by omega)]
        · rw [if_neg d, if_neg (by omega), if_neg (by omega), if_neg (by omega), if_neg (by omega)]
theorem ref_Sign (f : Int) : cutplaneref03_Sign.f f = some (sgn f) := by unfold cutplaneref03_Sign.f sgn; split <;> rfl
theorem ref_Frac (f : Int) : cutplaneref03_Frac.f f = some (if f = 1 then 23 else 52) := by unfold cutplaneref03_Frac.f; split <;> rfl
theorem ref_None (f : Int) : cutplaneref03_None.f f = some (nanw f) := by
  by_cases hf : f = 1
  · subst hf; decide +kernel
  · unfold cutplaneref03_None.f
    rw [ref_Most, ref_Frac]
    unfold nanw
    simp only [hf, if_false, Option.bind_some]
    have e : shl .u64 1 (wrap64 (52 - 1)) = 2251799813685248 := by decide +kernel
    have e0 : 0 ≤ wrap64 (52 - 1) := by decide +kernel
    have e1 : IntKind.u64.wrap (shl .u64 (IntKind.u64.wrap 2047) 52 + 2251799813685248) = 9221120237041090560 := by decide +kernel
    rw [if_pos e0, e]
    unfold cutplaneref03_Join.f
    rw [ref_Frac]
    simp [hf, e1]
theorem ref_Signed (f : Int) {w : Int} (hu : U w) (b : Bool) : cutplaneref03_Signed.f f w b = some (if b then w % sgn f + sgn f else w % sgn f) := by
  obtain ⟨h0, h1⟩ := hu
  unfold cutplaneref03_Signed.f
  rw [ref_Sign]
  simp only [Option.bind_some]
  have hs : sgn f = 2147483648 ∨ sgn f = 9223372036854775808 := by unfold sgn; split <;> simp
  have e : Int.tmod w (sgn f) = w % sgn f := Int.tmod_eq_emod_of_nonneg h0
  rw [if_neg (by omega), e, wrapu64]
  have e2 : (w % sgn f + sgn f) % 18446744073709551616 = w % sgn f + sgn f := by rcases hs with h | h <;> rw [h] <;> omega
  rw [e2]
  cases b <;> simp
def canw (f w : Int) : Int := if cl f w = 5 then nanw f else w
def flipw (f w : Int) : Int := if w ≥ sgn f then w - sgn f else w + sgn f
def negw (f w : Int) : Int := if cl f w = 5 then nanw f else flipw f w
def absw (f w : Int) : Int := if cl f w = 5 then nanw f else w % sgn f
theorem shape_none {f w : Int} (h : Gd f w) : word_shape_none.f (shp f).1 (shp f).2.1 (shp f).2.2 = some (nanw f) := by
  rcases h with ⟨rfl, _, _⟩ | ⟨rfl, _, _⟩
  · exact shape_none1
  · exact shape_none2
theorem turned_good (k : Nat) {f w : Int} (h : Gd f w) {g : Int → Int → Int → Option Int} {z : Int} (hg : g (shp f).1 (shp f).2.1 (shp f).2.2 = some z) :
    word_turned.f (k + 2) f w g = some (if cl f w = 5 then nanw f else z, 0) := by
  unfold word_turned.f
  rw [open_one k f w h.u, h.err]
  simp only [Option.bind_some, if_true, shape_class h, shape_none h, hg]
  split <;> rfl
theorem shp3 {f w : Int} (h : Gd f w) : (shp f).2.2 = sgn f := by
  rcases h with ⟨rfl, _, _⟩ | ⟨rfl, _, _⟩ <;> rfl
theorem abs_good (k : Nat) {f w : Int} (h : Gd f w) : word_Abs.f (k + 2) f w = some (absw f w, 0) := by
  unfold word_Abs.f
  rw [turned_good k h (z := w % sgn f) ?_]
  · rfl
  · unfold word_Abs_1.f
    rw [shp3 h]
    rcases h with ⟨rfl, h0, h1⟩ | ⟨rfl, h0, h1⟩
    · exact congrArg some (andNot31 h0 h1)
    · exact congrArg some (andNot63 h0 h1)
theorem sgn_cases (f : Int) : sgn f = 2147483648 ∨ sgn f = 9223372036854775808 := by unfold sgn; split <;> simp
theorem nan_gd {f w : Int} (h : Gd f w) : Gd f (nanw f) := by
  rcases h with ⟨rfl, _, _⟩ | ⟨rfl, _, _⟩
  · exact .inl ⟨rfl, by decide, by decide⟩
  · exact .inr ⟨rfl, by decide, by decide⟩
theorem flipw_gd {f w : Int} (h : Gd f w) : Gd f (flipw f w) := by
  unfold flipw sgn
  rcases h with ⟨rfl, h0, h1⟩ | ⟨rfl, h0, h1⟩
  · exact .inl ⟨rfl, by simp only [if_true]; split <;> omega, by simp only [if_true]; split <;> omega⟩
  · exact .inr ⟨rfl, by simp only [show (¬ ((2 : Int) = 1)) by decide, if_false]; split <;> omega, by simp only [show (¬ ((2 : Int) = 1)) by decide, if_false]; split <;> omega⟩
theorem neg_gd {f w : Int} (h : Gd f w) : Gd f (negw f w) := by unfold negw; split; exact nan_gd h; exact flipw_gd h
theorem can_gd {f w : Int} (h : Gd f w) : Gd f (canw f w) := by unfold canw; split; exact nan_gd h; exact h
theorem ref_Canon (k : Nat) (f : Int) {w : Int} (hu : U w) : cutplaneref03_Canon.f (k + 1) f w = some (canw f w) := by
  unfold cutplaneref03_Canon.f canw
  rw [ref_Class k f hu]
  simp only [Option.bind_some, ref_None]
  split <;> rfl
theorem open_nil' (k : Nat) (f : Int) : word_open.f (k + 1) f ([] : List Int) = some ((shp f).1, (shp f).2.1, (shp f).2.2, if f = 1 ∨ f = 2 then 0 else 4) := open_nil k f
theorem cl_flipw {f w : Int} (h : Gd f w) : cl f (flipw f w) = cl f w := by
  unfold cl
  have : flipw f w % sgn f = w % sgn f := by
    unfold flipw sgn
    rcases h with ⟨rfl, h0, h1⟩ | ⟨rfl, h0, h1⟩
    · simp only [if_true]; split <;> omega
    · simp only [show (¬ ((2 : Int) = 1)) by decide, if_false]; split <;> omega
  rw [this]
theorem cl_nan (f : Int) : cl f (nanw f) = 5 := by
  unfold cl cls nanw one infw sgn
  split <;> decide
end Go.Proofs.Ytgaabjjenlbmhaa.PA
end

section
namespace Go.Proofs.Ytgaabjjenlbmhaa.PA
open Go.RowKit Go.Proofs.YtgaabjjenlbmhaaW.PrintWords Go.Proofs.YtgaabjjenlbmhaaW.PrintLast Go.Proofs.YtgaabjjenlbmhaaW.PrintMore Go.Proofs.Ytgaabjjenlbmhaa.Wd
set_option linter.unusedSimpArgs false
set_option linter.unusedVariables false
theorem named_good (k : Nat) {f : Int} (hf : f = 1 ∨ f = 2) (b : Bool) {g : Int → Int → Int → Option Int} {z : Int} (hg : g (shp f).1 (shp f).2.1 (shp f).2.2 = some z) (h0 : 0 ≤ z) (h1 : z < sgn f) :
    word_named.f (k + 1) f b g = some (if b then z + sgn f else z, 0) := by
  unfold word_named.f
  rw [open_nil' k f]
  simp only [Option.bind_some, if_pos hf, if_true, hg]
  have e : Go.bits .or .u64 z (shp f).2.2 = z + sgn f := by
    rcases hf with rfl | rfl
    · exact or31 h0 h1
    · exact or63 h0 h1
  rw [e]
  cases b <;> rfl
theorem named_nof (k : Nat) {f : Int} (hf : ¬ (f = 1 ∨ f = 2)) (b : Bool) {g : Int → Int → Int → Option Int} : word_named.f (k + 1) f b g = some (0, 4) := by
  unfold word_named.f
  rw [open_nil' k f]
  simp only [Option.bind_some, if_neg hf]
  rw [if_neg (by decide)]
theorem infw_lt (f : Int) : 0 ≤ infw f ∧ infw f < sgn f ∧ infw f < nanw f ∧ nanw f < sgn f ∧ one f < infw f ∧ 0 < one f := by unfold infw sgn nanw one; split <;> decide
theorem none_good (k : Nat) {f : Int} (hf : f = 1 ∨ f = 2) : word_None.f (k + 1) f = some (nanw f, 0) := by
  unfold word_None.f
  rw [named_good k hf false (z := nanw f) (by rcases hf with rfl | rfl; exact shape_none1; exact shape_none2) (by have := infw_lt f; omega) (infw_lt f).2.2.2.1]
  rfl
theorem none_nof (k : Nat) {f : Int} (hf : ¬ (f = 1 ∨ f = 2)) : word_None.f (k + 1) f = some (0, 4) := by unfold word_None.f; rw [named_nof k hf]; rfl
end Go.Proofs.Ytgaabjjenlbmhaa.PA
end

section
namespace Go.Proofs.Ytgaabjjenlbmhaa.PA
open Go.RowKit Go.Proofs.YtgaabjjenlbmhaaW.PrintWords Go.Proofs.YtgaabjjenlbmhaaW.PrintLast Go.Proofs.YtgaabjjenlbmhaaW.PrintMore Go.Proofs.Ytgaabjjenlbmhaa.Wd
set_option linter.unusedSimpArgs false
set_option linter.unusedVariables false
def errz (f a b : Int) : Int := if err f a = 0 then err f b else err f a
def Gz (f a b : Int) : Prop := Gd f a ∧ Gd f b
theorem gz_of {f a b : Int} (h : errz f a b = 0) (ha : U a) (hb : U b) : Gz f a b := by
  unfold errz at h
  by_cases e : err f a = 0
  · rw [if_pos e] at h; exact ⟨gd_of e ha, gd_of h hb⟩
  · rw [if_neg e] at h; exact absurd h e
theorem Gz.err {f a b : Int} (h : Gz f a b) : errz f a b = 0 := by unfold errz; rw [h.1.err, h.2.err]; rfl
theorem err_val (f w : Int) : err f w = 0 ∨ err f w = 4 ∨ err f w = 6 := by
  unfold PA.err; repeat' split
  all_goals simp
theorem err_four (f w : Int) : err f w = 4 ↔ ¬ (f = 1 ∨ f = 2) := by
  unfold PA.err; repeat' split
  all_goals simp_all
theorem good_pair (k : Nat) {f a b : Int} (ha : U a) (hb : U b) : pair_Good.f (k + 2) f a b = some (errz f a b) := by
  unfold pair_Good.f errz
  rw [good_word k ha]
  simp only [Option.bind_some, good_word k hb]
  split <;> rfl
theorem ref_Goodz (k : Nat) (f a b : Int) : cutplaneref10_Good.f (k + 2) f [⟨a, b⟩] = some (errz f a b) := by
  unfold cutplaneref10_Good.f errz
  rw [ref_Is]
  have l1 : (([⟨a, b⟩] : List S25).length : Int) = 1 := rfl
  have r0 : rd_T25 [⟨a, b⟩] 0 = ⟨a, b⟩ := rfl
  have w1 : wrap64 (0 + 1) = 1 := by decide +kernel
  by_cases hf : f = 1 ∨ f = 2
  · have ea := err_val f a
    have eb := err_val f b
    have fa : err f a ≠ 4 := fun c => (err_four f a).1 c hf
    have fb : err f b ≠ 4 := fun c => (err_four f b).1 c hf
    simp only [Option.bind_some, hf, decide_true, if_true, cutplaneref10_Good.l0, l1, r0, w1, ref_Good, Int.zero_lt_one, Int.le_refl]
    by_cases c : err f a = 0
    · rw [if_pos c, if_pos c]
      by_cases d : err f b = 0
      · rw [if_pos d, d]; rfl
      · rw [if_neg d]; congr 1; omega
    · rw [if_neg c, if_neg c]; congr 1; omega
  · have fa := (err_four f a).2 hf
    simp [hf, fa]
theorem sign_flip {f v : Int} (hv : Gd f v) : (if (!decide (v ≥ sgn f)) = true then v % sgn f + sgn f else v % sgn f) = flipw f v := by
  unfold flipw sgn
  rcases hv with ⟨rfl, h0, h1⟩ | ⟨rfl, h0, h1⟩
  · by_cases c : v ≥ 2147483648
    · simp [c]; omega
    · simp [c]; omega
  · by_cases c : v ≥ 9223372036854775808
    · simp [c]; omega
    · simp [c]; omega
theorem ref_Minus (k : Nat) {f w : Int} (h : Gd f w) : cutplaneref10_Minus.f (k + 1) f w = some (negw f w) := by
  unfold cutplaneref10_Minus.f negw
  rw [ref_Class k f h.u, ref_None, ref_Split f h.u]
  simp only [Option.bind_some, ref_Signed f h.u, sign_flip h]
  split <;> rfl
theorem ref_Conjz (k : Nat) {f a b : Int} (h : Gz f a b) : cutplaneref10_Conj.f (k + 1) f a b = some (canw f a, negw f b) := by
  unfold cutplaneref10_Conj.f
  rw [ref_Canon k f h.1.u, ref_Minus k h.2]; rfl
theorem ref_Negz (k : Nat) {f a b : Int} (h : Gz f a b) : cutplaneref10_Neg.f (k + 1) f a b = some (negw f a, negw f b) := by
  unfold cutplaneref10_Neg.f
  rw [ref_Minus k h.1, ref_Minus k h.2]; rfl
end Go.Proofs.Ytgaabjjenlbmhaa.PA
end

section
namespace Go.Proofs.Ytgaabjjenlbmhaa.PA
open Go.RowKit Go.Proofs.YtgaabjjenlbmhaaW.PrintWords Go.Proofs.YtgaabjjenlbmhaaW.PrintLast Go.Proofs.YtgaabjjenlbmhaaW.PrintMore Go.Proofs.Ytgaabjjenlbmhaa.Wd
set_option linter.unusedSimpArgs false
set_option linter.unusedVariables false
/-- the digit of a place, or nought -/
def at0 (l : List Int) (i : Nat) : Nat := if h : i < l.length then l[i].toNat else 0
end Go.Proofs.Ytgaabjjenlbmhaa.PA
end

section
namespace Go.Proofs.Ytgaabjjenlbmhaa.PA
open Go.RowKit Go.Proofs.YtgaabjjenlbmhaaW.PrintWords Go.Proofs.YtgaabjjenlbmhaaW.PrintLast Go.Proofs.YtgaabjjenlbmhaaW.PrintMore Go.Proofs.Ytgaabjjenlbmhaa.Wd
set_option linter.unusedSimpArgs false
set_option linter.unusedVariables false
/-- a whole number of units -/
def zs (neg : Bool) (N : Nat) : Int := if neg then -(N : Int) else N
end Go.Proofs.Ytgaabjjenlbmhaa.PA
end

section
namespace Go.Proofs.Ytgaabjjenlbmhaa.PA
open Go.RowKit Go.Proofs.YtgaabjjenlbmhaaW.PrintWords Go.Proofs.YtgaabjjenlbmhaaW.PrintLast Go.Proofs.YtgaabjjenlbmhaaW.PrintMore Go.Proofs.Ytgaabjjenlbmhaa.Wd
set_option linter.unusedSimpArgs false
set_option linter.unusedVariables false
theorem rd_get (l : List Int) (i : Nat) (h : i < l.length) : rd l (i : Int) = l[i] := by
  unfold rd
  simp [h]
def okw (f w : Int) : Bool := decide (err f w = 0)
def errl (f : Int) (l : List Int) : Int := if f = 1 ∨ f = 2 then (if l.all (okw f) then 0 else 6) else 4
theorem err_fmt {f w : Int} (hf : f = 1 ∨ f = 2) : err f w = 0 ∨ err f w = 6 := by
  unfold err
  rcases hf with rfl | rfl
  · simp only [if_true]; split <;> simp
  · simp
theorem open_loop (f : Int) (l : List Int) (hf : f = 1 ∨ f = 2) (hl : l.length < 4611686018427387904) (hu : ∀ w ∈ l, U w) (d : Nat) : ∀ (k i : Nat), i ≤ l.length → l.length - i = d → d + 2 < k →
    rank_open.l0 k f l (l.length : Int) (i : Int) = some (if (l.drop i).all (okw f) then 0 else 6) := by
  induction d with
  | zero =>
    intro k i hi hd hk
    obtain ⟨k, rfl⟩ : ∃ m, k = m + 1 := ⟨k - 1, by omega⟩
    have e : i = l.length := by omega
    subst e
    simp only [rank_open.l0]
    rw [if_neg (by omega)]
    simp
  | succ d ih =>
    intro k i hi hd hk
    obtain ⟨k, rfl⟩ : ∃ m, k = m + 1 := ⟨k - 1, by omega⟩
    have hlt : i < l.length := by omega
    have hg : word_Good.f k f l[i] = some (err f l[i]) := by
      obtain ⟨j, rfl⟩ : ∃ j, k = j + 2 := ⟨k - 2, by omega⟩
      exact good_word (k := j) (f := f) (hu l[i] (List.getElem_mem hlt))
    have w1 : wrap64 ((i : Int) + 1) = ((i + 1 : Nat) : Int) := by unfold wrap64; omega
    have hd : l.drop i = l[i] :: l.drop (i + 1) := List.drop_eq_getElem_cons hlt
    simp only [rank_open.l0]
    rw [if_pos (by omega), if_pos (by omega), if_pos (by omega), rd_get l i hlt, hg, w1]
    simp only [Option.bind_some]
    rw [ih k (i + 1) (by omega) (by omega) (by omega), hd]
    rcases err_fmt (w := l[i]) hf with e | e
    · rw [if_pos e, List.all_cons, show okw f l[i] = true from decide_eq_true e, Bool.true_and]
    · rw [if_neg (by omega), List.all_cons, show okw f l[i] = false from decide_eq_false (by omega), Bool.false_and, e]; rfl
theorem open_list (f : Int) (l : List Int) (hl : l.length < 4611686018427387904) (hu : ∀ w ∈ l, U w) (k : Nat) (hk : l.length + 2 < k) : rank_open.f k f l = some (errl f l) := by
  obtain ⟨j, rfl⟩ : ∃ m, k = m + 1 := ⟨k - 1, by omega⟩
  unfold rank_open.f errl
  by_cases hf : f = 1 ∨ f = 2
  · rw [none_good j hf, if_pos hf]
    simp only [Option.bind_some, if_true]
    have := open_loop f l hf hl hu l.length (j + 1) 0 (by omega) (by omega) (by omega)
    rw [show ((0 : Nat) : Int) = 0 from rfl] at this
    rw [this]; simp
  · rw [none_nof j hf, if_neg hf]
    simp only [Option.bind_some]
    rw [if_neg (by decide)]
theorem errl_good {f : Int} {l : List Int} (hf : f = 1 ∨ f = 2) (h : ∀ w ∈ l, Gd f w) : errl f l = 0 := by
  unfold errl
  rw [if_pos hf, if_pos]
  exact List.all_eq_true.2 fun w hw => decide_eq_true (h w hw).err
theorem gd_f {f w : Int} (h : Gd f w) : f = 1 ∨ f = 2 := by rcases h with ⟨e, _⟩ | ⟨e, _⟩ <;> simp [e]
theorem isnan_good (k : Nat) {f w : Int} (h : Gd f w) : rank_isNaN.f (k + 2) f w = some (cl f w == 5) := by
  unfold rank_isNaN.f
  rw [class_good k h]; rfl
/-- the place of a word that is no NaN -/
def plc (f w : Int) : Int := if w ≥ sgn f then -(w % sgn f) else w % sgn f
theorem plc_bd (f w : Int) : -9223372036854775807 ≤ plc f w ∧ plc f w ≤ 9223372036854775807 := by
  have : 0 ≤ w % sgn f ∧ w % sgn f < sgn f := by rcases sgn_cases f with h | h <;> rw [h] <;> omega
  have hs := sgn_cases f
  unfold plc
  split <;> omega
theorem sz_lo {f w : Int} (h : Gd f w) : (w < sgn f ∧ w % sgn f = w) ∨ (sgn f ≤ w ∧ w % sgn f = w - sgn f) := by
  have hf := gd_f h
  unfold sgn
  rcases h with ⟨rfl, h0, h1⟩ | ⟨rfl, h0, h1⟩
  · simp only [if_true]; omega
  · simp only [show (¬ ((2 : Int) = 1)) by decide, if_false]; omega
theorem place_good (k : Nat) {f w : Int} (h : Gd f w) (hn : cl f w ≠ 5) : rank_place.f (k + 2) f w = some (plc f w) := by
  have hs := sgn_cases f
  have hz := sz_lo h
  have hp : 0 ≤ w % sgn f ∧ w % sgn f < sgn f := by rcases hs with h | h <;> rw [h] <;> omega
  unfold rank_place.f
  rw [abs_good k h]
  have e : absw f w = w % sgn f := by unfold absw; rw [if_neg hn]
  simp only [Option.bind_some, e]
  unfold plc
  have w1 : wrap64 (w % sgn f) = w % sgn f := by unfold wrap64; omega
  have w2 : wrap64 (-(w % sgn f)) = -(w % sgn f) := by unfold wrap64; omega
  by_cases c : w ≥ sgn f
  · rw [if_neg (by omega), if_pos c, w1, w2]
  · rw [if_pos (by omega), if_neg c, w1]
def cmpi (x y : Int) : Int := if x < y then -1 else if x > y then 1 else 0
theorem compare_i (x y : Int) : cmp_Compare_int64.f x y = some (cmpi x y) := by
  unfold cmp_Compare_int64.f cmp_isNaN_int64.f cmpi
  simp
  repeat' split
  all_goals rfl
theorem cmpi_bd (x y : Int) : (cmpi x y = -1 ∧ x < y) ∨ (cmpi x y = 1 ∧ y < x) ∨ (cmpi x y = 0 ∧ x = y) := by
  unfold cmpi
  by_cases h : x < y
  · simp [h]
  · by_cases g : x > y
    · simp [h, g] <;> omega
    · simp [h, g] <;> omega
def cmpf (f a b : Int) : Int := if cl f a = 5 ∨ cl f b = 5 then 4 else 2 + cmpi (plc f a) (plc f b)
theorem rank_Cmp_good (k : Nat) {f a b : Int} (ha : Gd f a) (hb : Gd f b) : rank_Cmp.f (k + 5) f a b = some (cmpf f a b, 0) := by
  have ho : rank_open.f (k + 5) f [a, b] = some 0 := by
    rw [open_list f [a, b] (by simp) (by simp [ha.u, hb.u]) (k + 5) (by simp <;> omega), errl_good (gd_f ha) (by simp [ha, hb])]
  unfold rank_Cmp.f cmpf
  rw [ho, isnan_good (k + 3) ha, isnan_good (k + 3) hb]
  simp only [Option.bind_some, if_true]
  by_cases ca : cl f a = 5
  · simp [ca, rank_Cmp.j0]
  · by_cases cb : cl f b = 5
    · simp [ca, cb, rank_Cmp.j0]
    · have := plc_bd f a
      have := plc_bd f b
      have e1 : (cl f a == 5) = false := by simp [ca]
      have e2 : (cl f b == 5) = false := by simp [cb]
      have p1 := place_good (k + 2) ha ca
      have p2 := place_good (k + 2) hb cb
      rw [e1, e2]
      simp only [ca, cb, or_self, if_false, Bool.false_eq_true, rank_Cmp.j0, p1, p2, Option.bind_some, compare_i]
      have := cmpi_bd (plc f a) (plc f b)
      rw [show (2 + cmpi (plc f a) (plc f b) % 256) % 256 = 2 + cmpi (plc f a) (plc f b) by omega]
end Go.Proofs.Ytgaabjjenlbmhaa.PA
end

section
namespace Go.Proofs.Ytgaabjjenlbmhaa.PA
open Go.RowKit Go.Proofs.YtgaabjjenlbmhaaW.PrintWords Go.Proofs.YtgaabjjenlbmhaaW.PrintLast Go.Proofs.YtgaabjjenlbmhaaW.PrintMore Go.Proofs.Ytgaabjjenlbmhaa.Wd
set_option linter.unusedSimpArgs false
set_option linter.unusedVariables false
/-- a word lies below twice the sign -/
theorem gd_lt {f w : Int} (h : Gd f w) : 0 ≤ w ∧ w < 2 * sgn f ∧ (f = 1 ∨ f = 2) := by
  unfold sgn
  rcases h with ⟨rfl, h0, h1⟩ | ⟨rfl, h0, h1⟩
  · exact ⟨h0, by simp only [if_true]; omega, .inl rfl⟩
  · exact ⟨h0, by simp only [show (¬ ((2 : Int) = 1)) by decide, if_false]; omega, .inr rfl⟩
end Go.Proofs.Ytgaabjjenlbmhaa.PA
end

section
namespace Go.Proofs.Ytgaabjjenlbmhaa.PA
open Go.RowKit Go.Proofs.YtgaabjjenlbmhaaW.PrintWords Go.Proofs.YtgaabjjenlbmhaaW.PrintLast Go.Proofs.YtgaabjjenlbmhaaW.PrintMore Go.Proofs.Ytgaabjjenlbmhaa.Wd
set_option linter.unusedSimpArgs false
set_option linter.unusedVariables false
/-- the word of 1 -/
def onew (f : Int) : Int := if f = 1 then 1065353216 else 4607182418800017408
def nw (f n : Int) : Int := if n = 0 then 0 else if n < 0 then onew f + sgn f else onew f
theorem of_up {f : Int} {b : Bool} {l : List Int} {r : Int × Int} (h : word_Of.f 12 f b l 0 = some r) (k : Nat) : word_Of.f (k + 12) f b l 0 = some r := by
  induction k with
  | zero => exact h
  | succ k ih => rw [show k + 1 + 12 = (k + 12) + 1 by omega]; exact word_Of.mono f b l 0 (k + 12) r ih
theorem of_zero (k : Nat) {f : Int} (hf : f = 1 ∨ f = 2) : word_Of.f (k + 12) f false ([] : List Int) 0 = some (0, 0) := by
  rcases hf with rfl | rfl
  · exact of_up (by decide +kernel) k
  · exact of_up (by decide +kernel) k
theorem of_one (k : Nat) {f : Int} (hf : f = 1 ∨ f = 2) : word_Of.f (k + 12) f false ([1] : List Int) 0 = some (onew f, 0) := by
  rcases hf with rfl | rfl
  · exact of_up (by decide +kernel) k
  · exact of_up (by decide +kernel) k
theorem of_minus (k : Nat) {f : Int} (hf : f = 1 ∨ f = 2) : word_Of.f (k + 12) f true ([1] : List Int) 0 = some (onew f + sgn f, 0) := by
  rcases hf with rfl | rfl
  · exact of_up (by decide +kernel) k
  · exact of_up (by decide +kernel) k
def agst (f w n : Int) : Int := cmpi (plc f w) (plc f (nw f n))
theorem nw_ok {f n : Int} (hf : f = 1 ∨ f = 2) (hn : n = 0 ∨ n = 1 ∨ n = -1) : Gd f (nw f n) ∧ cl f (nw f n) ≠ 5 ∧ cl f (nw f n) ≠ 4 := by
  rcases hf with rfl | rfl <;> rcases hn with rfl | rfl | rfl
  · exact ⟨.inl ⟨rfl, by decide, by decide⟩, by decide, by decide⟩
  · exact ⟨.inl ⟨rfl, by decide, by decide⟩, by decide, by decide⟩
  · exact ⟨.inl ⟨rfl, by decide, by decide⟩, by decide, by decide⟩
  · exact ⟨.inr ⟨rfl, by decide, by decide⟩, by decide, by decide⟩
  · exact ⟨.inr ⟨rfl, by decide, by decide⟩, by decide, by decide⟩
  · exact ⟨.inr ⟨rfl, by decide, by decide⟩, by decide, by decide⟩
theorem against_good (k : Nat) {f w n : Int} (h : Gd f w) (hn : n = 0 ∨ n = 1 ∨ n = -1) : cuts_against.f (k + 12) f w n = some (if cl f w = 5 then 2 else agst f w n) := by
  have hf := gd_f h
  have ho := nw_ok hf hn
  have hc := rank_Cmp_good (k + 7) h ho.1
  have hb := cmpi_bd (plc f w) (plc f (nw f n))
  have hv : wrap64 (wrap64 (cmpf f w (nw f n)) - 2) = if cl f w = 5 then 2 else agst f w n := by
    unfold cmpf agst
    by_cases c : cl f w = 5
    · rw [if_pos (.inl c), if_pos c]; unfold wrap64; omega
    · rw [if_neg (by simp [c, ho.2.1]), if_neg c]; unfold wrap64; omega
  unfold cuts_against.f
  rcases hn with rfl | rfl | rfl
  · rw [if_pos rfl, of_zero k hf, Option.bind_some]
    rw [show nw f 0 = 0 from rfl] at hc hv
    rw [hc, Option.bind_some, hv]
  · rw [if_neg (by decide), show decide ((1 : Int) < 0) = false from rfl, of_one k hf, Option.bind_some]
    rw [show nw f 1 = onew f from rfl] at hc hv
    rw [hc, Option.bind_some, hv]
  · rw [if_neg (by decide), show decide ((-1 : Int) < 0) = true from rfl, of_minus k hf, Option.bind_some]
    rw [show nw f (-1) = onew f + sgn f from rfl] at hc hv
    rw [hc, Option.bind_some, hv]
def alo (r : S54) (re im : Int) : Int := if r.f0 then im else re
def acr (r : S54) (re im : Int) : Int := if r.f0 then re else im
def lies (f re im : Int) (r : S54) : Bool := decide (cl f (acr r re im) = 1) && (decide (cl f (alo r re im) ≠ 5) && (if r.f2 then decide (agst f (alo r re im) r.f1 < 0) else decide (agst f (alo r re im) r.f1 > 0)))
def place (f re im : Int) (r : S54) : Int × Int × Int × Int × Int := (agst f (alo r re im) 0, agst f (alo r re im) 1, agst f (alo r re im) (-1), if acr r re im ≥ sgn f then -1 else 1, 0)
def Unit1 (r : S54) : Prop := r.f1 = 0 ∨ r.f1 = 1 ∨ r.f1 = -1
theorem agst_bd (f w n : Int) : agst f w n = -1 ∨ agst f w n = 1 ∨ agst f w n = 0 := by
  have := cmpi_bd (plc f w) (plc f (nw f n))
  unfold agst; omega
theorem lies_iff {f re im : Int} {r : S54} : lies f re im r = true ↔ ¬ (cl f (acr r re im) ≠ 1 ∨ cl f (alo r re im) = 5 ∨ (if cl f (alo r re im) = 5 then 2 else agst f (alo r re im) r.f1) = 0 ∨ decide ((if cl f (alo r re im) = 5 then 2 else agst f (alo r re im) r.f1) < 0) ≠ r.f2) := by
  unfold lies
  have hb := agst_bd f (alo r re im) r.f1
  generalize agst f (alo r re im) r.f1 = q at *
  by_cases c1 : cl f (acr r re im) = 1
  · by_cases c2 : cl f (alo r re im) = 5
    · simp [c1, c2]
    · rcases hb with rfl | rfl | rfl <;> cases r.f2 <;> simp [c1, c2]
  · simp [c1]
theorem alo_gd {f re im : Int} (h : Gz f re im) (r : S54) : Gd f (alo r re im) := by unfold alo; split; exact h.2; exact h.1
theorem acr_gd {f re im : Int} (h : Gz f re im) (r : S54) : Gd f (acr r re im) := by unfold acr; split; exact h.1; exact h.2
theorem find_g (k : Nat) {f re im : Int} (h : Gz f re im) : ∀ l : List S54, (∀ r ∈ l, Unit1 r) → cuts_find.g (k + 12) f re im l = some (match l.find? (lies f re im) with | some r => place f re im r | none => (0, 0, 0, 0, 7))
  | [], _ => rfl
  | r :: t, hl => by
    have ih := find_g k h t (fun x hx => hl x (List.mem_cons_of_mem _ hx))
    have hr : Unit1 r := hl r (List.mem_cons_self ..)
    have ga := alo_gd h r
    have gc := acr_gd h r
    unfold cuts_find.g
    show ((word_Class.f (k + 12) f (acr r re im)).bind fun c => (word_Class.f (k + 12) f (alo r re im)).bind fun al => (cuts_against.f (k + 12) f (alo r re im) r.f1).bind fun q =>
      if c.1 ≠ 1 ∨ al.1 = 5 ∨ q = 0 ∨ decide (q < 0) ≠ r.f2 then cuts_find.g (k + 12) f re im t else
      (word_Split.f (k + 12) f (acr r re im)).bind fun x => (cuts_against.f (k + 12) f (alo r re im) 0).bind fun s => (cuts_against.f (k + 12) f (alo r re im) 1).bind fun o => (cuts_against.f (k + 12) f (alo r re im) (-1)).bind fun m =>
        some (s, o, m, if x.1 then -1 else 1, 0)) = _
    rw [show k + 12 = (k + 10) + 2 from rfl, class_good (k + 10) gc, class_good (k + 10) ga, split_good (k + 10) gc, show (k + 10) + 2 = k + 12 from rfl, against_good k ga hr, against_good k ga (n := 0) (.inl rfl), against_good k ga (n := 1) (.inr (.inl rfl)), against_good k ga (n := -1) (.inr (.inr rfl))]
    simp only [Option.bind_some]
    by_cases c : lies f re im r = true
    · rw [if_neg (lies_iff.1 c), List.find?_cons_of_pos c]
      have ca : cl f (alo r re im) ≠ 5 := fun e => lies_iff.1 c (.inr (.inl e))
      simp only [if_neg ca]
      unfold place
      by_cases d : acr r re im ≥ sgn f <;> simp [d]
    · rw [if_pos (Classical.byContradiction fun n => c (lies_iff.2 n)), List.find?_cons_of_neg c]
      exact ih
theorem crays_unit (fn : Int) : ∀ r ∈ crays fn, Unit1 r := by
  intro r hr
  unfold crays at hr
  unfold Unit1
  repeat' split at hr
  all_goals simp at hr
  all_goals (try rcases hr with rfl | rfl) <;> simp_all
theorem find_good (k : Nat) {f fn re im : Int} (h : Gz f re im) : cuts_find.f (k + 12) f fn re im = some (if cis fn then (match (crays fn).find? (lies f re im) with | some r => place f re im r | none => (0, 0, 0, 0, 7)) else (0, 0, 0, 0, 2)) := by
  unfold cuts_find.f
  rw [show k + 12 = (k + 10) + 2 from rfl, good_pair (k + 10) h.1.u h.2.u, h.err, show (k + 10) + 2 = k + 12 from rfl, find_g k h _ (crays_unit fn)]
  simp only [Option.bind_some, if_true]
  split <;> rfl
theorem ref_Is20 (fn : Int) : cutplaneref20_Is.f fn = some (cis fn) := by
  unfold cutplaneref20_Is.f cis
  by_cases h : fn ≥ 1
  · rw [if_pos h]; congr 1; simp only [decide_eq_decide]; omega
  · rw [if_neg h]; congr 1; rw [eq_comm, decide_eq_false_iff_not]; omega
def sid (f re im : Int) (r : S54) : Int := if acr r re im ≥ sgn f then -1 else 1
theorem nw_sign {f : Int} (hf : f = 1 ∨ f = 2) : plc f (nw f 0) = 0 ∧ plc f (nw f 1) > 0 ∧ plc f (nw f (-1)) < 0 := by
  rcases hf with rfl | rfl <;> decide
theorem agst_up {f w : Int} (hf : f = 1 ∨ f = 2) (h : agst f w 1 > 0) : agst f w 0 = 1 := by
  have hn := nw_sign hf
  have h1 := cmpi_bd (plc f w) (plc f (nw f 1))
  have h0 := cmpi_bd (plc f w) (plc f (nw f 0))
  unfold agst at *; omega
theorem agst_down {f w : Int} (hf : f = 1 ∨ f = 2) (h : agst f w (-1) < 0) : agst f w 0 = -1 := by
  have hn := nw_sign hf
  have h1 := cmpi_bd (plc f w) (plc f (nw f (-1)))
  have h0 := cmpi_bd (plc f w) (plc f (nw f 0))
  unfold agst at *; omega
theorem lies_alo {f re im : Int} {r : S54} (c : lies f re im r = true) : cl f (alo r re im) ≠ 5 := fun e => lies_iff.1 c (.inr (.inl e))
theorem lies_far {f re im : Int} {r : S54} (c : lies f re im r = true) : (r.f2 = true → agst f (alo r re im) r.f1 < 0) ∧ (r.f2 = false → agst f (alo r re im) r.f1 > 0) := by
  unfold lies at c
  simp only [Bool.and_eq_true, decide_eq_true_eq] at c
  constructor
  · intro e; have := c.2.2; rw [e, if_pos rfl] at this; exact of_decide_eq_true this
  · intro e; have := c.2.2; rw [e, if_neg (by decide)] at this; exact of_decide_eq_true this
theorem sid_bd (f re im : Int) (r : S54) : sid f re im r = -1 ∨ sid f re im r = 1 := by unfold sid; split <;> simp
def fnd (f fn re im : Int) : Option S54 := (crays fn).find? (lies f re im)
theorem on_good (k : Nat) {f fn re im : Int} (h : Gz f re im) (hc : cis fn = true) : cuts_On.f (k + 12) f fn re im = some ((fnd f fn re im).isSome, 0) := by
  unfold cuts_On.f fnd
  rw [find_good k h, Option.bind_some, hc, if_pos rfl]
  rcases (crays fn).find? (lies f re im) with _ | r <;> rfl
theorem side_good (k : Nat) {f fn re im : Int} (h : Gz f re im) (hc : cis fn = true) : cuts_Side.f (k + 12) f fn re im = some (match fnd f fn re im with | some r => (sid f re im r, 0) | none => (0, 7)) := by
  unfold cuts_Side.f fnd
  rw [find_good k h, Option.bind_some, hc, if_pos rfl]
  rcases (crays fn).find? (lies f re im) with _ | r <;> rfl
def csg (f fn re im : Int) (r : S54) : Int × Int := csigns (cno fn) (agst f (alo r re im) 0) (agst f (alo r re im) 1) (agst f (alo r re im) (-1)) (sid f re im r)
theorem signs_good (k : Nat) {f fn re im : Int} (h : Gz f re im) (hc : cis fn = true) : cuts_Signs.f (k + 12) f fn re im = some (match fnd f fn re im with | some r => ((csg f fn re im r).1, (csg f fn re im r).2, 0) | none => (0, 0, 7)) := by
  unfold cuts_Signs.f fnd
  rw [find_good k h, Option.bind_some, hc, if_pos rfl]
  rcases (crays fn).find? (lies f re im) with _ | r <;> rfl
theorem known20 (k : Nat) : cutplanelaw20_known.f (k + 12) = some true := by
  have h1 : Gz 1 3212836864 2147483648 := ⟨.inl ⟨rfl, by decide, by decide⟩, .inl ⟨rfl, by decide, by decide⟩⟩
  have h2 : Gz 1 1073741824 0 := ⟨.inl ⟨rfl, by decide, by decide⟩, .inl ⟨rfl, by decide, by decide⟩⟩
  unfold cutplanelaw20_known.f
  rw [on_good k h1 rfl, side_good k h1 rfl, signs_good k h2 rfl]
  decide +kernel
end Go.Proofs.Ytgaabjjenlbmhaa.PA
end

section
namespace Go.Proofs.Ytgaabjjenlbmhaa.Pure
open Go.RowKit Go.Proofs.Ytgaabjjenlbmhaa.PA Go.Proofs.YtgaabjjenlbmhaaW.PrintWords Go.Proofs.YtgaabjjenlbmhaaW.PrintLast Go.Proofs.YtgaabjjenlbmhaaW.PrintMore Go.Proofs.Ytgaabjjenlbmhaa.Wd
set_option linter.unusedSimpArgs false
set_option linter.unusedVariables false
def upf (fn : Int) : Bool := decide (fn = 12 ∨ fn = 13)
theorem up_all (fn : Int) : ∀ r ∈ crays fn, r.f0 = upf fn := by
  intro r hr
  unfold crays at hr
  unfold upf
  by_cases d1 : fn = 1 ∨ fn = 3
  · rw [if_pos d1] at hr
    simp only [List.mem_cons, List.not_mem_nil, or_false] at hr
    rw [hr, eq_comm]; exact decide_eq_false (by omega)
  · rw [if_neg d1] at hr
    by_cases d2 : fn = 10 ∨ fn = 15 ∨ fn = 11
    · rw [if_pos d2] at hr
      simp only [List.mem_cons, List.not_mem_nil, or_false] at hr
      rcases hr with e | e <;> (rw [e, eq_comm]; exact decide_eq_false (by omega))
    · rw [if_neg d2] at hr
      by_cases d3 : fn = 12 ∨ fn = 13
      · rw [if_pos d3] at hr
        simp only [List.mem_cons, List.not_mem_nil, or_false] at hr
        rcases hr with e | e <;> (rw [e, eq_comm]; exact decide_eq_true d3)
      · rw [if_neg d3] at hr
        by_cases d4 : fn = 14
        · rw [if_pos d4] at hr
          simp only [List.mem_cons, List.not_mem_nil, or_false] at hr
          rw [hr, eq_comm]; exact decide_eq_false (by omega)
        · rw [if_neg d4] at hr; cases hr
theorem cl_can (f w : Int) : cl f (canw f w) = cl f w := by
  unfold canw; by_cases c : cl f w = 5
  · rw [if_pos c, cl_nan, c]
  · rw [if_neg c]
theorem cl_neg {f w : Int} (h : Gd f w) : cl f (negw f w) = cl f w := by
  unfold negw; by_cases c : cl f w = 5
  · rw [if_pos c, cl_nan, c]
  · rw [if_neg c, cl_flipw h]
theorem can_id {f w : Int} (c : cl f w ≠ 5) : canw f w = w := by unfold canw; rw [if_neg c]
theorem neg_side {f w : Int} (h : Gd f w) (c : cl f w ≠ 5) : (w < sgn f ∧ negw f w = w + sgn f) ∨ (w ≥ sgn f ∧ negw f w = w - sgn f) := by
  unfold negw flipw
  rw [if_neg c]
  by_cases d : w ≥ sgn f
  · right; rw [if_pos d]; exact ⟨d, rfl⟩
  · left; rw [if_neg d]; exact ⟨by omega, rfl⟩
theorem neg_plc {f w : Int} (h : Gd f w) (c : cl f w ≠ 5) : plc f (negw f w) = -plc f w := by
  have hs := sgn_cases f
  have hg := gd_lt h
  have hd := neg_side h c
  have z1 := sz_lo h
  have z2 := sz_lo (neg_gd h)
  unfold plc
  rcases hd with ⟨a, e⟩ | ⟨a, e⟩
  · rw [if_neg (show ¬ w ≥ sgn f by omega), if_pos (by omega)]; omega
  · rw [if_pos (show w ≥ sgn f by omega), if_neg (by omega)]; omega
theorem nw_neg {f n : Int} (hf : f = 1 ∨ f = 2) (hn : n = 0 ∨ n = 1 ∨ n = -1) : plc f (nw f (-n)) = -plc f (nw f n) := by
  rcases hf with rfl | rfl <;> rcases hn with rfl | rfl | rfl <;> decide
theorem agst_neg {f w n : Int} (h : Gd f w) (c : cl f w ≠ 5) (hn : n = 0 ∨ n = 1 ∨ n = -1) : agst f (negw f w) n = -agst f w (-n) := by
  have e1 := neg_plc h c
  have e2 := nw_neg (gd_f h) hn
  have b1 := cmpi_bd (plc f (negw f w)) (plc f (nw f n))
  have b2 := cmpi_bd (plc f w) (plc f (nw f (-n)))
  unfold agst
  omega
/-- a ray of the real axis, and the conjugate -/
theorem lies_conj {f re im : Int} (h : Gz f re im) {r : S54} (hr : r.f0 = false) : lies f (canw f re) (negw f im) r = lies f re im r := by
  unfold lies alo acr
  rw [hr]
  simp only [Bool.false_eq_true, if_false]
  rw [cl_neg h.2, cl_can]
  by_cases c : cl f re = 5
  · simp [c]
  · rw [can_id c]
/-- two rays of one axis, one for the other where the number along it has the other sign -/
theorem lies_swap {f re im re' im' : Int} {u : Bool} {a b : S54} (ha : a = ⟨u, 1, false⟩) (hb : b = ⟨u, -1, true⟩)
    (hg : Gd f (if u then im else re)) (hx : cl f (if u then re' else im') = cl f (if u then re else im)) (hy : (if u then im' else re') = negw f (if u then im else re)) :
    lies f re' im' a = lies f re im b ∧ lies f re' im' b = lies f re im a := by
  subst ha hb
  unfold lies alo acr
  simp only [Bool.false_eq_true, if_false, if_true]
  rw [hx, hy, cl_neg hg]
  generalize (if u then im else re) = w at *
  by_cases c : cl f w = 5
  · simp [c]
  · rw [agst_neg hg c (.inr (.inl rfl)), agst_neg hg c (.inr (.inr rfl))]
    rw [show (- -1 : Int) = 1 from rfl]
    have e1 : decide (-agst f w (-1) > 0) = decide (agst f w (-1) < 0) := by rw [decide_eq_decide]; omega
    have e2 : decide (-agst f w 1 < 0) = decide (agst f w 1 > 0) := by rw [decide_eq_decide]; omega
    rw [e1, e2]
    exact ⟨rfl, rfl⟩
theorem some_swap {P Q : S54 → Bool} {a b : S54} (h1 : P a = Q b) (h2 : P b = Q a) : ([a, b].find? P).isSome = ([a, b].find? Q).isSome := by
  simp only [List.find?_cons, List.find?_nil]
  rw [h1, h2]
  cases Q a <;> cases Q b <;> rfl
theorem some_same {P Q : S54 → Bool} : ∀ l : List S54, (∀ r ∈ l, P r = Q r) → (l.find? P).isSome = (l.find? Q).isSome
  | [], _ => rfl
  | r :: t, h => by
    simp only [List.find?_cons]
    rw [h r (List.mem_cons_self ..)]
    cases Q r
    · exact some_same t (fun x hx => h x (List.mem_cons_of_mem _ hx))
    · rfl
theorem pair_up {fn : Int} (h : upf fn = true) : crays fn = [⟨true, 1, false⟩, ⟨true, (-1), true⟩] := by
  unfold upf at h
  have := of_decide_eq_true h
  unfold crays
  rw [if_neg (by omega), if_neg (by omega), if_pos this]
theorem on_conj {f fn re im : Int} (h : Gz f re im) : (fnd f fn (canw f re) (negw f im)).isSome = (fnd f fn re im).isSome := by
  unfold fnd
  cases hu : upf fn
  · exact some_same _ (fun r hr => lies_conj h (by rw [up_all fn r hr, hu]))
  · rw [pair_up hu]
    obtain ⟨a, b⟩ := lies_swap (f := f) (re := re) (im := im) (re' := canw f re) (im' := negw f im) (u := true) rfl rfl h.2 (cl_can f re) rfl
    exact some_swap a b
theorem on_neg {f fn re im : Int} (h : Gz f re im) (hp : cpar fn ≠ 0) : (fnd f fn (negw f re) (negw f im)).isSome = (fnd f fn re im).isSome := by
  unfold fnd
  unfold cpar at hp
  by_cases d2 : fn = 10 ∨ fn = 15
  · have e : crays fn = [⟨false, 1, false⟩, ⟨false, (-1), true⟩] := by unfold crays; rw [if_neg (by omega), if_pos (by omega)]
    rw [e]
    obtain ⟨a, b⟩ := lies_swap (f := f) (re := re) (im := im) (re' := negw f re) (im' := negw f im) (u := false) rfl rfl h.1 (cl_neg h.2) rfl
    exact some_swap a b
  · by_cases d3 : fn = 12 ∨ fn = 13
    · rw [pair_up (decide_eq_true d3)]
      obtain ⟨a, b⟩ := lies_swap (f := f) (re := re) (im := im) (re' := negw f re) (im' := negw f im) (u := true) rfl rfl h.2 (cl_neg h.1) rfl
      exact some_swap a b
    · have e : crays fn = [] := by
        unfold crays
        by_cases d4 : fn = 4 ∨ fn = 6 ∨ fn = 7 ∨ fn = 9 ∨ fn = 10 ∨ fn = 15 ∨ fn = 12 ∨ fn = 13
        · rw [if_neg (by omega), if_neg (by omega), if_neg (by omega), if_neg (by omega)]
        · rw [if_neg d4] at hp
          by_cases d5 : fn = 5 ∨ fn = 8
          · rw [if_neg (by omega), if_neg (by omega), if_neg (by omega), if_neg (by omega)]
          · rw [if_neg d5] at hp; exact absurd rfl hp
      rw [e]; rfl
theorem csigns_bd {S O M d : Int} (n : Nat) (hn : n = 90 ∨ n = 92 ∨ n = 93 ∨ n = 95 ∨ n = 96) (hd : d = -1 ∨ d = 1) :
    (csigns n S O M (-d)).1 = (csigns n S O M d).1 ∧ (csigns n S O M d).2 = wrap64 (-(csigns n S O M (-d)).2) ∧ (csigns n S O M d).2 ≠ 0 := by
  unfold csigns wrap64
  rcases hn with rfl | rfl | rfl | rfl | rfl <;> simp <;> omega
theorem cno_real {fn : Int} (h : upf fn = false) : cno fn = 90 ∨ cno fn = 92 ∨ cno fn = 93 ∨ cno fn = 95 ∨ cno fn = 96 := by
  unfold upf at h
  have := of_decide_eq_false h
  unfold cno
  repeat' split
  all_goals first | simp | omega
theorem cno_up {fn : Int} (h : upf fn = true) : cno fn = 91 := by
  unfold upf at h
  have := of_decide_eq_true h
  unfold cno
  rw [if_neg (by omega), if_neg (by omega), if_neg (by omega), if_pos this]
theorem mirror_vals {f fn re im : Int} (h : Gz f re im) {r r' : S54} (hr : r ∈ crays fn) (hr' : r' ∈ crays fn) (c : lies f re im r = true) (c' : lies f (canw f re) (negw f im) r' = true) :
    (csg f fn re im r).1 = (csg f fn (canw f re) (negw f im) r').1 ∧ (csg f fn re im r).2 = wrap64 (-(csg f fn (canw f re) (negw f im) r').2) ∧ (csg f fn re im r).2 ≠ 0 ∧
      (if upf fn = true then sid f re im r = sid f (canw f re) (negw f im) r' else sid f re im r = wrap64 (-(sid f (canw f re) (negw f im) r'))) := by
  have hf := gd_f h.1
  have hu := up_all fn r hr
  have hu' := up_all fn r' hr'
  have ca := lies_alo c
  have ha : cl f (acr r re im) = 1 := Classical.byContradiction fun n => lies_iff.1 c (.inl n)
  have sb := sid_bd f re im r
  cases hup : upf fn
  · rw [hup] at hu hu'
    have e1 : alo r re im = re := by unfold alo; rw [hu]; rfl
    have e2 : alo r' (canw f re) (negw f im) = re := by
      rw [e1] at ca
      unfold alo; rw [hu']; exact can_id ca
    have a1 : acr r re im = im := by unfold acr; rw [hu]; rfl
    have a2 : acr r' (canw f re) (negw f im) = negw f im := by unfold acr; rw [hu']; rfl
    have c5 : cl f im ≠ 5 := by rw [a1] at ha; omega
    have hd := neg_side h.2 c5
    have hg := gd_lt h.2
    have hs : sid f (canw f re) (negw f im) r' = -(sid f re im r) := by
      unfold sid
      rw [a1, a2]
      rcases hd with ⟨p, q⟩ | ⟨p, q⟩
      · rw [if_pos (by omega), if_neg (by omega)]
      · rw [if_neg (by omega), if_pos (by omega)]; rfl
    unfold csg
    rw [e1, e2, hs]
    obtain ⟨x, y, z⟩ := csigns_bd (S := agst f re 0) (O := agst f re 1) (M := agst f re (-1)) (cno fn) (cno_real hup) sb
    refine ⟨x.symm, y, z, ?_⟩
    rw [if_neg (by decide), Int.neg_neg]; unfold wrap64; omega
  · rw [hup] at hu hu'
    have e1 : alo r re im = im := by unfold alo; rw [hu]; rfl
    have e2 : alo r' (canw f re) (negw f im) = negw f im := by unfold alo; rw [hu']; rfl
    have a1 : acr r re im = re := by unfold acr; rw [hu]; rfl
    have c5 : cl f re ≠ 5 := by rw [a1] at ha; omega
    have a2 : acr r' (canw f re) (negw f im) = re := by unfold acr; rw [hu']; exact can_id c5
    have hs : sid f (canw f re) (negw f im) r' = sid f re im r := by unfold sid; rw [a1, a2]
    rw [e1] at ca
    have hz : agst f im 0 = -1 ∨ agst f im 0 = 1 := by
      have far := lies_far c
      rw [e1] at far
      rw [pair_up hup] at hr
      simp only [List.mem_cons, List.not_mem_nil, or_false] at hr
      rcases hr with e | e
      · right; exact agst_up hf (by rw [e] at far; exact far.2 rfl)
      · left; exact agst_down hf (by rw [e] at far; exact far.1 rfl)
    have hn := agst_neg h.2 ca (n := 0) (.inl rfl)
    rw [show (-0 : Int) = 0 from rfl] at hn
    unfold csg
    rw [e1, e2, hs, cno_up hup, hn]
    simp only [csigns, if_true, show ¬ ((91 : Nat) = 90) by decide, if_false]
    refine ⟨trivial, ?_, by omega, trivial⟩
    rw [Int.neg_neg]; unfold wrap64; omega
theorem CutsMirror : cutplanelaw20_CutsMirror.Pure := by
  intro f fn re im _ _ hr hi
  have ur := u_of hr
  have ui := u_of hi
  refine ⟨500112, ?_⟩
  unfold cutplanelaw20_CutsMirror.f
  rw [ref_Goodz 500110, known20 500100, ref_Is20]
  by_cases he : errz f re im = 0
  · have h := gz_of he ur ui
    have hj : Gz f (canw f re) (negw f im) := ⟨can_gd h.1, neg_gd h.2⟩
    have hm : Gz f (negw f re) (negw f im) := ⟨neg_gd h.1, neg_gd h.2⟩
    cases hc : cis fn
    · simp [he]
    · have er : cuts_Rays.f fn = some (crays fn, 0) := by unfold cuts_Rays.f; rw [hc]; rfl
      have ep : cuts_Parity.f fn = some (cpar fn, 0) := by unfold cuts_Parity.f; rw [hc]; rfl
      have hoc := on_conj (fn := fn) h
      rw [er, ep, on_good 500100 h hc, ref_Conjz 500111 h, ref_Negz 500111 h, side_good 500100 h hc, signs_good 500100 h hc]
      simp only [Option.bind_some]
      rw [on_good 500100 hj hc, on_good 500100 hm hc, side_good 500100 hj hc, signs_good 500100 hj hc, hoc]
      simp only [Option.bind_some, he, if_true, bne_self_eq_false, Bool.false_eq_true, if_false]
      have hneg : cpar fn ≠ 0 → (fnd f fn (negw f re) (negw f im)).isSome = (fnd f fn re im).isSome := on_neg h
      rcases hx : fnd f fn re im with _ | r
      · by_cases hp : cpar fn = 0
        · simp [hp]
        · have e := hneg hp
          rw [hx] at e
          simp [hp, e]
      · rcases hy : fnd f fn (canw f re) (negw f im) with _ | r'
        · rw [hx, hy] at hoc; exact absurd hoc (by simp)
        · have m1 : r ∈ crays fn := List.mem_of_find?_eq_some (show (crays fn).find? (lies f re im) = some r from hx)
          have m2 : r' ∈ crays fn := List.mem_of_find?_eq_some (show (crays fn).find? (lies f (canw f re) (negw f im)) = some r' from hy)
          have l1 : lies f re im r = true := List.find?_some (show (crays fn).find? (lies f re im) = some r from hx)
          have l2 : lies f (canw f re) (negw f im) r' = true := List.find?_some (show (crays fn).find? (lies f (canw f re) (negw f im)) = some r' from hy)
          obtain ⟨v1, v2, v3, v4⟩ := mirror_vals h m1 m2 l1 l2
          have sb := sid_bd f re im r
          have hsq : wrap64 (sid f re im r * sid f re im r) = 1 := by rcases sb with e | e <;> rw [e] <;> (unfold wrap64; omega)
          have hne : crays fn ≠ [] := fun e => by rw [e] at m1; cases m1
          have hlen : 0 < (crays fn).length := List.length_pos_iff.2 hne
          have h0 : (rd_T54 (crays fn) 0).f0 = upf fn := by
            have : rd_T54 (crays fn) 0 = (crays fn)[0] := by unfold rd_T54; simp [hlen]
            rw [this]; exact up_all fn _ (List.getElem_mem hlen)
          have q1 : ¬ (((crays fn).length : Int) = 0) := by omega
          have q2 : (0 : Int) < ((crays fn).length : Int) := by omega
          have core : ∀ X : Bool, True := fun _ => trivial
          by_cases hp : cpar fn = 0
          · cases hup : upf fn
            · rw [hup] at v4 h0
              rw [if_neg (by decide)] at v4
              simp only [hp, if_true, Option.isSome_some, q1, if_false, v1, ← v2, hsq, v3, q2, h0, Bool.false_eq_true, ← v4]
            · rw [hup] at v4 h0
              rw [if_pos rfl] at v4
              simp only [hp, if_true, Option.isSome_some, q1, if_false, v1, ← v2, hsq, v3, q2, h0, ← v4]
          · have e := hneg hp
            rw [hx] at e
            cases hup : upf fn
            · rw [hup] at v4 h0
              rw [if_neg (by decide)] at v4
              simp only [hp, e, bne_self_eq_false, Bool.false_eq_true, if_true, Option.isSome_some, q1, if_false, v1, ← v2, hsq, v3, q2, h0, ← v4]
            · rw [hup] at v4 h0
              rw [if_pos rfl] at v4
              simp only [hp, e, bne_self_eq_false, Bool.false_eq_true, if_true, Option.isSome_some, q1, if_false, v1, ← v2, hsq, v3, q2, h0, ← v4]
  · simp [he]
end Go.Proofs.Ytgaabjjenlbmhaa.Pure
end
