/- Steps of Go functions that the law SpecialKinds uses, told as plain Lean functions, each with the proof that its call comes to what it tells; words on memory; plain facts. No condition beyond those that each text names. -/
import Derived.Laws.BitsAllLaws
import Derived.Laws.BitsLemmas
import Derived.OpenShut
import Derived.Test.YtlgapmhjaaajfaaProg
import Derived.WalkMore
import Derived.Below
import Derived.Deep.Draws
import Derived.Deep.AppendLies
import Derived.Maps.AppendAt
import Derived.OwnWalk
import Derived.Laws.BytesArg
import Derived.Laws.MakeOwn
import Derived.Laws.OwnMore
import Derived.Deep.OwnRows
import Derived.Tactics
import Derived.Lib.ConvBytes
import Derived.Laws.Slices
import Derived.WalkKit
import Derived.KernelRfl
import Derived.RowKit3
import Derived.Deep.LoopGhost
import Derived.Deep.QuietTactic
import Derived.BigQuiet
import Derived.WideLaws
import Derived.Deep.DeepCutAuto
import Derived.Deep.CutBlock
import Derived.Deep.RegionHeld3
import Derived.Laws.Rows
import Derived.Lib.AppendStr
import Derived.ArgAppend
import Derived.Laws.IdiomCopy
import Derived.OrdersHeld
import Derived.RowKit
import Derived.Laws.StructEq
import Derived.Test.YtlgapmhjaaajfaaSSpecialKinds0
import Derived.Test.YtlgapmhjaaajfaaSSpecialKinds1
import Derived.Test.YtlgapmhjaaajfaaSSpecialKinds2
import Derived.Test.YtlgapmhjaaajfaaSSpecialKinds3
import Derived.Test.YtlgapmhjaaajfaaSSpecialKinds4
import Derived.Test.YtlgapmhjaaajfaaSSpecialKinds5
import Derived.Test.YtlgapmhjaaajfaaSSpecialKinds6
import Derived.Test.YtlgapmhjaaajfaaSSpecialKinds7
import Derived.Test.YtlgapmhjaaajfaaSSpecialKinds8
section
namespace Go.Proofs.Ytlgapmhjaaajfaa.Wd
open Go
theorem nat_and_lt {n a : Nat} (h : a < 2 ^ n) : a &&& 2 ^ n = 0 := by
  apply Nat.eq_of_testBit_eq
  intro i
  rw [Nat.testBit_and, Nat.testBit_two_pow, Nat.zero_testBit]
  by_cases e : n = i
  · subst e; simp [Nat.testBit_lt_two_pow h]
  · simp [e]
theorem nat_and_ge {n l : Nat} (h : l < 2 ^ n) : (2 ^ n + l) &&& 2 ^ n = 2 ^ n := by
  apply Nat.eq_of_testBit_eq
  intro i
  rw [Nat.testBit_and, Nat.testBit_two_pow]
  by_cases e : n = i
  · subst e; rw [Nat.testBit_two_pow_add_eq, Nat.testBit_lt_two_pow h]; simp
  · simp [e]
theorem nat_or_lt {n a : Nat} (h : a < 2 ^ n) : a ||| 2 ^ n = 2 ^ n + a := by
  have := Nat.two_pow_add_eq_or_of_lt h 1
  rw [Nat.mul_one] at this
  rw [this, Nat.or_comm]
theorem nat_xor_lt {n a : Nat} (h : a < 2 ^ n) : a ^^^ 2 ^ n = 2 ^ n + a := by
  rw [← nat_or_lt h]
  apply Nat.eq_of_testBit_eq
  intro i
  rw [Nat.testBit_xor, Nat.testBit_or, Nat.testBit_two_pow]
  by_cases e : n = i
  · subst e; simp [Nat.testBit_lt_two_pow h]
  · simp [e]
theorem nat_xor_ge {n l : Nat} (h : l < 2 ^ n) : (2 ^ n + l) ^^^ 2 ^ n = l := by
  rw [← nat_xor_lt h, Nat.xor_assoc, Nat.xor_self, Nat.xor_zero]
theorem nat_mask {n a : Nat} (hn : n ≤ 63) (h : a < 2 ^ (n + 1)) : a &&& (2 ^ 64 - (2 ^ n + 1)) = a % 2 ^ n := by
  apply Nat.eq_of_testBit_eq
  intro i
  rw [Nat.testBit_and, Nat.testBit_mod_two_pow, Nat.testBit_two_pow_sub_succ (by exact Nat.pow_lt_pow_right (by decide) (by omega)), Nat.testBit_two_pow]
  by_cases e : i < n
  · simp [e, show n ≠ i by omega, show i < 64 by omega]
  · by_cases e2 : n = i
    · subst e2; simp
    · have : a.testBit i = false := Nat.testBit_lt_two_pow (Nat.lt_of_lt_of_le h (Nat.pow_le_pow_right (by decide) (by omega)))
      simp [this]
section
variable {w : Int}
theorem andNot31 (h0 : 0 ≤ w) (h1 : w < 4294967296) : Go.bits .andNot .u64 w 2147483648 = w % 2147483648 := by
  obtain ⟨a, rfl⟩ := Int.eq_ofNat_of_zero_le h0
  have ha : a < 2 ^ (31 + 1) := by omega
  have e := u64_andNot_nat a 2147483648 (by omega) (by decide)
  have m : a &&& 18446744071562067967 = a % 2147483648 := nat_mask (n := 31) (by decide) ha
  rw [show ((2147483648 : Int)) = ((2147483648 : Nat) : Int) from rfl, e, show (18446744073709551615 - 2147483648 : Nat) = 18446744071562067967 from rfl, m]
  omega
theorem andNot63 (h0 : 0 ≤ w) (h1 : w < 18446744073709551616) : Go.bits .andNot .u64 w 9223372036854775808 = w % 9223372036854775808 := by
  obtain ⟨a, rfl⟩ := Int.eq_ofNat_of_zero_le h0
  have ha : a < 2 ^ (63 + 1) := by omega
  have e := u64_andNot_nat a 9223372036854775808 (by omega) (by decide)
  have m : a &&& 9223372036854775807 = a % 9223372036854775808 := nat_mask (n := 63) (by decide) ha
  rw [show ((9223372036854775808 : Int)) = ((9223372036854775808 : Nat) : Int) from rfl, e, show (18446744073709551615 - 9223372036854775808 : Nat) = 9223372036854775807 from rfl, m]
  omega
theorem and31 (h0 : 0 ≤ w) (h1 : w < 4294967296) : Go.bits .and .u64 w 2147483648 = if w ≥ 2147483648 then 2147483648 else 0 := by
  obtain ⟨a, rfl⟩ := Int.eq_ofNat_of_zero_le h0
  have e := u64_and_nat a 2147483648 (by omega) (by decide)
  rw [show ((2147483648 : Int)) = ((2147483648 : Nat) : Int) from rfl, e]
  by_cases c : a < 2 ^ 31
  · have m : a &&& 2147483648 = 0 := nat_and_lt (n := 31) c
    rw [m, if_neg (by omega)]; rfl
  · obtain ⟨l, rfl⟩ : ∃ l, a = 2 ^ 31 + l := ⟨a - 2 ^ 31, by omega⟩
    have m : (2 ^ 31 + l) &&& 2147483648 = 2147483648 := nat_and_ge (n := 31) (l := l) (by omega)
    rw [m, if_pos (by omega)]
theorem and63 (h0 : 0 ≤ w) (h1 : w < 18446744073709551616) : Go.bits .and .u64 w 9223372036854775808 = if w ≥ 9223372036854775808 then 9223372036854775808 else 0 := by
  obtain ⟨a, rfl⟩ := Int.eq_ofNat_of_zero_le h0
  have e := u64_and_nat a 9223372036854775808 (by omega) (by decide)
  rw [show ((9223372036854775808 : Int)) = ((9223372036854775808 : Nat) : Int) from rfl, e]
  by_cases c : a < 2 ^ 63
  · have m : a &&& 9223372036854775808 = 0 := nat_and_lt (n := 63) c
    rw [m, if_neg (by omega)]; rfl
  · obtain ⟨l, rfl⟩ : ∃ l, a = 2 ^ 63 + l := ⟨a - 2 ^ 63, by omega⟩
    have m : (2 ^ 63 + l) &&& 9223372036854775808 = 9223372036854775808 := nat_and_ge (n := 63) (l := l) (by omega)
    rw [m, if_pos (by omega)]
theorem xor31 (h0 : 0 ≤ w) (h1 : w < 4294967296) : Go.bits .xor .u64 w 2147483648 = if w ≥ 2147483648 then w - 2147483648 else w + 2147483648 := by
  obtain ⟨a, rfl⟩ := Int.eq_ofNat_of_zero_le h0
  have e := u64_xor_nat a 2147483648 (by omega) (by decide)
  rw [show ((2147483648 : Int)) = ((2147483648 : Nat) : Int) from rfl, e]
  by_cases c : a < 2 ^ 31
  · have m : a ^^^ 2147483648 = 2 ^ 31 + a := nat_xor_lt (n := 31) c
    rw [m, if_neg (by omega)]; omega
  · obtain ⟨l, rfl⟩ : ∃ l, a = 2 ^ 31 + l := ⟨a - 2 ^ 31, by omega⟩
    have m : (2 ^ 31 + l) ^^^ 2147483648 = l := nat_xor_ge (n := 31) (l := l) (by omega)
    rw [m, if_pos (by omega)]; omega
theorem xor63 (h0 : 0 ≤ w) (h1 : w < 18446744073709551616) : Go.bits .xor .u64 w 9223372036854775808 = if w ≥ 9223372036854775808 then w - 9223372036854775808 else w + 9223372036854775808 := by
  obtain ⟨a, rfl⟩ := Int.eq_ofNat_of_zero_le h0
  have e := u64_xor_nat a 9223372036854775808 (by omega) (by decide)
  rw [show ((9223372036854775808 : Int)) = ((9223372036854775808 : Nat) : Int) from rfl, e]
  by_cases c : a < 2 ^ 63
  · have m : a ^^^ 9223372036854775808 = 2 ^ 63 + a := nat_xor_lt (n := 63) c
    rw [m, if_neg (by omega)]; omega
  · obtain ⟨l, rfl⟩ : ∃ l, a = 2 ^ 63 + l := ⟨a - 2 ^ 63, by omega⟩
    have m : (2 ^ 63 + l) ^^^ 9223372036854775808 = l := nat_xor_ge (n := 63) (l := l) (by omega)
    rw [m, if_pos (by omega)]; omega
theorem or31 (h0 : 0 ≤ w) (h1 : w < 2147483648) : Go.bits .or .u64 w 2147483648 = w + 2147483648 := by
  obtain ⟨a, rfl⟩ := Int.eq_ofNat_of_zero_le h0
  have e := u64_or_nat a 2147483648 (by omega) (by decide)
  have m : a ||| 2147483648 = 2 ^ 31 + a := nat_or_lt (n := 31) (by omega)
  rw [show ((2147483648 : Int)) = ((2147483648 : Nat) : Int) from rfl, e, m]
  omega
theorem or63 (h0 : 0 ≤ w) (h1 : w < 9223372036854775808) : Go.bits .or .u64 w 9223372036854775808 = w + 9223372036854775808 := by
  obtain ⟨a, rfl⟩ := Int.eq_ofNat_of_zero_le h0
  have e := u64_or_nat a 9223372036854775808 (by omega) (by decide)
  have m : a ||| 9223372036854775808 = 2 ^ 63 + a := nat_or_lt (n := 63) (by omega)
  rw [show ((9223372036854775808 : Int)) = ((9223372036854775808 : Nat) : Int) from rfl, e, m]
  omega
theorem wrapu64 (n : Int) : IntKind.u64.wrap n = n % 18446744073709551616 := by simp [IntKind.wrap, IntKind.bits, IntKind.signed]
theorem wraps_u64 (n : Int) (h₀ : 0 ≤ n) (h₁ : n < 2 ^ 64) : IntKind.u64.wrap n = n := by
  rw [wrapu64]; omega
theorem and23 (h0 : 0 ≤ w) (h1 : w < 18446744073709551616) : Go.bits .and .u64 w 8388607 = w % 8388608 :=
  bits_mask .u64 64 (by decide) wraps_u64 23 (by decide) w h0 (by omega)
theorem and52 (h0 : 0 ≤ w) (h1 : w < 18446744073709551616) : Go.bits .and .u64 w 4503599627370495 = w % 4503599627370496 :=
  bits_mask .u64 64 (by decide) wraps_u64 52 (by decide) w h0 (by omega)
end
end Go.Proofs.Ytlgapmhjaaajfaa.Wd
end

section
namespace Go.Proofs.Ytlgapmhjaaajfaa.PA
open Go.RowKit Go.Proofs.YtlgapmhjaaajfaaW.PrintWords Go.Proofs.YtlgapmhjaaajfaaW.PrintLast Go.Proofs.YtlgapmhjaaajfaaW.PrintMore Go.Proofs.Ytlgapmhjaaajfaa.Wd
set_option linter.unusedSimpArgs false
set_option linter.unusedVariables false
/-- the class of a size: P one above the fractions, I the infinite size -/
def cls (P I s : Int) : Int := if s = 0 then 1 else if s < P then 2 else if s < I then 3 else if s = I then 4 else 5
def sgn (f : Int) : Int := if f = 1 then 2147483648 else 9223372036854775808
def one (f : Int) : Int := if f = 1 then 8388608 else 4503599627370496
def infw (f : Int) : Int := if f = 1 then 2139095040 else 9218868437227405312
def nanw (f : Int) : Int := if f = 1 then 2143289344 else 9221120237041090560
def cl (f w : Int) : Int := cls (one f) (infw f) (w % sgn f)
/-- the error of a word, as Good tells it -/
def err (f w : Int) : Int := if f = 1 then (if w ≥ 4294967296 then 6 else 0) else if f = 2 then 0 else 4
/-- a good word -/
def Gd (f w : Int) : Prop := (f = 1 ∧ 0 ≤ w ∧ w < 4294967296) ∨ (f = 2 ∧ 0 ≤ w ∧ w < 18446744073709551616)
def U (w : Int) : Prop := 0 ≤ w ∧ w < 18446744073709551616
theorem Gd.u {f w : Int} (h : Gd f w) : U w := by rcases h with ⟨_, a, b⟩ | ⟨_, a, b⟩ <;> exact ⟨a, by omega⟩
theorem Gd.err {f w : Int} (h : Gd f w) : err f w = 0 := by
  rcases h with ⟨rfl, a, b⟩ | ⟨rfl, a, b⟩
  · simp [PA.err]; omega
  · simp [PA.err]
theorem gd_of {f w : Int} (h : err f w = 0) (hu : U w) : Gd f w := by
  unfold err at h
  unfold U at hu
  unfold Gd
  split at h
  · split at h
    · omega
    · omega
  · split at h <;> omega
theorem u_of {w : Int} (h : (Lit.int .u64 w).wf = true) : U w := by have := bounds_u64 h; exact ⟨by omega, by omega⟩
theorem rd_zero (w : Int) : rd [w] 0 = w := by rfl
theorem top31 : Go.bits .or .u64 2147483648 (IntKind.u64.wrap (2147483648 - 1)) = 4294967295 := by decide +kernel
theorem top63 : Go.bits .or .u64 9223372036854775808 (IntKind.u64.wrap (9223372036854775808 - 1)) = 18446744073709551615 := by decide +kernel
/-- the shape of a format -/
def shp (f : Int) : Int × Int × Int := if f = 1 then (23, 255, 2147483648) else if f = 2 then (52, 2047, 9223372036854775808) else (0, 0, 0)
theorem open_nil (k : Nat) (f : Int) : word_open.f (k + 1) f [] = some ((shp f).1, (shp f).2.1, (shp f).2.2, if f = 1 ∨ f = 2 then 0 else 4) := by
  unfold word_open.f word_shapeOf.f shp
  by_cases h1 : f = 1
  · subst h1; simp [word_open.l0]
  · by_cases h2 : f = 2
    · subst h2; simp [word_open.l0]
    · simp [h1, h2]
theorem open_one (k : Nat) (f w : Int) (hu : U w) : word_open.f (k + 2) f [w] = some ((shp f).1, (shp f).2.1, (shp f).2.2, err f w) := by
  obtain ⟨h0, h3⟩ := hu
  unfold word_open.f word_shapeOf.f shp err
  by_cases h1 : f = 1
  · subst h1
    have l1 : (([w] : List Int).length : Int) = 1 := rfl
    have w1 : wrap64 (0 + 1) = 1 := by decide +kernel
    simp only [if_true, Option.bind_some, word_open.l0, l1, rd_zero, top31, Int.zero_lt_one, Int.le_refl, w1]
    by_cases c : w ≥ 4294967296
    · rw [if_pos (by omega)]; simp [c]
    · rw [if_neg (by omega)]; simp [c]
  · by_cases h2 : f = 2
    · subst h2
      have l1 : (([w] : List Int).length : Int) = 1 := rfl
      have w1 : wrap64 (0 + 1) = 1 := by decide +kernel
      simp only [show (¬ ((2 : Int) = 1)) by decide, if_false, if_true, Option.bind_some, word_open.l0, l1, rd_zero, top63, Int.zero_lt_one, Int.le_refl, w1]
      rw [if_neg (by omega)]
      simp
    · simp [h1, h2]
theorem shape_inf1 : word_shape_inf.f 23 255 2147483648 = some 2139095040 := by decide +kernel
theorem shape_inf2 : word_shape_inf.f 52 2047 9223372036854775808 = some 9218868437227405312 := by decide +kernel
theorem shape_none1 : word_shape_none.f 23 255 2147483648 = some 2143289344 := by decide +kernel
theorem shape_none2 : word_shape_none.f 52 2047 9223372036854775808 = some 9221120237041090560 := by decide +kernel
theorem shl23 : shl .u64 1 23 = 8388608 := by decide +kernel
theorem shl52 : shl .u64 1 52 = 4503599627370496 := by decide +kernel
theorem shape_class {f w : Int} (h : Gd f w) : word_shape_class.f (shp f).1 (shp f).2.1 (shp f).2.2 w = some (cl f w) := by
  rcases h with ⟨rfl, h0, h1⟩ | ⟨rfl, h0, h1⟩
  · have e1 : shp 1 = (23, 255, 2147483648) := rfl
    rw [e1]
    simp only [word_shape_class.f, andNot31 h0 h1, shape_inf1, Option.bind_some, shl23, cl, cls, one, infw, sgn, if_true]
    repeat' split
    all_goals first | rfl | (exfalso; omega)
  · have e1 : shp 2 = (52, 2047, 9223372036854775808) := rfl
    rw [e1]
    simp only [word_shape_class.f, andNot63 h0 h1, shape_inf2, Option.bind_some, shl52, cl, cls, one, infw, sgn]
    simp only [show (¬ ((2 : Int) = 1)) by decide, if_false]
    repeat' split
    all_goals first | rfl | (exfalso; omega)
theorem split_good (k : Nat) {f w : Int} (h : Gd f w) : word_Split.f (k + 2) f w = some (decide (w ≥ sgn f), w % sgn f / one f, w % one f, 0) := by
  unfold word_Split.f
  rw [open_one k f w h.u, h.err]
  rcases h with ⟨rfl, h0, h1⟩ | ⟨rfl, h0, h1⟩
  · have e1 : shp 1 = (23, 255, 2147483648) := rfl
    have e2 : IntKind.u64.wrap (8388608 - 1) = 8388607 := by decide +kernel
    have e3 : shr .u64 (w % 2147483648) 23 = w % 2147483648 / 8388608 := rfl
    rw [e1]
    simp only [Option.bind_some, if_true, word_shape_split.f, andNot31 h0 h1, and31 h0 h1, shl23, e2, e3, sgn, one]
    rw [and23 (by omega) (by omega)]
    have e4 : wrap64 (w % 2147483648 / 8388608) = w % 2147483648 / 8388608 := by unfold wrap64; omega
    have e5 : w % 2147483648 % 8388608 = w % 8388608 := by omega
    rw [e4, e5]
    by_cases c : w ≥ 2147483648 <;> simp [c]
  · have e1 : shp 2 = (52, 2047, 9223372036854775808) := rfl
    have e2 : IntKind.u64.wrap (4503599627370496 - 1) = 4503599627370495 := by decide +kernel
    have e3 : shr .u64 (w % 9223372036854775808) 52 = w % 9223372036854775808 / 4503599627370496 := rfl
    rw [e1]
    simp only [Option.bind_some, if_true, word_shape_split.f, andNot63 h0 h1, and63 h0 h1, shl52, e2, e3, sgn, one]
    rw [and52 (by omega) (by omega)]
    have e4 : wrap64 (w % 9223372036854775808 / 4503599627370496) = w % 9223372036854775808 / 4503599627370496 := by unfold wrap64; omega
    have e5 : w % 9223372036854775808 % 4503599627370496 = w % 4503599627370496 := by omega
    rw [e4, e5]
    by_cases c : w ≥ 9223372036854775808 <;> simp [c]
theorem class_good (k : Nat) {f w : Int} (h : Gd f w) : word_Class.f (k + 2) f w = some (cl f w, 0) := by
  unfold word_Class.f
  rw [open_one k f w h.u, h.err]
  simp only [Option.bind_some, if_true, shape_class h]
theorem class_bad (k : Nat) {f w : Int} (hu : U w) (h : err f w ≠ 0) : word_Class.f (k + 2) f w = some (0, err f w) := by
  unfold word_Class.f
  rw [open_one k f w hu]
  simp only [Option.bind_some]
  rw [if_neg h]
theorem ref_Is (f : Int) : cutplaneref03_Is.f f = some (decide (f = 1 ∨ f = 2)) := by
  unfold cutplaneref03_Is.f
  by_cases h1 : f = 1
  · simp [h1]
  · rw [if_neg h1]; by_cases h2 : f = 2 <;> simp [h1, h2]
theorem ref_Good (f w : Int) : cutplaneref03_Good.f f w = some (err f w) := by
  unfold cutplaneref03_Good.f err
  rw [ref_Is]
  by_cases h1 : f = 1
  · subst h1; simp
    split <;> rfl
  · by_cases h2 : f = 2 <;> simp [h1, h2]
theorem ref_Split (f : Int) {w : Int} (hu : U w) : cutplaneref03_Split.f f w = some (decide (w ≥ sgn f), w % sgn f / one f, w % one f) := by
  unfold cutplaneref03_Split.f sgn one
  unfold U at hu
  rw [if_pos hu]
  split <;> rfl
theorem ref_Most (f : Int) : cutplaneref03_Most.f f = some (if f = 1 then 255 else 2047) := by unfold cutplaneref03_Most.f; split <;> rfl
theorem ref_Class (k : Nat) (f : Int) {w : Int} (hu : U w) : cutplaneref03_Class.f (k + 1) f w = some (cl f w) := by
  obtain ⟨h0, h1⟩ := hu
  unfold cutplaneref03_Class.f
  rw [ref_Split f ⟨h0, h1⟩]
  simp only [Option.bind_some, cutplaneref03_Class.j0, ref_Most]
  unfold cl cls sgn one infw
  by_cases hf : f = 1
  · simp only [hf, if_true]
    by_cases a : w % 2147483648 / 8388608 = 0
    · rw [if_pos a]
      by_cases b : w % 8388608 = 0
      · rw [if_pos (by simp [b]), if_pos (by omega)]
      · rw [if_neg (by simp [b]), if_pos a, if_neg (by omega), if_pos (by omega)]
    · rw [if_neg a, if_neg (by decide), if_neg a]
      by_cases c : w % 2147483648 / 8388608 < 255
      · rw [if_pos c, if_neg (by omega), if_neg (by omega), if_pos (by omega)]
      · rw [if_neg c]
        by_cases d : w % 8388608 = 0
        · rw [if_pos d, if_neg (by omega), if_neg (by omega), if_neg (by omega), if_pos (by omega)]
        · rw [if_neg d, if_neg (by omega), if_neg (by omega), if_neg (by omega), if_neg (by omega)]
  · simp only [hf, if_false]
    by_cases a : w % 9223372036854775808 / 4503599627370496 = 0
    · rw [if_pos a]
      by_cases b : w % 4503599627370496 = 0
      · rw [if_pos (by simp [b]), if_pos (by omega)]
      · rw [if_neg (by simp [b]), if_pos a, if_neg (by omega), if_pos (by omega)]
    · rw [if_neg a, if_neg (by decide), if_neg a]
      by_cases c : w % 9223372036854775808 / 4503599627370496 < 2047
      · rw [if_pos c, if_neg (by omega), if_neg (by omega), if_pos (by omega)]
      · rw [if_neg c]
        by_cases d : w % 4503599627370496 = 0
        · rw [if_pos d, if_neg (by omega), if_neg (by omega), if_neg (by omega), if_pos (by omega)]
        · rw [if_neg d, if_neg (by omega), if_neg (by omega), if_neg (by omega), if_neg (by omega)]
def flipw (f w : Int) : Int := if w ≥ sgn f then w - sgn f else w + sgn f
def negw (f w : Int) : Int := if cl f w = 5 then nanw f else flipw f w
theorem shape_none {f w : Int} (h : Gd f w) : word_shape_none.f (shp f).1 (shp f).2.1 (shp f).2.2 = some (nanw f) := by
  rcases h with ⟨rfl, _, _⟩ | ⟨rfl, _, _⟩
  · exact shape_none1
  · exact shape_none2
theorem turned_good (k : Nat) {f w : Int} (h : Gd f w) {g : Int → Int → Int → Option Int} {z : Int} (hg : g (shp f).1 (shp f).2.1 (shp f).2.2 = some z) :
    word_turned.f (k + 2) f w g = some (if cl f w = 5 then nanw f else z, 0) := by
  unfold word_turned.f
  rw [open_one k f w h.u, h.err]
  simp only [Option.bind_some, if_true, shape_class h, shape_none h, hg]
  split <;> rfl
theorem shp3 {f w : Int} (h : Gd f w) : (shp f).2.2 = sgn f := by
  rcases h with ⟨rfl, _, _⟩ | ⟨rfl, _, _⟩ <;> rfl
theorem neg_good (k : Nat) {f w : Int} (h : Gd f w) : word_Neg.f (k + 2) f w = some (negw f w, 0) := by
  unfold word_Neg.f
  rw [turned_good k h (z := flipw f w) ?_]
  · rfl
  · unfold word_Neg_1.f flipw
    rw [shp3 h]
    rcases h with ⟨rfl, h0, h1⟩ | ⟨rfl, h0, h1⟩
    · exact congrArg some (xor31 h0 h1)
    · exact congrArg some (xor63 h0 h1)
theorem sgn_cases (f : Int) : sgn f = 2147483648 ∨ sgn f = 9223372036854775808 := by unfold sgn; split <;> simp
theorem open_nil' (k : Nat) (f : Int) : word_open.f (k + 1) f ([] : List Int) = some ((shp f).1, (shp f).2.1, (shp f).2.2, if f = 1 ∨ f = 2 then 0 else 4) := open_nil k f
end Go.Proofs.Ytlgapmhjaaajfaa.PA
end

section
namespace Go.Proofs.Ytlgapmhjaaajfaa.PA
open Go.RowKit Go.Proofs.YtlgapmhjaaajfaaW.PrintWords Go.Proofs.YtlgapmhjaaajfaaW.PrintLast Go.Proofs.YtlgapmhjaaajfaaW.PrintMore Go.Proofs.Ytlgapmhjaaajfaa.Wd
set_option linter.unusedSimpArgs false
set_option linter.unusedVariables false
theorem named_good (k : Nat) {f : Int} (hf : f = 1 ∨ f = 2) (b : Bool) {g : Int → Int → Int → Option Int} {z : Int} (hg : g (shp f).1 (shp f).2.1 (shp f).2.2 = some z) (h0 : 0 ≤ z) (h1 : z < sgn f) :
    word_named.f (k + 1) f b g = some (if b then z + sgn f else z, 0) := by
  unfold word_named.f
  rw [open_nil' k f]
  simp only [Option.bind_some, if_pos hf, if_true, hg]
  have e : Go.bits .or .u64 z (shp f).2.2 = z + sgn f := by
    rcases hf with rfl | rfl
    · exact or31 h0 h1
    · exact or63 h0 h1
  rw [e]
  cases b <;> rfl
theorem infw_lt (f : Int) : 0 ≤ infw f ∧ infw f < sgn f ∧ infw f < nanw f ∧ nanw f < sgn f ∧ one f < infw f ∧ 0 < one f := by unfold infw sgn nanw one; split <;> decide
theorem shape_inf {f : Int} (hf : f = 1 ∨ f = 2) : word_shape_inf.f (shp f).1 (shp f).2.1 (shp f).2.2 = some (infw f) := by
  rcases hf with rfl | rfl
  · exact shape_inf1
  · exact shape_inf2
theorem inf_good (k : Nat) {f : Int} (hf : f = 1 ∨ f = 2) (b : Bool) : word_Inf.f (k + 1) f b = some (if b then infw f + sgn f else infw f, 0) := by
  unfold word_Inf.f
  rw [named_good k hf b (z := infw f) (shape_inf hf) (infw_lt f).1 (infw_lt f).2.1]
  rfl
theorem greatest_good (k : Nat) {f : Int} (hf : f = 1 ∨ f = 2) (b : Bool) : word_Greatest.f (k + 1) f b = some (if b then infw f - 1 + sgn f else infw f - 1, 0) := by
  unfold word_Greatest.f
  have h := infw_lt f
  rw [named_good k hf b (z := infw f - 1) ?_ (by omega) (by omega)]
  · rfl
  · unfold word_Greatest_1.f
    rw [shape_inf hf]
    simp only [Option.bind_some, wrapu64]
    have := sgn_cases f
    rw [Int.emod_eq_of_lt (by omega) (by omega)]
theorem none_good (k : Nat) {f : Int} (hf : f = 1 ∨ f = 2) : word_None.f (k + 1) f = some (nanw f, 0) := by
  unfold word_None.f
  rw [named_good k hf false (z := nanw f) (by rcases hf with rfl | rfl; exact shape_none1; exact shape_none2) (by have := infw_lt f; omega) (infw_lt f).2.2.2.1]
  rfl
end Go.Proofs.Ytlgapmhjaaajfaa.PA
end

section
namespace Go.Proofs.Ytlgapmhjaaajfaa.PA
open Go.RowKit Go.Proofs.YtlgapmhjaaajfaaW.PrintWords Go.Proofs.YtlgapmhjaaajfaaW.PrintLast Go.Proofs.YtlgapmhjaaajfaaW.PrintMore Go.Proofs.Ytlgapmhjaaajfaa.Wd
set_option linter.unusedSimpArgs false
set_option linter.unusedVariables false
def errz (f a b : Int) : Int := if err f a = 0 then err f b else err f a
def Gz (f a b : Int) : Prop := Gd f a ∧ Gd f b
theorem gz_of {f a b : Int} (h : errz f a b = 0) (ha : U a) (hb : U b) : Gz f a b := by
  unfold errz at h
  by_cases e : err f a = 0
  · rw [if_pos e] at h; exact ⟨gd_of e ha, gd_of h hb⟩
  · rw [if_neg e] at h; exact absurd h e
theorem Gz.err {f a b : Int} (h : Gz f a b) : errz f a b = 0 := by unfold errz; rw [h.1.err, h.2.err]; rfl
theorem err_val (f w : Int) : err f w = 0 ∨ err f w = 4 ∨ err f w = 6 := by
  unfold PA.err; repeat' split
  all_goals simp
theorem err_four (f w : Int) : err f w = 4 ↔ ¬ (f = 1 ∨ f = 2) := by
  unfold PA.err; repeat' split
  all_goals simp_all
theorem ref_Goodz2 (k : Nat) (f a b c d : Int) : cutplaneref10_Good.f (k + 3) f [⟨a, b⟩, ⟨c, d⟩] = some (if errz f a b = 0 then errz f c d else errz f a b) := by
  unfold cutplaneref10_Good.f errz
  rw [ref_Is]
  have l1 : (([⟨a, b⟩, ⟨c, d⟩] : List S26).length : Int) = 2 := rfl
  have r0 : rd_T26 [⟨a, b⟩, ⟨c, d⟩] 0 = ⟨a, b⟩ := rfl
  have r1 : rd_T26 [⟨a, b⟩, ⟨c, d⟩] 1 = ⟨c, d⟩ := rfl
  have w1 : wrap64 (0 + 1) = 1 := by decide +kernel
  have w2 : wrap64 (1 + 1) = 2 := by decide +kernel
  by_cases hf : f = 1 ∨ f = 2
  · have ea := err_val f a
    have eb := err_val f b
    have ec := err_val f c
    have ed := err_val f d
    have fa : err f a ≠ 4 := fun c => (err_four f a).1 c hf
    have fb : err f b ≠ 4 := fun c => (err_four f b).1 c hf
    have fc : err f c ≠ 4 := fun e => (err_four f c).1 e hf
    have fd : err f d ≠ 4 := fun e => (err_four f d).1 e hf
    have t0 : (0 : Int) < 2 := by decide
    have t1 : (1 : Int) < 2 := by decide
    have t2 : ¬ (2 : Int) < 2 := by decide
    have t3 : (0 : Int) ≤ 1 := by decide
    simp only [Option.bind_some, hf, decide_true, if_true, cutplaneref10_Good.l0, l1, r0, r1, w1, w2, ref_Good, t0, t1, t2, t3, if_false, Int.le_refl]
    by_cases ca : err f a = 0
    · by_cases cb : err f b = 0
      · by_cases cc : err f c = 0
        · by_cases cd : err f d = 0
          · simp only [ca, cb, cc, cd, if_true]
          · simp only [ca, cb, cc, cd, if_true, if_false]; congr 1; omega
        · simp only [ca, cb, cc, if_true, if_false]; congr 1; omega
      · simp only [ca, cb, if_true, if_false]; congr 1; omega
    · simp only [ca, if_false]; congr 1; omega
  · have fa := (err_four f a).2 hf
    simp [hf, fa]
def zc (f a b : Int) : Int := if cl f a = 4 ∨ cl f b = 4 then 3 else if cl f a = 5 ∨ cl f b = 5 then 4 else if cl f a = 1 ∧ cl f b = 1 then 1 else 2
theorem classz_good (k : Nat) {f a b : Int} (h : Gz f a b) : pair_Class.f (k + 2) f a b = some (zc f a b, 0) := by
  unfold pair_Class.f zc
  rw [class_good k h.1, class_good k h.2]
  simp only [Option.bind_some, if_true, pair_Class.j0, pair_Class.j1]
  by_cases a4 : cl f a = 4 <;> by_cases b4 : cl f b = 4 <;> by_cases a5 : cl f a = 5 <;> by_cases b5 : cl f b = 5 <;> by_cases a1 : cl f a = 1 <;> by_cases b1 : cl f b = 1 <;> simp_all
theorem classz_bad (k : Nat) {f a b : Int} (ha : U a) (hb : U b) (h : errz f a b ≠ 0) : pair_Class.f (k + 2) f a b = some (0, errz f a b) := by
  unfold pair_Class.f
  unfold errz at h ⊢
  by_cases c : err f a = 0
  · rw [class_good k (gd_of c ha)]
    rw [if_pos c] at h ⊢
    simp only [Option.bind_some, if_true, class_bad k hb h]
    rw [if_neg h]
  · rw [class_bad k ha c]
    rw [if_neg c] at h ⊢
    simp only [Option.bind_some]
    rw [if_neg h]
theorem ref_Classz (k : Nat) (f : Int) {a b : Int} (ha : U a) (hb : U b) : cutplaneref10_Class.f (k + 2) f a b = some (zc f a b) := by
  unfold cutplaneref10_Class.f zc
  rw [ref_Class (k + 1) f ha, ref_Class (k + 1) f hb]
  simp only [Option.bind_some, cutplaneref10_Class.j0, cutplaneref10_Class.j1]
  by_cases a4 : cl f a = 4 <;> by_cases b4 : cl f b = 4 <;> by_cases a5 : cl f a = 5 <;> by_cases b5 : cl f b = 5 <;> by_cases a1 : cl f a = 1 <;> by_cases b1 : cl f b = 1 <;> simp_all
end Go.Proofs.Ytlgapmhjaaajfaa.PA
end

section
namespace Go.Proofs.Ytlgapmhjaaajfaa.PA
open Go.RowKit Go.Proofs.YtlgapmhjaaajfaaW.PrintWords Go.Proofs.YtlgapmhjaaajfaaW.PrintLast Go.Proofs.YtlgapmhjaaajfaaW.PrintMore Go.Proofs.Ytlgapmhjaaajfaa.Wd
set_option linter.unusedSimpArgs false
set_option linter.unusedVariables false
theorem up_ {α : Type} {g : Nat → Option α} (hm : ∀ k, LeO (g k) (g (k + 1))) {K : Nat} {r : α} (h : g K = some r) (k : Nat) : g (k + K) = some r := by
  induction k with
  | zero => rw [Nat.zero_add]; exact h
  | succ k ih => rw [show k + 1 + K = (k + K) + 1 by omega]; exact hm (k + K) r ih
def Md (m : Int) : Prop := 1 ≤ m ∧ m ≤ 5
instance (m : Int) : Decidable (Md m) := inferInstanceAs (Decidable (_ ∧ _))
def me (f m : Int) : Int := if f = 1 ∨ f = 2 then (if Md m then 0 else 5) else 4
theorem over_val (k : Nat) (f m : Int) : ∃ x, round_Over.f (k + 4) f m false = some (x, me f m) := by
  unfold me
  by_cases hf : f = 1 ∨ f = 2
  · obtain ⟨p, l, t, hform⟩ : ∃ p l t, round_formOf.f f = some (p, l, t, true) := by
      rcases hf with rfl | rfl <;> exact ⟨_, _, _, rfl⟩
    have hl : (([] : List S69).length : Int) = 0 := rfl
    unfold round_Over.f round_open.f
    rw [hform, if_pos hf]
    simp only [Option.bind_some, if_true]
    by_cases hm : Md m
    · rw [if_pos hm]
      obtain ⟨m1, m5⟩ := hm
      rw [if_neg (show ¬ m < 1 by omega), show decide (m > 5) = false from decide_eq_false (by omega)]
      simp only [round_open.j0, round_open.l0, hl, Int.lt_irrefl, Bool.false_eq_true, if_false, Option.bind_some, if_true, round_Over.j0, inf_good _ hf, greatest_good _ hf]
      repeat' split
      all_goals exact ⟨_, rfl⟩
    · rw [if_neg hm]
      by_cases h1 : m < 1
      · rw [if_pos h1]
        simp only [round_open.j0, if_true, Option.bind_some]
        exact ⟨0, rfl⟩
      · rw [if_neg h1, show decide (m > 5) = true from decide_eq_true (by unfold Md at hm; omega)]
        simp only [round_open.j0, if_true, Option.bind_some]
        exact ⟨0, rfl⟩
  · have hform : round_formOf.f f = some (0, 0, 0, false) := by
      unfold round_formOf.f
      rw [if_neg (fun h => hf (.inl h)), if_neg (fun h => hf (.inr h))]
    unfold round_Over.f round_open.f
    rw [hform, if_neg hf]
    exact ⟨0, rfl⟩
/-- the error that is there ahead of all else -/
def oe (f m a b c d : Int) : Int := if me f m = 0 then (if errz f a b = 0 then errz f c d else errz f a b) else me f m
theorem zopen_val (k : Nat) {f m a b c d : Int} (ha : U a) (hb : U b) (hc : U c) (hd : U d) : special_open.f (k + 6) f m [⟨a, b⟩, ⟨c, d⟩] = some (if oe f m a b c d = 0 then ([zc f a b, zc f c d], 0) else ([], oe f m a b c d)) := by
  obtain ⟨x, hx⟩ := over_val (k + 2) f m
  have l1 : (([⟨a, b⟩, ⟨c, d⟩] : List S26).length : Int) = 2 := rfl
  have r0 : rd_T26 [⟨a, b⟩, ⟨c, d⟩] 0 = ⟨a, b⟩ := rfl
  have r1 : rd_T26 [⟨a, b⟩, ⟨c, d⟩] 1 = ⟨c, d⟩ := rfl
  have w1 : wrap64 (0 + 1) = 1 := by decide +kernel
  have w2 : wrap64 (1 + 1) = 2 := by decide +kernel
  have t0 : (0 : Int) < 2 := by decide
  have t1 : (1 : Int) < 2 := by decide
  have t2 : ¬ (2 : Int) < 2 := by decide
  have t3 : (0 : Int) ≤ 1 := by decide
  have t4 : (0 : Int) ≤ 2 := by decide
  have t5 : (2 : Int).toNat ≤ 281474976710656 := by decide
  have t6 : (([] : List Int).length : Nat) < 140737488355328 := by decide
  have t7 : ∀ z : Int, ([z].length : Nat) < 140737488355328 := fun _ => by simp
  unfold special_open.f oe
  rw [hx]
  simp only [Option.bind_some]
  by_cases hm : me f m = 0
  · simp only [hm, if_true, l1, t4, t5, List.replicate, special_open.l0, r0, r1, w1, w2, t0, t1, t2, t3, if_false, Int.le_refl]
    by_cases e1 : errz f a b = 0
    · rw [classz_good _ (gz_of e1 ha hb)]
      simp only [Option.bind_some, if_true, t6, e1, List.nil_append, t7]
      by_cases e2 : errz f c d = 0
      · rw [classz_good _ (gz_of e2 hc hd)]
        simp only [Option.bind_some, if_true, e2, List.singleton_append, t7]
      · rw [classz_bad _ hc hd e2]
        simp only [Option.bind_some, if_neg e2]
    · rw [classz_bad _ ha hb e1]
      simp only [Option.bind_some, if_neg e1]
  · simp only [if_neg hm]
theorem opens_val (k : Nat) {f m a b c d : Int} : cutplanelaw11_opens.f (k + 3) f m [⟨a, b⟩, ⟨c, d⟩] = some (oe f m a b c d) := by
  unfold cutplanelaw11_opens.f cutplaneref05_Opens.f oe me
  rw [ref_Is]
  by_cases hf : f = 1 ∨ f = 2
  · have hi : cutplaneref04_Is.f m = some (decide (Md m)) := by
      unfold cutplaneref04_Is.f Md
      simp only [ge_iff_le]
      by_cases h1 : 1 ≤ m <;> by_cases h5 : m ≤ 5 <;> simp [h1, h5]
    have l0 : ¬ (0 : Int) < (([] : List Int).length : Int) := by decide
    simp only [Option.bind_some, hf, decide_true, if_true, hi]
    by_cases hm : Md m
    · simp only [hm, decide_true, if_true, cutplaneref05_Opens.l0, l0, if_false, Option.bind_some, ref_Goodz2]
    · simp [hm]
  · simp [hf]
theorem gd_fmt {f w : Int} (h : Gd f w) : f = 1 ∨ f = 2 := by rcases h with ⟨rfl, _⟩ | ⟨rfl, _⟩ <;> simp
def sd (f w : Int) (inf : Bool) : Int × Bool := if cl f w = 5 then (0, false) else if (if inf then cl f w = 4 else cl f w ≠ 1) then (if w ≥ sgn f then (-1, true) else (1, false)) else (0, decide (w ≥ sgn f))
theorem side_val (k : Nat) {f w : Int} (h : Gd f w) (inf : Bool) : special_sideOf.f (k + 3) f w inf = some (sd f w inf) := by
  unfold special_sideOf.f sd
  rw [class_good (k + 1) h, split_good (k + 1) h]
  simp only [Option.bind_some]
  cases inf <;> simp only [Bool.false_eq_true, if_false, if_true, special_sideOf.j0]
  · by_cases c5 : cl f w = 5 <;> by_cases c1 : cl f w = 1 <;> by_cases s : w ≥ sgn f <;> simp [c5, c1, s]
  · by_cases c5 : cl f w = 5 <;> by_cases c1 : cl f w = 4 <;> by_cases s : w ≥ sgn f <;> simp [c5, c1, s]
theorem box_val (k : Nat) {f a b : Int} (h : Gz f a b) (z : Int) : special_boxOf.f (k + 3) f a b z = some ((sd f a (z == 3)).1, (sd f a (z == 3)).2, (sd f b (z == 3)).1, (sd f b (z == 3)).2) := by
  unfold special_boxOf.f
  rw [side_val k h.1, side_val k h.2]; rfl
/-- the sides there are -/
def Sd (s : Int × Bool) : Prop := s = (1, false) ∨ s = (-1, true) ∨ s = (0, false) ∨ s = (0, true)
theorem sd_ok (f w : Int) (inf : Bool) : Sd (sd f w inf) := by
  unfold sd Sd
  by_cases c5 : cl f w = 5
  · simp [c5]
  · rw [if_neg c5]
    by_cases c : (if inf then cl f w = 4 else cl f w ≠ 1)
    · rw [if_pos c]
      by_cases s : w ≥ sgn f <;> simp [s]
    · rw [if_neg c]
      by_cases s : w ≥ sgn f <;> simp [s]
def onew (f : Int) : Int := if f = 1 then 1065353216 else 4607182418800017408
def wv (f size : Int) (s : Int × Bool) : Int := if s.2 then (if s.1 = 0 then 0 else size) + sgn f else (if s.1 = 0 then 0 else size)
theorem small_ok {f v : Int} (hf : f = 1 ∨ f = 2) (hv : v = 0 ∨ v = onew f ∨ v = infw f) : Gd f v ∧ cl f v ≠ 5 ∧ v < sgn f := by
  rcases hf with rfl | rfl
  · rcases hv with rfl | rfl | rfl
    · exact ⟨.inl ⟨rfl, by decide, by decide⟩, by decide, by decide⟩
    · exact ⟨.inl ⟨rfl, by decide, by decide⟩, by decide, by decide⟩
    · exact ⟨.inl ⟨rfl, by decide, by decide⟩, by decide, by decide⟩
  · rcases hv with rfl | rfl | rfl
    · exact ⟨.inr ⟨rfl, by decide, by decide⟩, by decide, by decide⟩
    · exact ⟨.inr ⟨rfl, by decide, by decide⟩, by decide, by decide⟩
    · exact ⟨.inr ⟨rfl, by decide, by decide⟩, by decide, by decide⟩
theorem part_val (k : Nat) {f size : Int} (hf : f = 1 ∨ f = 2) (hs : size = 0 ∨ size = onew f ∨ size = infw f) (n : Int) (g : Bool) : special_box_words.p (k + 2) f n g size = some (wv f size (n, g)) := by
  unfold special_box_words.p wv
  cases g
  · rfl
  · simp only [if_true]
    have hv : (if n = 0 then 0 else size) = 0 ∨ (if n = 0 then 0 else size) = onew f ∨ (if n = 0 then 0 else size) = infw f := by split; exact .inl rfl; exact hs
    generalize (if n = 0 then 0 else size) = v at hv ⊢
    obtain ⟨h1, h2, h3⟩ := small_ok hf hv
    rw [neg_good k h1]
    simp only [Option.bind_some]
    congr 1
    unfold negw flipw
    rw [if_neg h2, if_neg (by omega)]
theorem words_val (k : Nat) {f size : Int} (hf : f = 1 ∨ f = 2) (hs : size = 0 ∨ size = onew f ∨ size = infw f) (n0 : Int) (g0 : Bool) (n1 : Int) (g1 : Bool) : special_box_words.f (k + 2) n0 g0 n1 g1 f size = some (wv f size (n0, g0), wv f size (n1, g1)) := by
  unfold special_box_words.f
  rw [part_val k hf hs, part_val k hf hs]; rfl
theorem known11 (k : Nat) : cutplanelaw11_known.f (k + 24) = some true := up_ (g := fun k => cutplanelaw11_known.f k) (fun k => cutplanelaw11_known.mono k) (by decide +kernel) k
/-- a number's direction -/
def bw (f a b : Int) : Int × Int := (wv f (onew f) (sd f a (zc f a b == 3)), wv f (onew f) (sd f b (zc f a b == 3)))
theorem zc_nan {f a b : Int} (h4 : zc f a b ≠ 4) (h3 : zc f a b ≠ 3) : cl f a ≠ 5 ∧ cl f b ≠ 5 := by
  unfold zc at h4 h3
  by_cases c4 : cl f a = 4 ∨ cl f b = 4
  · simp [c4] at h3
  · rw [if_neg c4] at h4
    by_cases c5 : cl f a = 5 ∨ cl f b = 5
    · simp [c5] at h4
    · exact ⟨fun h => c5 (.inl h), fun h => c5 (.inr h)⟩
theorem of_one (k : Nat) {f : Int} (hf : f = 1 ∨ f = 2) : word_Of.f (k + 12) f false ([1] : List Int) 0 = some (onew f, 0) := by
  rcases hf with rfl | rfl
  · exact up_ (g := fun k => word_Of.f k 1 false [1] 0) (fun k => word_Of.mono _ _ _ _ k) (by decide +kernel) k
  · exact up_ (g := fun k => word_Of.f k 2 false [1] 0) (fun k => word_Of.mono _ _ _ _ k) (by decide +kernel) k
theorem zbox_good (k : Nat) {f a b : Int} (h : Gz f a b) (h4 : zc f a b ≠ 4) : special_Box.f (k + 12) f a b = some ((bw f a b).1, (bw f a b).2, 0) := by
  have hf := gd_fmt h.1
  unfold special_Box.f bw
  rw [classz_good _ h]
  simp only [Option.bind_some, if_true, if_neg h4, of_one k hf, box_val _ h, words_val _ hf (.inr (.inl rfl))]
theorem zbox_none (k : Nat) {f a b : Int} (h : Gz f a b) (h4 : zc f a b = 4) : special_Box.f (k + 2) f a b = some (0, 0, 7) := by
  unfold special_Box.f
  rw [classz_good _ h, h4]; rfl
end Go.Proofs.Ytlgapmhjaaajfaa.PA
end

section
namespace Go.Proofs.Ytlgapmhjaaajfaa.PA
open Go.RowKit Go.Proofs.YtlgapmhjaaajfaaW.PrintWords Go.Proofs.YtlgapmhjaaajfaaW.PrintLast Go.Proofs.YtlgapmhjaaajfaaW.PrintMore Go.Proofs.Ytlgapmhjaaajfaa.Wd
set_option linter.unusedSimpArgs false
set_option linter.unusedVariables false
def tm (s t : Int × Bool) : Int × Bool := (wrap64 (s.1 * t.1), s.2 != t.2)
def mn (s : Int × Bool) : Int × Bool := (wrap64 (-s.1), !s.2)
def pl (s t : Int × Bool) (m : Int) : Int × Bool := (special_side_plus.f s.1 s.2 t.1 t.2 m).getD (0, false)
theorem plus_val (s t : Int × Bool) (m : Int) : special_side_plus.f s.1 s.2 t.1 t.2 m = some (pl s t m) := by
  unfold pl special_side_plus.f
  repeat' split
  all_goals rfl
def btm (s t : (Int × Bool) × (Int × Bool)) (m : Int) : (Int × Bool) × (Int × Bool) := (pl (tm s.1 t.1) (mn (tm s.2 t.2)) m, pl (tm s.1 t.2) (tm s.2 t.1) m)
theorem times_val (s t : (Int × Bool) × (Int × Bool)) (m : Int) : special_box_times.f s.1.1 s.1.2 s.2.1 s.2.2 t.1.1 t.1.2 t.2.1 t.2.2 m = some ((btm s t m).1.1, (btm s t m).1.2, (btm s t m).2.1, (btm s t m).2.2) := by
  have h1 := plus_val (tm s.1 t.1) (mn (tm s.2 t.2)) m
  have h2 := plus_val (tm s.1 t.2) (tm s.2 t.1) m
  unfold tm mn at h1
  unfold tm at h2
  unfold special_box_times.f special_side_times.f special_side_minus.f btm tm mn
  simp only [Option.bind_some, h1, h2]
/-- a number's box -/
def bx (f a b : Int) : (Int × Bool) × (Int × Bool) := (sd f a (zc f a b == 3), sd f b (zc f a b == 3))
def wz (f size : Int) (s : (Int × Bool) × (Int × Bool)) : Int × Int := (wv f size s.1, wv f size s.2)
/-- what a product comes to -/
def mulv (f m a b c d : Int) : Int × Int × Int × Int × Bool × Int :=
  if zc f a b ≤ 2 ∧ zc f c d ≤ 2 then (0, 0, 0, 0, false, 0) else if zc f a b = 4 ∨ zc f c d = 4 then (nanw f, nanw f, 0, 0, true, 0) else
    if zc f a b = 1 ∨ zc f c d = 1 then (nanw f, nanw f, 1, 1, true, 0) else ((wz f (infw f) (btm (bx f a b) (bx f c d) m)).1, (wz f (infw f) (btm (bx f a b) (bx f c d) m)).2, 0, 0, true, 0)
theorem snone_val (k : Nat) {f : Int} (hf : f = 1 ∨ f = 2) (x : Int) : special_none.f (k + 1) f x = some (nanw f, nanw f, x, x) := by
  unfold special_none.f
  rw [none_good k hf]; rfl
theorem oe_gz {f m a b c d : Int} (h : oe f m a b c d = 0) (ha : U a) (hb : U b) (hc : U c) (hd : U d) : Gz f a b ∧ Gz f c d ∧ Md m := by
  unfold oe at h
  by_cases hm : me f m = 0
  · rw [if_pos hm] at h
    have hM : Md m := by
      unfold me at hm
      by_cases hf : f = 1 ∨ f = 2
      · rw [if_pos hf] at hm
        by_cases hM : Md m
        · exact hM
        · rw [if_neg hM] at hm; exact absurd hm (by decide)
      · rw [if_neg hf] at hm; exact absurd hm (by decide)
    by_cases e : errz f a b = 0
    · rw [if_pos e] at h
      exact ⟨gz_of e ha hb, gz_of h hc hd, hM⟩
    · rw [if_neg e] at h; exact absurd h e
  · rw [if_neg hm] at h; exact absurd h hm
theorem mul_good (k : Nat) {f m a b c d : Int} (ha : U a) (hb : U b) (hc : U c) (hd : U d) (h : oe f m a b c d = 0) : special_Mul.f (k + 8) f m a b c d = some (mulv f m a b c d) := by
  obtain ⟨g1, g2, hM⟩ := oe_gz h ha hb hc hd
  have hf := gd_fmt g1.1
  have l2 : ∀ x y : Int, (([x, y] : List Int).length : Int) = 2 := fun _ _ => rfl
  have t0 : (0 : Int) < 2 := by decide
  have t1 : (1 : Int) < 2 := by decide
  have r0 : ∀ x y : Int, rd [x, y] 0 = x := fun _ _ => rfl
  have r1 : ∀ x y : Int, rd [x, y] 1 = y := fun _ _ => rfl
  have hbt := times_val (bx f a b) (bx f c d) m
  unfold special_Mul.f
  rw [zopen_val (k + 2) ha hb hc hd, if_pos h]
  simp only [Option.bind_some, if_true, l2, t0, t1, r0, r1, inf_good _ hf, Bool.false_eq_true, if_false]
  have tail : ∀ q : Nat, special_Mul.j1 (q + 5) f m (zc f a b) (zc f c d) (infw f) false a b c d = some (if zc f a b = 1 ∨ zc f c d = 1 then (nanw f, nanw f, 1, 1, true, 0) else ((wz f (infw f) (btm (bx f a b) (bx f c d) m)).1, (wz f (infw f) (btm (bx f a b) (bx f c d) m)).2, 0, 0, true, 0)) := by
    intro q
    simp only [special_Mul.j1, Bool.false_eq_true, if_false, snone_val _ hf, Option.bind_some]
    by_cases p1 : zc f a b = 1
    · simp [p1]
    · by_cases q1 : zc f c d = 1
      · simp [p1, q1]
      · simp only [p1, q1, if_false, or_self, box_val _ g1, box_val _ g2, Option.bind_some]
        unfold bx at hbt
        rw [hbt]
        simp only [Option.bind_some, words_val _ hf (.inr (.inr rfl))]
        rfl
  have nn : ∀ q : Nat, special_Mul.j1 (q + 5) f m (zc f a b) (zc f c d) (infw f) true a b c d = some (nanw f, nanw f, 0, 0, true, 0) := by
    intro q
    simp only [special_Mul.j1, if_true, snone_val _ hf, Option.bind_some]
  have step : ∀ q : Nat, special_Mul.j0 (q + 6) f m (zc f a b) (zc f c d) (infw f) false a b c d = some (if zc f a b = 4 ∨ zc f c d = 4 then (nanw f, nanw f, 0, 0, true, 0) else if zc f a b = 1 ∨ zc f c d = 1 then (nanw f, nanw f, 1, 1, true, 0) else ((wz f (infw f) (btm (bx f a b) (bx f c d) m)).1, (wz f (infw f) (btm (bx f a b) (bx f c d) m)).2, 0, 0, true, 0)) := by
    intro q
    simp only [special_Mul.j0, Bool.false_eq_true, if_false]
    by_cases p4 : zc f a b = 4
    · rw [if_pos p4, nn, if_pos (.inl p4)]
    · rw [if_neg p4]
      by_cases q4 : zc f c d = 4
      · rw [show (zc f c d == 4) = true from beq_iff_eq.mpr q4, nn, if_pos (.inr q4)]
      · rw [show (zc f c d == 4) = false from beq_eq_false_iff_ne.mpr q4, tail, if_neg (show ¬ (zc f a b = 4 ∨ zc f c d = 4) from fun h => h.elim p4 q4)]
  unfold mulv
  by_cases p2 : zc f a b ≤ 2
  · rw [if_pos p2]
    by_cases q2 : zc f c d ≤ 2
    · rw [show decide (zc f c d ≤ 2) = true from decide_eq_true q2, if_pos ⟨p2, q2⟩]
      simp only [special_Mul.j0, if_true]
    · rw [show decide (zc f c d ≤ 2) = false from decide_eq_false q2, if_neg (fun h => q2 h.2), step (k + 2)]
  · rw [if_neg p2, if_neg (fun h => p2 h.1), step (k + 2)]
theorem tm_ok {s t : Int × Bool} (hs : Sd s) (ht : Sd t) : Sd (tm s t) := by
  rcases hs with rfl | rfl | rfl | rfl <;> rcases ht with rfl | rfl | rfl | rfl <;> unfold Sd <;> decide +kernel
theorem mn_ok {s : Int × Bool} (hs : Sd s) : Sd (mn s) := by
  rcases hs with rfl | rfl | rfl | rfl <;> unfold Sd <;> decide +kernel
theorem tm_comm (s t : Int × Bool) : tm s t = tm t s := by
  obtain ⟨a, b⟩ := s
  obtain ⟨c, d⟩ := t
  unfold tm
  simp only
  rw [Int.mul_comm]
  cases b <;> cases d <;> rfl
theorem pl_fst (s t : Int × Bool) (m : Int) : (pl s t m).1 = wrap64 (s.1 + t.1) := by
  unfold pl special_side_plus.f
  by_cases h : wrap64 (s.1 + t.1) = 0
  · rw [if_pos h, h]
    by_cases h0 : s.1 = 0
    · rw [if_pos h0]
      split
      · exact h0
      · rfl
    · rw [if_neg h0]; rfl
  · rw [if_neg h]; rfl
theorem pl_comm {s t : Int × Bool} (hs : Sd s) (ht : Sd t) (m : Int) : pl s t m = pl t s m := by
  rcases hs with rfl | rfl | rfl | rfl <;> rcases ht with rfl | rfl | rfl | rfl <;> kernel_rfl
theorem btm_comm {s t : (Int × Bool) × (Int × Bool)} (h1 : Sd s.1) (h2 : Sd s.2) (h3 : Sd t.1) (h4 : Sd t.2) (m : Int) : btm s t m = btm t s m := by
  unfold btm
  rw [tm_comm t.1 s.1, tm_comm t.2 s.2, tm_comm t.1 s.2, tm_comm t.2 s.1, pl_comm (tm_ok h2 h3) (tm_ok h1 h4)]
theorem btm_big {s t : (Int × Bool) × (Int × Bool)} (h1 : Sd s.1) (h2 : Sd s.2) (h3 : Sd t.1) (h4 : Sd t.2) (m : Int) (hs : s.1.1 ≠ 0 ∨ s.2.1 ≠ 0) (ht : t.1.1 ≠ 0 ∨ t.2.1 ≠ 0) : (btm s t m).1.1 ≠ 0 ∨ (btm s t m).2.1 ≠ 0 := by
  obtain ⟨s1, s2⟩ := s
  obtain ⟨t1, t2⟩ := t
  have key : ∀ x y z u : Int × Bool, Sd x → Sd y → Sd z → Sd u → (x.1 ≠ 0 ∨ y.1 ≠ 0) → (z.1 ≠ 0 ∨ u.1 ≠ 0) → (wrap64 ((tm x z).1 + (mn (tm y u)).1) ≠ 0 ∨ wrap64 ((tm x u).1 + (tm y z).1) ≠ 0) := by
    intro x y z u hx hy hz hu
    rcases hx with rfl | rfl | rfl | rfl <;> rcases hy with rfl | rfl | rfl | rfl <;> rcases hz with rfl | rfl | rfl | rfl <;> rcases hu with rfl | rfl | rfl | rfl <;> decide +kernel
  have h := key s1 s2 t1 t2 h1 h2 h3 h4 hs ht
  unfold btm
  simp only [pl_fst]
  exact h
theorem bx_ok (f a b : Int) : Sd (bx f a b).1 ∧ Sd (bx f a b).2 := ⟨sd_ok _ _ _, sd_ok _ _ _⟩
theorem bx_big {f a b : Int} (h4 : zc f a b ≠ 4) (h1 : zc f a b ≠ 1) : (bx f a b).1.1 ≠ 0 ∨ (bx f a b).2.1 ≠ 0 := by
  have key : ∀ w inf, cl f w ≠ 5 → (if inf = true then cl f w = 4 else cl f w ≠ 1) → (sd f w inf).1 ≠ 0 := by
    intro w inf c5 c
    unfold sd
    rw [if_neg c5, if_pos c]
    by_cases s : w ≥ sgn f <;> simp [s]
  unfold bx
  by_cases h3 : zc f a b = 3
  · rw [h3]
    have h := h3
    unfold zc at h
    by_cases c4 : cl f a = 4 ∨ cl f b = 4
    · rcases c4 with c | c
      · exact .inl (key a true (by rw [c]; decide) (by simp [c]))
      · exact .inr (key b true (by rw [c]; decide) (by simp [c]))
    · rw [if_neg c4] at h
      repeat' split at h
      all_goals exact absurd h (by decide)
  · rw [show (zc f a b == 3) = false from beq_eq_false_iff_ne.mpr h3]
    obtain ⟨n1, n2⟩ := zc_nan h4 h3
    have h := h1
    unfold zc at h
    by_cases c1 : cl f a = 1
    · by_cases c2 : cl f b = 1
      · simp [c1, c2] at h
      · exact .inr (key b false n2 (by simp [c2]))
    · exact .inl (key a false n1 (by simp [c1]))
theorem cl_inf {f : Int} (hf : f = 1 ∨ f = 2) {s : Int × Bool} (h : s.1 ≠ 0) : cl f (wv f (infw f) s) = 4 := by
  unfold wv
  rw [if_neg h]
  rcases hf with rfl | rfl <;> cases s.2 <;> decide +kernel
theorem wz_inf {f : Int} (hf : f = 1 ∨ f = 2) {s : (Int × Bool) × (Int × Bool)} (h : s.1.1 ≠ 0 ∨ s.2.1 ≠ 0) : zc f (wz f (infw f) s).1 (wz f (infw f) s).2 = 3 := by
  unfold zc wz
  rw [if_pos (h.elim (fun h => .inl (cl_inf hf h)) (fun h => .inr (cl_inf hf h)))]
theorem wz_nought {f : Int} (hf : f = 1 ∨ f = 2) (s : (Int × Bool) × (Int × Bool)) : zc f (wz f 0 s).1 (wz f 0 s).2 = 1 := by
  have key : ∀ s : Int × Bool, cl f (wv f 0 s) = 1 := by
    intro s
    unfold wv
    rw [show (if s.1 = 0 then (0 : Int) else 0) = 0 by split <;> rfl]
    rcases hf with rfl | rfl <;> cases s.2 <;> decide +kernel
  unfold zc wz
  simp [key]
theorem nan_zc {f : Int} (hf : f = 1 ∨ f = 2) : zc f (nanw f) (nanw f) = 4 := by
  rcases hf with rfl | rfl <;> decide +kernel
theorem u_wv {f size : Int} (hf : f = 1 ∨ f = 2) (hs : size = 0 ∨ size = onew f ∨ size = infw f) (s : Int × Bool) : Gd f (wv f size s) := by
  have h0 := small_ok hf (v := 0) (.inl rfl)
  have h1 := small_ok hf hs
  have hsg := sgn_cases f
  have key : ∀ v, Gd f v → v < sgn f → Gd f (v + sgn f) := by
    intro v hv hl
    rcases hv with ⟨rfl, a, b⟩ | ⟨rfl, a, b⟩
    · exact .inl ⟨rfl, by unfold sgn at *; simp at *; omega, by unfold sgn at *; simp at *; omega⟩
    · exact .inr ⟨rfl, by unfold sgn at *; simp at *; omega, by unfold sgn at *; simp at *; omega⟩
  unfold wv
  by_cases c : s.1 = 0
  · rw [if_pos c]
    cases s.2
    · exact h0.1
    · exact key _ h0.1 h0.2.2
  · rw [if_neg c]
    cases s.2
    · exact h1.1
    · exact key _ h1.1 h1.2.2
end Go.Proofs.Ytlgapmhjaaajfaa.PA
end

section
namespace Go.Proofs.Ytlgapmhjaaajfaa.PA
open Go.RowKit Go.Proofs.YtlgapmhjaaajfaaW.PrintWords Go.Proofs.YtlgapmhjaaajfaaW.PrintLast Go.Proofs.YtlgapmhjaaajfaaW.PrintMore Go.Proofs.Ytlgapmhjaaajfaa.Wd
set_option linter.unusedSimpArgs false
set_option linter.unusedVariables false
/-- the box by which is divided -/
def byx (f c d : Int) : (Int × Bool) × (Int × Bool) := (if zc f c d = 1 then (if (bx f c d).1.2 = true then (-1, (bx f c d).1.2) else (1, (bx f c d).1.2)) else (bx f c d).1, mn (bx f c d).2)
/-- what a quotient comes to -/
def divv (f m a b c d : Int) : Int × Int × Int × Int × Bool × Int :=
  if zc f a b ≤ 2 ∧ zc f c d = 2 then (0, 0, 0, 0, false, 0) else if zc f a b = 4 ∨ zc f c d = 4 then (nanw f, nanw f, 0, 0, true, 0) else
    if zc f a b = zc f c d then (nanw f, nanw f, 1, 1, true, 0) else if zc f c d = 3 then ((wz f 0 (btm (bx f a b) (byx f c d) m)).1, (wz f 0 (btm (bx f a b) (byx f c d) m)).2, 0, 0, true, 0) else
      if zc f a b = 3 then ((wz f (infw f) (btm (bx f a b) (byx f c d) m)).1, (wz f (infw f) (btm (bx f a b) (byx f c d) m)).2, 0, 0, true, 0) else ((wz f (infw f) (btm (bx f a b) (byx f c d) m)).1, (wz f (infw f) (btm (bx f a b) (byx f c d) m)).2, 2, 2, true, 0)
theorem div_good (k : Nat) {f m a b c d : Int} (ha : U a) (hb : U b) (hc : U c) (hd : U d) (h : oe f m a b c d = 0) : special_Div.f (k + 9) f m a b c d = some (divv f m a b c d) := by
  obtain ⟨g1, g2, hM⟩ := oe_gz h ha hb hc hd
  have hf := gd_fmt g1.1
  have l2 : ∀ x y : Int, (([x, y] : List Int).length : Int) = 2 := fun _ _ => rfl
  have t0 : (0 : Int) < 2 := by decide
  have t1 : (1 : Int) < 2 := by decide
  have r0 : ∀ x y : Int, rd [x, y] 0 = x := fun _ _ => rfl
  have r1 : ∀ x y : Int, rd [x, y] 1 = y := fun _ _ => rfl
  unfold special_Div.f
  rw [zopen_val (k + 3) ha hb hc hd, if_pos h]
  simp only [Option.bind_some, if_true, l2, t0, t1, r0, r1, inf_good _ hf, Bool.false_eq_true, if_false]
  have last : ∀ (q : Nat) (n : Int) (g : Bool), (n, g) = (byx f c d).1 → special_Div.j2 (q + 5) f m (zc f a b) (zc f c d) (infw f) a b n g (bx f c d).2.1 (bx f c d).2.2 = some (if zc f c d = 3 then ((wz f 0 (btm (bx f a b) (byx f c d) m)).1, (wz f 0 (btm (bx f a b) (byx f c d) m)).2, 0, 0, true, 0) else
      if zc f a b = 3 then ((wz f (infw f) (btm (bx f a b) (byx f c d) m)).1, (wz f (infw f) (btm (bx f a b) (byx f c d) m)).2, 0, 0, true, 0) else ((wz f (infw f) (btm (bx f a b) (byx f c d) m)).1, (wz f (infw f) (btm (bx f a b) (byx f c d) m)).2, 2, 2, true, 0)) := by
    intro q n g e
    have hbt := times_val (bx f a b) (byx f c d) m
    rw [← e] at hbt
    simp only at hbt
    have hmn : special_side_minus.f (bx f c d).2.1 (bx f c d).2.2 = some (byx f c d).2 := rfl
    have hba := box_val (q + 1) g1 (zc f a b)
    have hbx : special_boxOf.f (q + 1 + 3) f a b (zc f a b) = some ((bx f a b).1.1, (bx f a b).1.2, (bx f a b).2.1, (bx f a b).2.2) := hba
    simp only [special_Div.j2, hmn, Option.bind_some, hbx, hbt, words_val _ hf (.inr (.inr rfl)), words_val _ hf (.inl rfl)]
    unfold wz
    by_cases q3 : zc f c d = 3
    · rw [if_pos q3, if_pos q3]
    · rw [if_neg q3, if_neg q3]
      by_cases p3 : zc f a b = 3
      · rw [if_pos p3, if_pos p3]
      · rw [if_neg p3, if_neg p3]
  have tail : ∀ q : Nat, special_Div.j1 (q + 6) f m (zc f a b) (zc f c d) (infw f) false a b c d = some (if zc f a b = zc f c d then (nanw f, nanw f, 1, 1, true, 0) else if zc f c d = 3 then ((wz f 0 (btm (bx f a b) (byx f c d) m)).1, (wz f 0 (btm (bx f a b) (byx f c d) m)).2, 0, 0, true, 0) else
      if zc f a b = 3 then ((wz f (infw f) (btm (bx f a b) (byx f c d) m)).1, (wz f (infw f) (btm (bx f a b) (byx f c d) m)).2, 0, 0, true, 0) else ((wz f (infw f) (btm (bx f a b) (byx f c d) m)).1, (wz f (infw f) (btm (bx f a b) (byx f c d) m)).2, 2, 2, true, 0)) := by
    intro q
    simp only [special_Div.j1, Bool.false_eq_true, if_false, snone_val _ hf, Option.bind_some]
    by_cases e : zc f a b = zc f c d
    · rw [if_pos e, if_pos e]
    · rw [if_neg e, if_neg e]
      have hbc : special_boxOf.f (q + 2 + 3) f c d (zc f c d) = some ((bx f c d).1.1, (bx f c d).1.2, (bx f c d).2.1, (bx f c d).2.2) := box_val (q + 2) g2 (zc f c d)
      simp only [hbc, Option.bind_some]
      by_cases q1 : zc f c d = 1
      · rw [if_pos q1]
        by_cases g : (bx f c d).1.2 = true
        · rw [if_pos g, last q _ _ (by unfold byx; rw [if_pos q1, if_pos g])]
        · rw [if_neg g, last q _ _ (by unfold byx; rw [if_pos q1, if_neg g])]
      · rw [if_neg q1, last q _ _ (by unfold byx; rw [if_neg q1])]
  have nn : ∀ q : Nat, special_Div.j1 (q + 5) f m (zc f a b) (zc f c d) (infw f) true a b c d = some (nanw f, nanw f, 0, 0, true, 0) := by
    intro q
    simp only [special_Div.j1, if_true, snone_val _ hf, Option.bind_some]
  have step : ∀ q : Nat, special_Div.j0 (q + 7) f m (zc f a b) (zc f c d) (infw f) false a b c d = some (if zc f a b = 4 ∨ zc f c d = 4 then (nanw f, nanw f, 0, 0, true, 0) else if zc f a b = zc f c d then (nanw f, nanw f, 1, 1, true, 0) else if zc f c d = 3 then ((wz f 0 (btm (bx f a b) (byx f c d) m)).1, (wz f 0 (btm (bx f a b) (byx f c d) m)).2, 0, 0, true, 0) else
      if zc f a b = 3 then ((wz f (infw f) (btm (bx f a b) (byx f c d) m)).1, (wz f (infw f) (btm (bx f a b) (byx f c d) m)).2, 0, 0, true, 0) else ((wz f (infw f) (btm (bx f a b) (byx f c d) m)).1, (wz f (infw f) (btm (bx f a b) (byx f c d) m)).2, 2, 2, true, 0)) := by
    intro q
    simp only [special_Div.j0, Bool.false_eq_true, if_false]
    by_cases p4 : zc f a b = 4
    · rw [if_pos p4, nn (q + 1), if_pos (.inl p4)]
    · rw [if_neg p4]
      by_cases q4 : zc f c d = 4
      · rw [show (zc f c d == 4) = true from beq_iff_eq.mpr q4, nn (q + 1), if_pos (.inr q4)]
      · rw [show (zc f c d == 4) = false from beq_eq_false_iff_ne.mpr q4, tail, if_neg (show ¬ (zc f a b = 4 ∨ zc f c d = 4) from fun h => h.elim p4 q4)]
  unfold divv
  by_cases p2 : zc f a b ≤ 2
  · rw [if_pos p2]
    by_cases q2 : zc f c d = 2
    · rw [show (zc f c d == 2) = true from beq_iff_eq.mpr q2, if_pos ⟨p2, q2⟩]
      simp only [special_Div.j0, if_true]
    · rw [show (zc f c d == 2) = false from beq_eq_false_iff_ne.mpr q2, if_neg (fun h => q2 h.2), step (k + 2)]
  · rw [if_neg p2, if_neg (fun h => p2 h.1), step (k + 2)]
theorem byx_ok (f c d : Int) : Sd (byx f c d).1 ∧ Sd (byx f c d).2 := by
  obtain ⟨h1, h2⟩ := bx_ok f c d
  unfold byx
  refine ⟨?_, mn_ok h2⟩
  by_cases q : zc f c d = 1
  · rw [if_pos q]
    by_cases g : (bx f c d).1.2 = true
    · rw [if_pos g, g]; exact .inr (.inl rfl)
    · rw [if_neg g, Bool.eq_false_iff.mpr g]; exact .inl rfl
  · rw [if_neg q]; exact h1
theorem byx_big {f c d : Int} (h4 : zc f c d ≠ 4) : (byx f c d).1.1 ≠ 0 ∨ (byx f c d).2.1 ≠ 0 := by
  unfold byx
  by_cases q : zc f c d = 1
  · rw [if_pos q]
    left
    by_cases g : (bx f c d).1.2 = true
    · rw [if_pos g]; exact (by decide : (-1 : Int) ≠ 0)
    · rw [if_neg g]; exact (by decide : (1 : Int) ≠ 0)
  · rw [if_neg q]
    rcases bx_big h4 q with h | h
    · exact .inl h
    · right
      obtain ⟨_, h2⟩ := bx_ok f c d
      rcases h2 with e | e | e | e <;> rw [e] at h ⊢ <;> first | exact absurd rfl h | exact (by decide +kernel : (mn (1, false)).1 ≠ 0) | exact (by decide +kernel : (mn (-1, true)).1 ≠ 0)
end Go.Proofs.Ytlgapmhjaaajfaa.PA
end

section
namespace Go.Proofs.Ytlgapmhjaaajfaa.Pure
open Go.RowKit Go.Proofs.Ytlgapmhjaaajfaa.PA Go.Proofs.YtlgapmhjaaajfaaW.PrintWords Go.Proofs.YtlgapmhjaaajfaaW.PrintLast Go.Proofs.YtlgapmhjaaajfaaW.PrintMore Go.Proofs.Ytlgapmhjaaajfaa.Wd
set_option linter.unusedSimpArgs false
set_option linter.unusedVariables false
theorem zc_val (f a b : Int) : zc f a b = 1 ∨ zc f a b = 2 ∨ zc f a b = 3 ∨ zc f a b = 4 := by
  unfold zc
  repeat' split
  all_goals simp
theorem fin_zc (f a b : Int) : zc f a b ≤ 2 ↔ (cl f a ≠ 4 ∧ cl f a ≠ 5) ∧ (cl f b ≠ 4 ∧ cl f b ≠ 5) := by
  unfold zc
  by_cases a4 : cl f a = 4 <;> by_cases b4 : cl f b = 4 <;> by_cases a5 : cl f a = 5 <;> by_cases b5 : cl f b = 5 <;> by_cases c : cl f a = 1 <;> by_cases c2 : cl f b = 1 <;> simp_all
theorem ref_Fin (k : Nat) {f w : Int} (h : Gd f w) : cutplaneref03_Finite.f (k + 1) f w = some (decide (cl f w ≠ 4 ∧ cl f w ≠ 5)) := by
  unfold cutplaneref03_Finite.f
  rw [ref_Class k f h.u]
  simp only [Option.bind_some]
  by_cases a4 : cl f w = 4 <;> by_cases a5 : cl f w = 5 <;> simp_all
theorem ref_Finz (k : Nat) {f a b : Int} (h : Gz f a b) : cutplaneref10_Finite.f (k + 1) f a b = some (decide (zc f a b ≤ 2)) := by
  unfold cutplaneref10_Finite.f
  rw [ref_Fin k h.1, ref_Fin k h.2]
  simp only [Option.bind_some, fin_zc]
  by_cases p : cl f a ≠ 4 ∧ cl f a ≠ 5 <;> by_cases q : cl f b ≠ 4 ∧ cl f b ≠ 5 <;> simp [p, q]
theorem oe_swap {f m a b c d : Int} (h : oe f m a b c d = 0) (g1 : Gz f a b) (g2 : Gz f c d) : oe f m c d a b = 0 := by
  unfold oe at h ⊢
  rw [g1.err, g2.err] at *
  exact h
theorem mulv_comm {f m a b c d : Int} : mulv f m a b c d = mulv f m c d a b := by
  unfold mulv
  obtain ⟨h1, h2⟩ := bx_ok f a b
  obtain ⟨h3, h4⟩ := bx_ok f c d
  rw [btm_comm h1 h2 h3 h4]
  simp only [and_comm, or_comm]
theorem u_nan {f : Int} (hf : f = 1 ∨ f = 2) : U (nanw f) := by rcases hf with rfl | rfl <;> exact ⟨by decide, by decide⟩
theorem mul_shape {f m a b c d : Int} (hf : f = 1 ∨ f = 2) : (zc f a b ≤ 2 ∧ zc f c d ≤ 2 ∧ mulv f m a b c d = (0, 0, 0, 0, false, 0)) ∨
    (¬ (zc f a b ≤ 2 ∧ zc f c d ≤ 2) ∧ ∃ x y p q, mulv f m a b c d = (x, y, p, q, true, 0) ∧ U x ∧ U y ∧ (zc f x y = 4 ∨ zc f x y = 3)) := by
  unfold mulv
  by_cases p2 : zc f a b ≤ 2 ∧ zc f c d ≤ 2
  · exact .inl ⟨p2.1, p2.2, by rw [if_pos p2]⟩
  · refine .inr ⟨p2, ?_⟩
    rw [if_neg p2]
    by_cases p4 : zc f a b = 4 ∨ zc f c d = 4
    · rw [if_pos p4]
      exact ⟨_, _, _, _, rfl, u_nan hf, u_nan hf, .inl (nan_zc hf)⟩
    · rw [if_neg p4]
      by_cases p1 : zc f a b = 1 ∨ zc f c d = 1
      · rw [if_pos p1]
        exact ⟨_, _, _, _, rfl, u_nan hf, u_nan hf, .inl (nan_zc hf)⟩
      · rw [if_neg p1]
        obtain ⟨h1, h2⟩ := bx_ok f a b
        obtain ⟨h3, h4⟩ := bx_ok f c d
        exact ⟨_, _, _, _, rfl, (u_wv hf (.inr (.inr rfl)) _).u, (u_wv hf (.inr (.inr rfl)) _).u, .inr (wz_inf hf (btm_big h1 h2 h3 h4 m (bx_big (fun h => p4 (.inl h)) (fun h => p1 (.inl h))) (bx_big (fun h => p4 (.inr h)) (fun h => p1 (.inr h)))))⟩
theorem div_shape {f m a b c d : Int} (hf : f = 1 ∨ f = 2) : (zc f a b ≤ 2 ∧ zc f c d = 2 ∧ divv f m a b c d = (0, 0, 0, 0, false, 0)) ∨
    (¬ (zc f a b ≤ 2 ∧ zc f c d = 2) ∧ ∃ x y p q, divv f m a b c d = (x, y, p, q, true, 0) ∧ U x ∧ U y ∧ (zc f x y = 4 ∨ zc f x y = 3 ∨ zc f x y = 1)) := by
  unfold divv
  by_cases p2 : zc f a b ≤ 2 ∧ zc f c d = 2
  · exact .inl ⟨p2.1, p2.2, by rw [if_pos p2]⟩
  · refine .inr ⟨p2, ?_⟩
    rw [if_neg p2]
    by_cases p4 : zc f a b = 4 ∨ zc f c d = 4
    · rw [if_pos p4]
      exact ⟨_, _, _, _, rfl, u_nan hf, u_nan hf, .inl (nan_zc hf)⟩
    · rw [if_neg p4]
      by_cases e : zc f a b = zc f c d
      · rw [if_pos e]
        exact ⟨_, _, _, _, rfl, u_nan hf, u_nan hf, .inl (nan_zc hf)⟩
      · rw [if_neg e]
        by_cases q3 : zc f c d = 3
        · rw [if_pos q3]
          exact ⟨_, _, _, _, rfl, (u_wv hf (.inl rfl) _).u, (u_wv hf (.inl rfl) _).u, .inr (.inr (wz_nought hf _))⟩
        · rw [if_neg q3]
          have q1 : zc f a b ≠ 1 := by
            intro h
            rcases zc_val f c d with q | q | q | q
            · exact e (h.trans q.symm)
            · exact p2 ⟨by rw [h]; decide, q⟩
            · exact q3 q
            · exact p4 (.inr q)
          obtain ⟨h1, h2⟩ := bx_ok f a b
          obtain ⟨h3, h4⟩ := byx_ok f c d
          have hz := wz_inf hf (btm_big h1 h2 h3 h4 m (bx_big (fun h => p4 (.inl h)) q1) (byx_big (fun h => p4 (.inr h))))
          by_cases p3 : zc f a b = 3
          · rw [if_pos p3]
            exact ⟨_, _, _, _, rfl, (u_wv hf (.inr (.inr rfl)) _).u, (u_wv hf (.inr (.inr rfl)) _).u, .inr (.inl hz)⟩
          · rw [if_neg p3]
            exact ⟨_, _, _, _, rfl, (u_wv hf (.inr (.inr rfl)) _).u, (u_wv hf (.inr (.inr rfl)) _).u, .inr (.inl hz)⟩
theorem sd_back {f : Int} (hf : f = 1 ∨ f = 2) {s : Int × Bool} (hs : Sd s) : sd f (wv f (onew f) s) false = s := by
  rcases hf with rfl | rfl <;> rcases hs with rfl | rfl | rfl | rfl <;> decide +kernel
theorem cl_back {f : Int} (hf : f = 1 ∨ f = 2) {s : Int × Bool} (hs : Sd s) : cl f (wv f (onew f) s) = 1 ∨ cl f (wv f (onew f) s) = 3 := by
  rcases hf with rfl | rfl <;> rcases hs with rfl | rfl | rfl | rfl <;> decide +kernel
theorem bw_back {f a b : Int} (hf : f = 1 ∨ f = 2) : Gz f (bw f a b).1 (bw f a b).2 ∧ zc f (bw f a b).1 (bw f a b).2 ≠ 4 ∧ bw f (bw f a b).1 (bw f a b).2 = bw f a b := by
  have h1 := sd_ok f a (zc f a b == 3)
  have h2 := sd_ok f b (zc f a b == 3)
  have c1 := cl_back hf h1
  have c2 := cl_back hf h2
  have z : zc f (bw f a b).1 (bw f a b).2 ≠ 4 ∧ zc f (bw f a b).1 (bw f a b).2 ≠ 3 := by
    unfold zc bw
    simp only
    rcases c1 with c1 | c1 <;> rcases c2 with c2 | c2 <;> rw [c1, c2] <;> decide
  refine ⟨⟨u_wv hf (.inr (.inl rfl)) _, u_wv hf (.inr (.inl rfl)) _⟩, z.1, ?_⟩
  have e3 : (zc f (bw f a b).1 (bw f a b).2 == 3) = false := beq_eq_false_iff_ne.mpr z.2
  show (wv f (onew f) (sd f (bw f a b).1 (zc f (bw f a b).1 (bw f a b).2 == 3)), wv f (onew f) (sd f (bw f a b).2 (zc f (bw f a b).1 (bw f a b).2 == 3))) = _
  rw [e3]
  unfold bw
  simp only
  rw [sd_back hf h1, sd_back hf h2]
theorem SpecialKinds : cutplanelaw11_SpecialKinds.Pure := by
  intro f m a b c d _ _ ha hb hc hd
  have ua := u_of ha
  have ub := u_of hb
  have uc := u_of hc
  have ud := u_of hd
  refine ⟨40, ?_⟩
  unfold cutplanelaw11_SpecialKinds.f
  rw [opens_val 37]
  simp only [Option.bind_some]
  by_cases h : oe f m a b c d = 0
  · rw [if_pos h]
    obtain ⟨g1, g2, hM⟩ := oe_gz h ua ub uc ud
    have hf := gd_fmt g1.1
    have J : cutplanelaw11_SpecialKinds.j0 40 f m a b c d = some true := by
      have e1 := mul_good 31 ua ub uc ud h
      have e2 := mul_good 31 uc ud ua ub (oe_swap h g1 g2)
      have e3 := div_good 30 ua ub uc ud h
      rw [← mulv_comm] at e2
      simp only [cutplanelaw11_SpecialKinds.j0, e1, e2, e3, Option.bind_some]
      have z1 := zc_val f c d
      rcases mul_shape (f := f) (m := m) (a := a) (b := b) (c := c) (d := d) hf with ⟨p2, q2, hP⟩ | ⟨n2, x, y, p, q, hP, ux, uy, hz⟩
      · rcases div_shape (f := f) (m := m) (a := a) (b := b) (c := c) (d := d) hf with ⟨p3, q3, hD⟩ | ⟨n3, x', y', p', q', hD, ux', uy', hz'⟩
        · rw [hP, hD]
          simp [cutplanelaw11_SpecialKinds.j1, cutplanelaw11_SpecialKinds.j2, ref_Finz _ g1, ref_Finz _ g2, ref_Classz _ f uc ud, ref_Classz _ f (show U 0 from ⟨by decide, by decide⟩) (show U 0 from ⟨by decide, by decide⟩), p2, q2, q3, known11]
        · have w1 : zc f c d = 1 := by
            rcases z1 with z | z | z | z
            · exact z
            · exact absurd ⟨p2, z⟩ n3
            · rw [z] at q2; exact absurd q2 (by decide)
            · rw [z] at q2; exact absurd q2 (by decide)
          rw [hP, hD]
          rcases hz' with z | z | z <;> simp [cutplanelaw11_SpecialKinds.j1, cutplanelaw11_SpecialKinds.j2, ref_Finz _ g1, ref_Finz _ g2, ref_Classz _ f uc ud, ref_Classz _ f ux' uy', ref_Classz _ f (show U 0 from ⟨by decide, by decide⟩) (show U 0 from ⟨by decide, by decide⟩), p2, q2, w1, z, known11]
      · rcases div_shape (f := f) (m := m) (a := a) (b := b) (c := c) (d := d) hf with ⟨p3, q3, hD⟩ | ⟨n3, x', y', p', q', hD, ux', uy', hz'⟩
        · exact absurd ⟨p3, by rw [q3]; decide⟩ n2
        · rw [hP, hD]
          by_cases p2 : zc f a b ≤ 2
          · have q2 : ¬ zc f c d ≤ 2 := fun q2 => n2 ⟨p2, q2⟩
            rcases hz with w | w <;> rcases hz' with z | z | z <;> simp [cutplanelaw11_SpecialKinds.j1, cutplanelaw11_SpecialKinds.j2, ref_Finz _ g1, ref_Finz _ g2, ref_Classz _ f ux uy, ref_Classz _ f ux' uy', p2, q2, w, z, known11]
          · rcases hz with w | w <;> rcases hz' with z | z | z <;> simp [cutplanelaw11_SpecialKinds.j1, cutplanelaw11_SpecialKinds.j2, ref_Finz _ g1, ref_Finz _ g2, ref_Classz _ f ux uy, ref_Classz _ f ux' uy', p2, w, z, known11]
    by_cases h4 : zc f a b = 4
    · rw [zbox_none 38 g1 h4]
      simp [J]
    · obtain ⟨gb, z4, hb2⟩ := bw_back (a := a) (b := b) hf
      have e2 := zbox_good 28 gb z4
      rw [hb2] at e2
      rw [zbox_good 28 g1 h4]
      simp [e2, J]
  · rw [if_neg h, known11 16]; rfl
end Go.Proofs.Ytlgapmhjaaajfaa.Pure
end
