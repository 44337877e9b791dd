/- Steps of Go functions that the law RankSorts uses, told as plain Lean functions, each with the proof that its call comes to what it tells; words on memory; plain facts. No condition beyond those that each text names. -/
import Derived.Laws.BitsAllLaws
import Derived.Laws.BitsLemmas
import Derived.OpenShut
import Derived.Test.YtnjdaoeebhbmfaaProg
import Derived.Below
import Derived.Deep.Draws
import Derived.Deep.AppendLies
import Derived.Maps.AppendAt
import Derived.OwnWalk
import Derived.Laws.BytesArg
import Derived.Laws.MakeOwn
import Derived.Laws.OwnMore
import Derived.Deep.OwnRows
import Derived.Tactics
import Derived.Lib.ConvBytes
import Derived.Laws.Slices
import Derived.WalkKit
import Derived.KernelRfl
import Derived.RowKit3
import Derived.Deep.LoopGhost
import Derived.Deep.QuietTactic
import Derived.BigQuiet
import Derived.WideLaws
import Derived.Deep.DeepCutAuto
import Derived.Deep.CutBlock
import Derived.Deep.RegionHeld3
import Derived.Laws.Rows
import Derived.Lib.AppendStr
import Derived.ArgAppend
import Derived.Laws.IdiomCopy
import Derived.OrdersHeld
import Derived.RowKit
import Derived.Laws.StructEq
import Derived.Shelf.SlSortCmp.NoneTotal
import Derived.WalkMore
import Derived.Test.YtnjdaoeebhbmfaaSRankSorts0
import Derived.Test.YtnjdaoeebhbmfaaSRankSorts1
import Derived.Test.YtnjdaoeebhbmfaaSRankSorts3
import Derived.Test.YtnjdaoeebhbmfaaSRankSorts4
import Derived.Test.YtnjdaoeebhbmfaaSRankSorts5
import Derived.Test.YtnjdaoeebhbmfaaSRankSorts6
import Derived.Test.YtnjdaoeebhbmfaaSRankSorts7
import Derived.Test.YtnjdaoeebhbmfaaSRankSorts8
import Derived.Test.YtnjdaoeebhbmfaaSRankSorts9
import Derived.Test.YtnjdaoeebhbmfaaSRankSorts10
import Derived.Test.YtnjdaoeebhbmfaaSRankSorts11
import Derived.Test.YtnjdaoeebhbmfaaSRankSorts12
import Derived.Test.YtnjdaoeebhbmfaaSRankSorts13
import Derived.Test.YtnjdaoeebhbmfaaSRankSorts14
import Derived.Test.YtnjdaoeebhbmfaaSRankSorts16
section
namespace Go.Proofs.Ytnjdaoeebhbmfaa.Wd
open Go
theorem nat_or_lt {n a : Nat} (h : a < 2 ^ n) : a ||| 2 ^ n = 2 ^ n + a := by
  have := Nat.two_pow_add_eq_or_of_lt h 1
  rw [Nat.mul_one] at this
  rw [this, Nat.or_comm]
theorem nat_mask {n a : Nat} (hn : n ≤ 63) (h : a < 2 ^ (n + 1)) : a &&& (2 ^ 64 - (2 ^ n + 1)) = a % 2 ^ n := by
  apply Nat.eq_of_testBit_eq
  intro i
  rw [Nat.testBit_and, Nat.testBit_mod_two_pow, Nat.testBit_two_pow_sub_succ (by exact Nat.pow_lt_pow_right (by decide) (by omega)), Nat.testBit_two_pow]
  by_cases e : i < n
  · simp [e, show n ≠ i by omega, show i < 64 by omega]
  · by_cases e2 : n = i
    · subst e2; simp
    · have : a.testBit i = false := Nat.testBit_lt_two_pow (Nat.lt_of_lt_of_le h (Nat.pow_le_pow_right (by decide) (by omega)))
      simp [this]
section
variable {w : Int}
theorem andNot31 (h0 : 0 ≤ w) (h1 : w < 4294967296) : Go.bits .andNot .u64 w 2147483648 = w % 2147483648 := by
  obtain ⟨a, rfl⟩ := Int.eq_ofNat_of_zero_le h0
  have ha : a < 2 ^ (31 + 1) := by omega
  have e := u64_andNot_nat a 2147483648 (by omega) (by decide)
  have m : a &&& 18446744071562067967 = a % 2147483648 := nat_mask (n := 31) (by decide) ha
  rw [show ((2147483648 : Int)) = ((2147483648 : Nat) : Int) from rfl, e, show (18446744073709551615 - 2147483648 : Nat) = 18446744071562067967 from rfl, m]
  omega
theorem andNot63 (h0 : 0 ≤ w) (h1 : w < 18446744073709551616) : Go.bits .andNot .u64 w 9223372036854775808 = w % 9223372036854775808 := by
  obtain ⟨a, rfl⟩ := Int.eq_ofNat_of_zero_le h0
  have ha : a < 2 ^ (63 + 1) := by omega
  have e := u64_andNot_nat a 9223372036854775808 (by omega) (by decide)
  have m : a &&& 9223372036854775807 = a % 9223372036854775808 := nat_mask (n := 63) (by decide) ha
  rw [show ((9223372036854775808 : Int)) = ((9223372036854775808 : Nat) : Int) from rfl, e, show (18446744073709551615 - 9223372036854775808 : Nat) = 9223372036854775807 from rfl, m]
  omega
theorem or31 (h0 : 0 ≤ w) (h1 : w < 2147483648) : Go.bits .or .u64 w 2147483648 = w + 2147483648 := by
  obtain ⟨a, rfl⟩ := Int.eq_ofNat_of_zero_le h0
  have e := u64_or_nat a 2147483648 (by omega) (by decide)
  have m : a ||| 2147483648 = 2 ^ 31 + a := nat_or_lt (n := 31) (by omega)
  rw [show ((2147483648 : Int)) = ((2147483648 : Nat) : Int) from rfl, e, m]
  omega
theorem or63 (h0 : 0 ≤ w) (h1 : w < 9223372036854775808) : Go.bits .or .u64 w 9223372036854775808 = w + 9223372036854775808 := by
  obtain ⟨a, rfl⟩ := Int.eq_ofNat_of_zero_le h0
  have e := u64_or_nat a 9223372036854775808 (by omega) (by decide)
  have m : a ||| 9223372036854775808 = 2 ^ 63 + a := nat_or_lt (n := 63) (by omega)
  rw [show ((9223372036854775808 : Int)) = ((9223372036854775808 : Nat) : Int) from rfl, e, m]
  omega
theorem wrapu64 (n : Int) : IntKind.u64.wrap n = n % 18446744073709551616 := by simp [IntKind.wrap, IntKind.bits, IntKind.signed]
theorem wraps_u64 (n : Int) (h₀ : 0 ≤ n) (h₁ : n < 2 ^ 64) : IntKind.u64.wrap n = n := by
  rw [wrapu64]; omega
end
end Go.Proofs.Ytnjdaoeebhbmfaa.Wd
end

section
namespace Go.Proofs.Ytnjdaoeebhbmfaa.PA
open Go.RowKit Go.Proofs.YtnjdaoeebhbmfaaW.PrintWords Go.Proofs.YtnjdaoeebhbmfaaW.PrintLast Go.Proofs.YtnjdaoeebhbmfaaW.PrintMore Go.Proofs.Ytnjdaoeebhbmfaa.Wd
set_option linter.unusedSimpArgs false
set_option linter.unusedVariables false
/-- the class of a size: P one above the fractions, I the infinite size -/
def cls (P I s : Int) : Int := if s = 0 then 1 else if s < P then 2 else if s < I then 3 else if s = I then 4 else 5
def sgn (f : Int) : Int := if f = 1 then 2147483648 else 9223372036854775808
def one (f : Int) : Int := if f = 1 then 8388608 else 4503599627370496
def infw (f : Int) : Int := if f = 1 then 2139095040 else 9218868437227405312
def nanw (f : Int) : Int := if f = 1 then 2143289344 else 9221120237041090560
def cl (f w : Int) : Int := cls (one f) (infw f) (w % sgn f)
/-- the error of a word, as Good tells it -/
def err (f w : Int) : Int := if f = 1 then (if w ≥ 4294967296 then 6 else 0) else if f = 2 then 0 else 4
/-- a good word -/
def Gd (f w : Int) : Prop := (f = 1 ∧ 0 ≤ w ∧ w < 4294967296) ∨ (f = 2 ∧ 0 ≤ w ∧ w < 18446744073709551616)
def U (w : Int) : Prop := 0 ≤ w ∧ w < 18446744073709551616
theorem Gd.u {f w : Int} (h : Gd f w) : U w := by rcases h with ⟨_, a, b⟩ | ⟨_, a, b⟩ <;> exact ⟨a, by omega⟩
theorem Gd.err {f w : Int} (h : Gd f w) : err f w = 0 := by
  rcases h with ⟨rfl, a, b⟩ | ⟨rfl, a, b⟩
  · simp [PA.err]; omega
  · simp [PA.err]
theorem gd_of {f w : Int} (h : err f w = 0) (hu : U w) : Gd f w := by
  unfold err at h
  unfold U at hu
  unfold Gd
  split at h
  · split at h
    · omega
    · omega
  · split at h <;> omega
theorem u_of {w : Int} (h : (Lit.int .u64 w).wf = true) : U w := by have := bounds_u64 h; exact ⟨by omega, by omega⟩
theorem rd_zero (w : Int) : rd [w] 0 = w := by rfl
theorem top31 : Go.bits .or .u64 2147483648 (IntKind.u64.wrap (2147483648 - 1)) = 4294967295 := by decide +kernel
theorem top63 : Go.bits .or .u64 9223372036854775808 (IntKind.u64.wrap (9223372036854775808 - 1)) = 18446744073709551615 := by decide +kernel
/-- the shape of a format -/
def shp (f : Int) : Int × Int × Int := if f = 1 then (23, 255, 2147483648) else if f = 2 then (52, 2047, 9223372036854775808) else (0, 0, 0)
theorem open_nil (k : Nat) (f : Int) : word_open.f (k + 1) f [] = some ((shp f).1, (shp f).2.1, (shp f).2.2, if f = 1 ∨ f = 2 then 0 else 4) := by
  unfold word_open.f word_shapeOf.f shp
  by_cases h1 : f = 1
  · subst h1; simp [word_open.l0]
  · by_cases h2 : f = 2
    · subst h2; simp [word_open.l0]
    · simp [h1, h2]
theorem open_one (k : Nat) (f w : Int) (hu : U w) : word_open.f (k + 2) f [w] = some ((shp f).1, (shp f).2.1, (shp f).2.2, err f w) := by
  obtain ⟨h0, h3⟩ := hu
  unfold word_open.f word_shapeOf.f shp err
  by_cases h1 : f = 1
  · subst h1
    have l1 : (([w] : List Int).length : Int) = 1 := rfl
    have w1 : wrap64 (0 + 1) = 1 := by decide +kernel
    simp only [if_true, Option.bind_some, word_open.l0, l1, rd_zero, top31, Int.zero_lt_one, Int.le_refl, w1]
    by_cases c : w ≥ 4294967296
    · rw [if_pos (by omega)]; simp [c]
    · rw [if_neg (by omega)]; simp [c]
  · by_cases h2 : f = 2
    · subst h2
      have l1 : (([w] : List Int).length : Int) = 1 := rfl
      have w1 : wrap64 (0 + 1) = 1 := by decide +kernel
      simp only [show (¬ ((2 : Int) = 1)) by decide, if_false, if_true, Option.bind_some, word_open.l0, l1, rd_zero, top63, Int.zero_lt_one, Int.le_refl, w1]
      rw [if_neg (by omega)]
      simp
    · simp [h1, h2]
theorem shape_inf1 : word_shape_inf.f 23 255 2147483648 = some 2139095040 := by decide +kernel
theorem shape_inf2 : word_shape_inf.f 52 2047 9223372036854775808 = some 9218868437227405312 := by decide +kernel
theorem shape_none1 : word_shape_none.f 23 255 2147483648 = some 2143289344 := by decide +kernel
theorem shape_none2 : word_shape_none.f 52 2047 9223372036854775808 = some 9221120237041090560 := by decide +kernel
theorem shl23 : shl .u64 1 23 = 8388608 := by decide +kernel
theorem shl52 : shl .u64 1 52 = 4503599627370496 := by decide +kernel
theorem shape_class {f w : Int} (h : Gd f w) : word_shape_class.f (shp f).1 (shp f).2.1 (shp f).2.2 w = some (cl f w) := by
  rcases h with ⟨rfl, h0, h1⟩ | ⟨rfl, h0, h1⟩
  · have e1 : shp 1 = (23, 255, 2147483648) := rfl
    rw [e1]
    simp only [word_shape_class.f, andNot31 h0 h1, shape_inf1, Option.bind_some, shl23, cl, cls, one, infw, sgn, if_true]
    repeat' split
    all_goals first | rfl | (exfalso; omega)
  · have e1 : shp 2 = (52, 2047, 9223372036854775808) := rfl
    rw [e1]
    simp only [word_shape_class.f, andNot63 h0 h1, shape_inf2, Option.bind_some, shl52, cl, cls, one, infw, sgn]
    simp only [show (¬ ((2 : Int) = 1)) by decide, if_false]
    repeat' split
    all_goals first | rfl | (exfalso; omega)
theorem class_good (k : Nat) {f w : Int} (h : Gd f w) : word_Class.f (k + 2) f w = some (cl f w, 0) := by
  unfold word_Class.f
  rw [open_one k f w h.u, h.err]
  simp only [Option.bind_some, if_true, shape_class h]
theorem good_word (k : Nat) {f w : Int} (hu : U w) : word_Good.f (k + 2) f w = some (err f w) := by
  unfold word_Good.f
  rw [open_one k f w hu]
  simp only [Option.bind_some]
theorem ref_Is (f : Int) : cutplaneref03_Is.f f = some (decide (f = 1 ∨ f = 2)) := by
  unfold cutplaneref03_Is.f
  by_cases h1 : f = 1
  · simp [h1]
  · rw [if_neg h1]; by_cases h2 : f = 2 <;> simp [h1, h2]
theorem ref_Good (f w : Int) : cutplaneref03_Good.f f w = some (err f w) := by
  unfold cutplaneref03_Good.f err
  rw [ref_Is]
  by_cases h1 : f = 1
  · subst h1; simp
    split <;> rfl
  · by_cases h2 : f = 2 <;> simp [h1, h2]
theorem ref_Split (f : Int) {w : Int} (hu : U w) : cutplaneref03_Split.f f w = some (decide (w ≥ sgn f), w % sgn f / one f, w % one f) := by
  unfold cutplaneref03_Split.f sgn one
  unfold U at hu
  rw [if_pos hu]
  split <;> rfl
theorem ref_Most (f : Int) : cutplaneref03_Most.f f = some (if f = 1 then 255 else 2047) := by unfold cutplaneref03_Most.f; split <;> rfl
theorem ref_Class (k : Nat) (f : Int) {w : Int} (hu : U w) : cutplaneref03_Class.f (k + 1) f w = some (cl f w) := by
  obtain ⟨h0, h1⟩ := hu
  unfold cutplaneref03_Class.f
  rw [ref_Split f ⟨h0, h1⟩]
  simp only [Option.bind_some, cutplaneref03_Class.j0, ref_Most]
  unfold cl cls sgn one infw
  by_cases hf : f = 1
  · simp only [hf, if_true]
    by_cases a : w % 2147483648 / 8388608 = 0
    · rw [if_pos a]
      by_cases b : w % 8388608 = 0
      · rw [if_pos (by simp [b]), if_pos (by omega)]
      · rw [if_neg (by simp [b]), if_pos a, if_neg (by omega), if_pos (by omega)]
    · rw [if_neg a, if_neg (by decide), if_neg a]
      by_cases c : w % 2147483648 / 8388608 < 255
      · rw [if_pos c, if_neg (by omega), if_neg (by omega), if_pos (by omega)]
      · rw [if_neg c]
        by_cases d : w % 8388608 = 0
        · rw [if_pos d, if_neg (by omega), if_neg (by omega), if_neg (by omega), if_pos (by omega)]
        · rw [if_neg d, if_neg (by omega), if_neg (by omega), if_neg (by omega), if_neg (by omega)]
  · simp only [hf, if_false]
    by_cases a : w % 9223372036854775808 / 4503599627370496 = 0
    · rw [if_pos a]
      by_cases b : w % 4503599627370496 = 0
      · rw [if_pos (by simp [b]), if_pos (by omega)]
      · rw [if_neg (by simp [b]), if_pos a, if_neg (by omega), if_pos (by omega)]
    · rw [if_neg a, if_neg (by decide), if_neg a]
      by_cases c : w % 9223372036854775808 / 4503599627370496 < 2047
      · rw [if_pos c, if_neg (by omega), if_neg (by omega), if_pos (by omega)]
      · rw [if_neg c]
        by_cases d : w % 4503599627370496 = 0
        · rw [if_pos d, if_neg (by omega), if_neg (by omega), if_neg (by omega), if_pos (by omega)]
        · rw [if_neg d, if_neg (by omega), if_neg (by omega), if_neg (by omega), if_neg (by omega)]
theorem ref_Sign (f : Int) : cutplaneref03_Sign.f f = some (sgn f) := by unfold cutplaneref03_Sign.f sgn; split <;> rfl
theorem ref_Frac (f : Int) : cutplaneref03_Frac.f f = some (if f = 1 then 23 else 52) := by unfold cutplaneref03_Frac.f; split <;> rfl
theorem ref_None (f : Int) : cutplaneref03_None.f f = some (nanw f) := by
  by_cases hf : f = 1
  · subst hf; decide +kernel
  · unfold cutplaneref03_None.f
    rw [ref_Most, ref_Frac]
    unfold nanw
    simp only [hf, if_false, Option.bind_some]
    have e : shl .u64 1 (wrap64 (52 - 1)) = 2251799813685248 := by decide +kernel
    have e0 : 0 ≤ wrap64 (52 - 1) := by decide +kernel
    have e1 : IntKind.u64.wrap (shl .u64 (IntKind.u64.wrap 2047) 52 + 2251799813685248) = 9221120237041090560 := by decide +kernel
    rw [if_pos e0, e]
    unfold cutplaneref03_Join.f
    rw [ref_Frac]
    simp [hf, e1]
theorem ref_Inf (f : Int) (b : Bool) : cutplaneref03_Inf.f f b = some (if b then infw f + sgn f else infw f) := by
  unfold cutplaneref03_Inf.f cutplaneref03_Join.f
  rw [ref_Most, ref_Frac, ref_Sign]
  unfold infw sgn
  by_cases hf : f = 1
  · have e1 : IntKind.u64.wrap (shl .u64 (IntKind.u64.wrap 255) 23 + 0) = 2139095040 := by decide +kernel
    have e2 : IntKind.u64.wrap (2139095040 + 2147483648) = 4286578688 := by decide +kernel
    simp only [hf, if_true, Option.bind_some, e1, e2]
    cases b <;> simp
  · have e1 : IntKind.u64.wrap (shl .u64 (IntKind.u64.wrap 2047) 52 + 0) = 9218868437227405312 := by decide +kernel
    have e2 : IntKind.u64.wrap (9218868437227405312 + 9223372036854775808) = 18442240474082181120 := by decide +kernel
    simp only [hf, if_false, Option.bind_some, e1, e2]
    cases b <;> simp
def canw (f w : Int) : Int := if cl f w = 5 then nanw f else w
def absw (f w : Int) : Int := if cl f w = 5 then nanw f else w % sgn f
theorem shape_none {f w : Int} (h : Gd f w) : word_shape_none.f (shp f).1 (shp f).2.1 (shp f).2.2 = some (nanw f) := by
  rcases h with ⟨rfl, _, _⟩ | ⟨rfl, _, _⟩
  · exact shape_none1
  · exact shape_none2
theorem turned_good (k : Nat) {f w : Int} (h : Gd f w) {g : Int → Int → Int → Option Int} {z : Int} (hg : g (shp f).1 (shp f).2.1 (shp f).2.2 = some z) :
    word_turned.f (k + 2) f w g = some (if cl f w = 5 then nanw f else z, 0) := by
  unfold word_turned.f
  rw [open_one k f w h.u, h.err]
  simp only [Option.bind_some, if_true, shape_class h, shape_none h, hg]
  split <;> rfl
theorem shp3 {f w : Int} (h : Gd f w) : (shp f).2.2 = sgn f := by
  rcases h with ⟨rfl, _, _⟩ | ⟨rfl, _, _⟩ <;> rfl
theorem canon_good (k : Nat) {f w : Int} (h : Gd f w) : word_Canon.f (k + 2) f w = some (canw f w, 0) := by
  unfold word_Canon.f
  rw [turned_good k h (z := w) rfl]; rfl
theorem abs_good (k : Nat) {f w : Int} (h : Gd f w) : word_Abs.f (k + 2) f w = some (absw f w, 0) := by
  unfold word_Abs.f
  rw [turned_good k h (z := w % sgn f) ?_]
  · rfl
  · unfold word_Abs_1.f
    rw [shp3 h]
    rcases h with ⟨rfl, h0, h1⟩ | ⟨rfl, h0, h1⟩
    · exact congrArg some (andNot31 h0 h1)
    · exact congrArg some (andNot63 h0 h1)
theorem sgn_cases (f : Int) : sgn f = 2147483648 ∨ sgn f = 9223372036854775808 := by unfold sgn; split <;> simp
theorem ref_Canon (k : Nat) (f : Int) {w : Int} (hu : U w) : cutplaneref03_Canon.f (k + 1) f w = some (canw f w) := by
  unfold cutplaneref03_Canon.f canw
  rw [ref_Class k f hu]
  simp only [Option.bind_some, ref_None]
  split <;> rfl
theorem open_nil' (k : Nat) (f : Int) : word_open.f (k + 1) f ([] : List Int) = some ((shp f).1, (shp f).2.1, (shp f).2.2, if f = 1 ∨ f = 2 then 0 else 4) := open_nil k f
theorem cl_nan (f : Int) : cl f (nanw f) = 5 := by
  unfold cl cls nanw one infw sgn
  split <;> decide
end Go.Proofs.Ytnjdaoeebhbmfaa.PA
end

section
namespace Go.Proofs.Ytnjdaoeebhbmfaa.PA
open Go.RowKit Go.Proofs.YtnjdaoeebhbmfaaW.PrintWords Go.Proofs.YtnjdaoeebhbmfaaW.PrintLast Go.Proofs.YtnjdaoeebhbmfaaW.PrintMore Go.Proofs.Ytnjdaoeebhbmfaa.Wd
set_option linter.unusedSimpArgs false
set_option linter.unusedVariables false
theorem named_good (k : Nat) {f : Int} (hf : f = 1 ∨ f = 2) (b : Bool) {g : Int → Int → Int → Option Int} {z : Int} (hg : g (shp f).1 (shp f).2.1 (shp f).2.2 = some z) (h0 : 0 ≤ z) (h1 : z < sgn f) :
    word_named.f (k + 1) f b g = some (if b then z + sgn f else z, 0) := by
  unfold word_named.f
  rw [open_nil' k f]
  simp only [Option.bind_some, if_pos hf, if_true, hg]
  have e : Go.bits .or .u64 z (shp f).2.2 = z + sgn f := by
    rcases hf with rfl | rfl
    · exact or31 h0 h1
    · exact or63 h0 h1
  rw [e]
  cases b <;> rfl
theorem named_nof (k : Nat) {f : Int} (hf : ¬ (f = 1 ∨ f = 2)) (b : Bool) {g : Int → Int → Int → Option Int} : word_named.f (k + 1) f b g = some (0, 4) := by
  unfold word_named.f
  rw [open_nil' k f]
  simp only [Option.bind_some, if_neg hf]
  rw [if_neg (by decide)]
theorem infw_lt (f : Int) : 0 ≤ infw f ∧ infw f < sgn f ∧ infw f < nanw f ∧ nanw f < sgn f ∧ one f < infw f ∧ 0 < one f := by unfold infw sgn nanw one; split <;> decide
theorem none_good (k : Nat) {f : Int} (hf : f = 1 ∨ f = 2) : word_None.f (k + 1) f = some (nanw f, 0) := by
  unfold word_None.f
  rw [named_good k hf false (z := nanw f) (by rcases hf with rfl | rfl; exact shape_none1; exact shape_none2) (by have := infw_lt f; omega) (infw_lt f).2.2.2.1]
  rfl
theorem none_nof (k : Nat) {f : Int} (hf : ¬ (f = 1 ∨ f = 2)) : word_None.f (k + 1) f = some (0, 4) := by unfold word_None.f; rw [named_nof k hf]; rfl
end Go.Proofs.Ytnjdaoeebhbmfaa.PA
end

section
namespace Go.Proofs.Ytnjdaoeebhbmfaa.PA
open Go.RowKit Go.Proofs.YtnjdaoeebhbmfaaW.PrintWords Go.Proofs.YtnjdaoeebhbmfaaW.PrintLast Go.Proofs.YtnjdaoeebhbmfaaW.PrintMore Go.Proofs.Ytnjdaoeebhbmfaa.Wd
set_option linter.unusedSimpArgs false
set_option linter.unusedVariables false
theorem rd_get (l : List Int) (i : Nat) (h : i < l.length) : rd l (i : Int) = l[i] := by
  unfold rd
  simp [h]
def okw (f w : Int) : Bool := decide (err f w = 0)
def errl (f : Int) (l : List Int) : Int := if f = 1 ∨ f = 2 then (if l.all (okw f) then 0 else 6) else 4
theorem err_fmt {f w : Int} (hf : f = 1 ∨ f = 2) : err f w = 0 ∨ err f w = 6 := by
  unfold err
  rcases hf with rfl | rfl
  · simp only [if_true]; split <;> simp
  · simp
theorem open_loop (f : Int) (l : List Int) (hf : f = 1 ∨ f = 2) (hl : l.length < 4611686018427387904) (hu : ∀ w ∈ l, U w) (d : Nat) : ∀ (k i : Nat), i ≤ l.length → l.length - i = d → d + 2 < k →
    rank_open.l0 k f l (l.length : Int) (i : Int) = some (if (l.drop i).all (okw f) then 0 else 6) := by
  induction d with
  | zero =>
    intro k i hi hd hk
    obtain ⟨k, rfl⟩ : ∃ m, k = m + 1 := ⟨k - 1, by omega⟩
    have e : i = l.length := by omega
    subst e
    simp only [rank_open.l0]
    rw [if_neg (by omega)]
    simp
  | succ d ih =>
    intro k i hi hd hk
    obtain ⟨k, rfl⟩ : ∃ m, k = m + 1 := ⟨k - 1, by omega⟩
    have hlt : i < l.length := by omega
    have hg : word_Good.f k f l[i] = some (err f l[i]) := by
      obtain ⟨j, rfl⟩ : ∃ j, k = j + 2 := ⟨k - 2, by omega⟩
      exact good_word (k := j) (f := f) (hu l[i] (List.getElem_mem hlt))
    have w1 : wrap64 ((i : Int) + 1) = ((i + 1 : Nat) : Int) := by unfold wrap64; omega
    have hd : l.drop i = l[i] :: l.drop (i + 1) := List.drop_eq_getElem_cons hlt
    simp only [rank_open.l0]
    rw [if_pos (by omega), if_pos (by omega), if_pos (by omega), rd_get l i hlt, hg, w1]
    simp only [Option.bind_some]
    rw [ih k (i + 1) (by omega) (by omega) (by omega), hd]
    rcases err_fmt (w := l[i]) hf with e | e
    · rw [if_pos e, List.all_cons, show okw f l[i] = true from decide_eq_true e, Bool.true_and]
    · rw [if_neg (by omega), List.all_cons, show okw f l[i] = false from decide_eq_false (by omega), Bool.false_and, e]; rfl
theorem open_list (f : Int) (l : List Int) (hl : l.length < 4611686018427387904) (hu : ∀ w ∈ l, U w) (k : Nat) (hk : l.length + 2 < k) : rank_open.f k f l = some (errl f l) := by
  obtain ⟨j, rfl⟩ : ∃ m, k = m + 1 := ⟨k - 1, by omega⟩
  unfold rank_open.f errl
  by_cases hf : f = 1 ∨ f = 2
  · rw [none_good j hf, if_pos hf]
    simp only [Option.bind_some, if_true]
    have := open_loop f l hf hl hu l.length (j + 1) 0 (by omega) (by omega) (by omega)
    rw [show ((0 : Nat) : Int) = 0 from rfl] at this
    rw [this]; simp
  · rw [none_nof j hf, if_neg hf]
    simp only [Option.bind_some]
    rw [if_neg (by decide)]
theorem opens_loop (f : Int) (l : List Int) (hl : l.length < 4611686018427387904) (d : Nat) : ∀ (k i : Nat), i ≤ l.length → l.length - i = d → d < k →
    cutplaneref07_Opens.l0 k f l (i : Int) = some (if (l.drop i).all (okw f) then 0 else 6) := by
  induction d with
  | zero =>
    intro k i hi hd hk
    obtain ⟨k, rfl⟩ : ∃ m, k = m + 1 := ⟨k - 1, by omega⟩
    have e : i = l.length := by omega
    subst e
    simp only [cutplaneref07_Opens.l0]
    rw [if_neg (by omega)]
    simp
  | succ d ih =>
    intro k i hi hd hk
    obtain ⟨k, rfl⟩ : ∃ m, k = m + 1 := ⟨k - 1, by omega⟩
    have hlt : i < l.length := by omega
    have w1 : wrap64 ((i : Int) + 1) = ((i + 1 : Nat) : Int) := by unfold wrap64; omega
    have hd : l.drop i = l[i] :: l.drop (i + 1) := List.drop_eq_getElem_cons hlt
    simp only [cutplaneref07_Opens.l0]
    rw [if_pos (by omega), if_pos (by omega), rd_get l i hlt, ref_Good, w1]
    simp only [Option.bind_some]
    rw [ih k (i + 1) (by omega) (by omega) (by omega), hd]
    by_cases e : err f l[i] = 0
    · rw [if_pos e, List.all_cons, show okw f l[i] = true from decide_eq_true e, Bool.true_and]
    · rw [if_neg e, List.all_cons, show okw f l[i] = false from decide_eq_false e, Bool.false_and]; rfl
theorem ref_Opens (f : Int) (l : List Int) (hl : l.length < 4611686018427387904) (k : Nat) (hk : l.length < k) : cutplaneref07_Opens.f k f l = some (errl f l) := by
  unfold cutplaneref07_Opens.f errl
  rw [ref_Is]
  by_cases hf : f = 1 ∨ f = 2
  · have := opens_loop f l hl l.length k 0 (by omega) (by omega) (by omega)
    rw [show ((0 : Nat) : Int) = 0 from rfl] at this
    simp only [Option.bind_some, hf, decide_true, if_true, this]
    simp
  · simp [hf]
theorem errl_zero {f : Int} {l : List Int} (h : errl f l = 0) (hu : ∀ w ∈ l, U w) : (f = 1 ∨ f = 2) ∧ ∀ w ∈ l, Gd f w := by
  unfold errl at h
  by_cases hf : f = 1 ∨ f = 2
  · rw [if_pos hf] at h
    refine ⟨hf, fun w hw => ?_⟩
    by_cases ha : l.all (okw f) = true
    · have := List.all_eq_true.1 ha w hw
      exact gd_of (of_decide_eq_true this) (hu w hw)
    · rw [if_neg ha] at h; exact absurd h (by decide)
  · rw [if_neg hf] at h; exact absurd h (by decide)
theorem errl_good {f : Int} {l : List Int} (hf : f = 1 ∨ f = 2) (h : ∀ w ∈ l, Gd f w) : errl f l = 0 := by
  unfold errl
  rw [if_pos hf, if_pos]
  exact List.all_eq_true.2 fun w hw => decide_eq_true (h w hw).err
theorem gd_f {f w : Int} (h : Gd f w) : f = 1 ∨ f = 2 := by rcases h with ⟨e, _⟩ | ⟨e, _⟩ <;> simp [e]
theorem isnan_good (k : Nat) {f w : Int} (h : Gd f w) : rank_isNaN.f (k + 2) f w = some (cl f w == 5) := by
  unfold rank_isNaN.f
  rw [class_good k h]; rfl
/-- the place of a word that is no NaN -/
def plc (f w : Int) : Int := if w ≥ sgn f then -(w % sgn f) else w % sgn f
theorem plc_bd (f w : Int) : -9223372036854775807 ≤ plc f w ∧ plc f w ≤ 9223372036854775807 := by
  have : 0 ≤ w % sgn f ∧ w % sgn f < sgn f := by rcases sgn_cases f with h | h <;> rw [h] <;> omega
  have hs := sgn_cases f
  unfold plc
  split <;> omega
theorem sz_lo {f w : Int} (h : Gd f w) : (w < sgn f ∧ w % sgn f = w) ∨ (sgn f ≤ w ∧ w % sgn f = w - sgn f) := by
  have hf := gd_f h
  unfold sgn
  rcases h with ⟨rfl, h0, h1⟩ | ⟨rfl, h0, h1⟩
  · simp only [if_true]; omega
  · simp only [show (¬ ((2 : Int) = 1)) by decide, if_false]; omega
theorem place_good (k : Nat) {f w : Int} (h : Gd f w) (hn : cl f w ≠ 5) : rank_place.f (k + 2) f w = some (plc f w) := by
  have hs := sgn_cases f
  have hz := sz_lo h
  have hp : 0 ≤ w % sgn f ∧ w % sgn f < sgn f := by rcases hs with h | h <;> rw [h] <;> omega
  unfold rank_place.f
  rw [abs_good k h]
  have e : absw f w = w % sgn f := by unfold absw; rw [if_neg hn]
  simp only [Option.bind_some, e]
  unfold plc
  have w1 : wrap64 (w % sgn f) = w % sgn f := by unfold wrap64; omega
  have w2 : wrap64 (-(w % sgn f)) = -(w % sgn f) := by unfold wrap64; omega
  by_cases c : w ≥ sgn f
  · rw [if_neg (by omega), if_pos c, w1, w2]
  · rw [if_pos (by omega), if_neg c, w1]
def cmpi (x y : Int) : Int := if x < y then -1 else if x > y then 1 else 0
theorem compare_i (x y : Int) : cmp_Compare_int64.f x y = some (cmpi x y) := by
  unfold cmp_Compare_int64.f cmp_isNaN_int64.f cmpi
  simp
  repeat' split
  all_goals rfl
theorem cmpi_bd (x y : Int) : (cmpi x y = -1 ∧ x < y) ∨ (cmpi x y = 1 ∧ y < x) ∨ (cmpi x y = 0 ∧ x = y) := by
  unfold cmpi
  by_cases h : x < y
  · simp [h]
  · by_cases g : x > y
    · simp [h, g] <;> omega
    · simp [h, g] <;> omega
def cmpf (f a b : Int) : Int := if cl f a = 5 ∨ cl f b = 5 then 4 else 2 + cmpi (plc f a) (plc f b)
theorem rank_Cmp_good (k : Nat) {f a b : Int} (ha : Gd f a) (hb : Gd f b) : rank_Cmp.f (k + 5) f a b = some (cmpf f a b, 0) := by
  have ho : rank_open.f (k + 5) f [a, b] = some 0 := by
    rw [open_list f [a, b] (by simp) (by simp [ha.u, hb.u]) (k + 5) (by simp <;> omega), errl_good (gd_f ha) (by simp [ha, hb])]
  unfold rank_Cmp.f cmpf
  rw [ho, isnan_good (k + 3) ha, isnan_good (k + 3) hb]
  simp only [Option.bind_some, if_true]
  by_cases ca : cl f a = 5
  · simp [ca, rank_Cmp.j0]
  · by_cases cb : cl f b = 5
    · simp [ca, cb, rank_Cmp.j0]
    · have := plc_bd f a
      have := plc_bd f b
      have e1 : (cl f a == 5) = false := by simp [ca]
      have e2 : (cl f b == 5) = false := by simp [cb]
      have p1 := place_good (k + 2) ha ca
      have p2 := place_good (k + 2) hb cb
      rw [e1, e2]
      simp only [ca, cb, or_self, if_false, Bool.false_eq_true, rank_Cmp.j0, p1, p2, Option.bind_some, compare_i]
      have := cmpi_bd (plc f a) (plc f b)
      rw [show (2 + cmpi (plc f a) (plc f b) % 256) % 256 = 2 + cmpi (plc f a) (plc f b) by omega]
/-- the total order -/
def tot (f a b : Int) : Int :=
  if cl f a = 5 then (if cl f b = 5 then 0 else 1) else if cl f b = 5 then -1 else
    if cmpi (plc f a) (plc f b) = 0 then cmpi b a else cmpi (plc f a) (plc f b)
theorem compare_u (x y : Int) : cmp_Compare_uint64.f x y = some (cmpi x y) := by
  unfold cmp_Compare_uint64.f cmp_isNaN_uint64.f cmpi
  simp
  repeat' split
  all_goals rfl
theorem rank_total_good (k : Nat) {f a b : Int} (ha : Gd f a) (hb : Gd f b) : rank_total.f (k + 3) f a b = some (tot f a b) := by
  unfold rank_total.f tot
  rw [isnan_good (k + 1) ha, isnan_good (k + 1) hb]
  simp only [Option.bind_some, rank_total.j0]
  by_cases ca : cl f a = 5
  · by_cases cb : cl f b = 5 <;> simp [ca, cb]
  · by_cases cb : cl f b = 5
    · simp [ca, cb]
    · simp [ca, cb, place_good k ha ca, place_good k hb cb, compare_i, compare_u]
      split <;> rfl
theorem rank_Total_good (k : Nat) {f a b : Int} (ha : Gd f a) (hb : Gd f b) : rank_Total.f (k + 5) f a b = some (tot f a b, 0) := by
  have ho : rank_open.f (k + 5) f [a, b] = some 0 := by
    rw [open_list f [a, b] (by simp) (by simp [ha.u, hb.u]) (k + 5) (by simp <;> omega), errl_good (gd_f ha) (by simp [ha, hb])]
  unfold rank_Total.f
  rw [ho, rank_total_good (k + 2) ha hb]
  simp
def stepsf (f a b : Int) : Int := if plc f a < plc f b then plc f b - plc f a else plc f a - plc f b
theorem rank_Steps_good (k : Nat) {f a b : Int} (ha : Gd f a) (hb : Gd f b) : rank_Steps.f (k + 5) f a b = some (if cl f a = 5 ∨ cl f b = 5 then (0, 7) else (stepsf f a b, 0)) := by
  have ho : rank_open.f (k + 5) f [a, b] = some 0 := by
    rw [open_list f [a, b] (by simp) (by simp [ha.u, hb.u]) (k + 5) (by simp <;> omega), errl_good (gd_f ha) (by simp [ha, hb])]
  unfold rank_Steps.f
  rw [ho, isnan_good (k + 3) ha, isnan_good (k + 3) hb]
  simp only [Option.bind_some, if_true]
  by_cases ca : cl f a = 5
  · simp [ca, rank_Steps.j0]
  · by_cases cb : cl f b = 5
    · simp [ca, cb, rank_Steps.j0]
    · have pa := plc_bd f a
      have pb := plc_bd f b
      have e1 : (cl f a == 5) = false := by simp [ca]
      have e2 : (cl f b == 5) = false := by simp [cb]
      rw [e1, e2]
      simp only [ca, cb, or_self, if_false, rank_Steps.j0, place_good (k + 2) ha ca, place_good (k + 2) hb cb, Option.bind_some, Bool.false_eq_true]
      congr 2
      unfold stepsf mx mn
      simp only [wrapu64]
      by_cases c : plc f a < plc f b
      · have d : ¬ plc f b < plc f a := by omega
        simp only [c, d, if_true, if_false]; omega
      · by_cases d : plc f b < plc f a
        · simp only [c, d, if_true, if_false]; omega
        · simp only [c, d, if_false]; omega
theorem known07 (k : Nat) : cutplanelaw07_known.f (k + 5) = some true := by
  unfold cutplanelaw07_known.f
  have h0 : Gd 1 0 := .inl ⟨rfl, by decide, by decide⟩
  have h1 : Gd 1 2147483648 := .inl ⟨rfl, by decide, by decide⟩
  have h2 : Gd 1 2147483649 := .inl ⟨rfl, by decide, by decide⟩
  have h3 : Gd 1 1 := .inl ⟨rfl, by decide, by decide⟩
  rw [rank_Cmp_good k h1 h0, rank_Total_good k h1 h0, rank_Steps_good k h2 h3]
  decide +kernel
end Go.Proofs.Ytnjdaoeebhbmfaa.PA
end

section
namespace Go.Proofs.Ytnjdaoeebhbmfaa.PA
open Go.RowKit Go.Proofs.YtnjdaoeebhbmfaaW.PrintWords Go.Proofs.YtnjdaoeebhbmfaaW.PrintLast Go.Proofs.YtnjdaoeebhbmfaaW.PrintMore Go.Proofs.Ytnjdaoeebhbmfaa.Wd
set_option linter.unusedSimpArgs false
set_option linter.unusedVariables false
theorem size_pos (f w : Int) : 0 ≤ w % sgn f ∧ w % sgn f < sgn f := by
  rcases sgn_cases f with h | h <;> rw [h] <;> omega
theorem cl5 (f w : Int) : cl f w = 5 ↔ infw f < w % sgn f := by
  have h := size_pos f w
  have hi := infw_lt f
  unfold cl cls
  repeat' split
  all_goals constructor <;> intro <;> first | omega | (exfalso; omega)
/-- a word lies below twice the sign -/
theorem gd_lt {f w : Int} (h : Gd f w) : 0 ≤ w ∧ w < 2 * sgn f ∧ (f = 1 ∨ f = 2) := by
  unfold sgn
  rcases h with ⟨rfl, h0, h1⟩ | ⟨rfl, h0, h1⟩
  · exact ⟨h0, by simp only [if_true]; omega, .inl rfl⟩
  · exact ⟨h0, by simp only [show (¬ ((2 : Int) = 1)) by decide, if_false]; omega, .inr rfl⟩
end Go.Proofs.Ytnjdaoeebhbmfaa.PA
end

section
namespace Go.Proofs.Ytnjdaoeebhbmfaa.PA
open Go.RowKit Go.Proofs.YtnjdaoeebhbmfaaW.PrintWords Go.Proofs.YtnjdaoeebhbmfaaW.PrintLast Go.Proofs.YtnjdaoeebhbmfaaW.PrintMore Go.Proofs.Ytnjdaoeebhbmfaa.Wd
set_option linter.unusedSimpArgs false
set_option linter.unusedVariables false
/-- a number for each word, by which the total order goes -/
def key (f w : Int) : Int := if cl f w = 5 then 36893488147419103232 else 2 * plc f w + (if w = 0 then 1 else 0)
theorem key_bd {f w : Int} (h : cl f w ≠ 5) : key f w < 36893488147419103232 := by
  have := plc_bd f w
  unfold key
  rw [if_neg h]
  split <;> omega
theorem plc_cases {f w : Int} (h : Gd f w) : (w < sgn f ∧ plc f w = w) ∨ (sgn f ≤ w ∧ plc f w = sgn f - w) := by
  unfold plc
  rcases sz_lo h with ⟨a, b⟩ | ⟨a, b⟩
  · left; rw [if_neg (by omega)]; omega
  · right; rw [if_pos (by omega)]; omega
theorem cmpi_lt {x y : Int} (h : x < y) : cmpi x y = -1 := by unfold cmpi; rw [if_pos h]
theorem cmpi_gt {x y : Int} (h : y < x) : cmpi x y = 1 := by unfold cmpi; rw [if_neg (by omega), if_pos h]
theorem cmpi_eq (x : Int) : cmpi x x = 0 := by unfold cmpi; rw [if_neg (by omega), if_neg (by omega)]
theorem cmpi_congr {x y a b : Int} (h1 : x < y → a < b) (h2 : y < x → b < a) (h3 : x = y → a = b) : cmpi x y = cmpi a b := by
  rcases Int.lt_trichotomy x y with h | h | h
  · rw [cmpi_lt h, cmpi_lt (h1 h)]
  · rw [h, cmpi_eq, h3 h, cmpi_eq]
  · rw [cmpi_gt h, cmpi_gt (h2 h)]
theorem tot_key {f a b : Int} (ha : Gd f a) (hb : Gd f b) : tot f a b = cmpi (key f a) (key f b) := by
  have ga := gd_lt ha
  have gb := gd_lt hb
  have pa := plc_cases ha
  have pb := plc_cases hb
  have hs := sgn_cases f
  unfold tot
  by_cases ca : cl f a = 5
  · have ka : key f a = 36893488147419103232 := if_pos ca
    by_cases cb : cl f b = 5
    · have kb : key f b = 36893488147419103232 := if_pos cb
      rw [if_pos ca, if_pos cb, ka, kb, cmpi_eq]
    · rw [if_pos ca, if_neg cb, ka, cmpi_gt (key_bd cb)]
  · by_cases cb : cl f b = 5
    · have kb : key f b = 36893488147419103232 := if_pos cb
      rw [if_neg ca, if_pos cb, kb, cmpi_lt (key_bd ca)]
    · rw [if_neg ca, if_neg cb]
      have ka : key f a = 2 * plc f a + (if a = 0 then 1 else 0) := if_neg ca
      have kb : key f b = 2 * plc f b + (if b = 0 then 1 else 0) := if_neg cb
      have za : (a = 0 ∧ key f a = 2 * plc f a + 1) ∨ (a ≠ 0 ∧ key f a = 2 * plc f a) := by
        by_cases z : a = 0
        · left; rw [ka, if_pos z]; exact ⟨z, rfl⟩
        · right; rw [ka, if_neg z]; exact ⟨z, by omega⟩
      have zb : (b = 0 ∧ key f b = 2 * plc f b + 1) ∨ (b ≠ 0 ∧ key f b = 2 * plc f b) := by
        by_cases z : b = 0
        · left; rw [kb, if_pos z]; exact ⟨z, rfl⟩
        · right; rw [kb, if_neg z]; exact ⟨z, by omega⟩
      clear ka kb
      rcases cmpi_bd (plc f a) (plc f b) with ⟨e, h⟩ | ⟨e, h⟩ | ⟨e, h⟩
      · rw [if_neg (by omega), e, cmpi_lt (by omega)]
      · rw [if_neg (by omega), e, cmpi_gt (by omega)]
      · rw [if_pos e]
        exact cmpi_congr (by omega) (by omega) (by omega)
theorem key_inj {f a b : Int} (ha : Gd f a) (hb : Gd f b) (ca : cl f a ≠ 5) (cb : cl f b ≠ 5) (h : key f a = key f b) : a = b := by
  have ga := gd_lt ha
  have gb := gd_lt hb
  have pa := plc_cases ha
  have pb := plc_cases hb
  have hs := sgn_cases f
  have ka : key f a = 2 * plc f a + (if a = 0 then 1 else 0) := if_neg ca
  have kb : key f b = 2 * plc f b + (if b = 0 then 1 else 0) := if_neg cb
  rw [ka, kb] at h
  by_cases z : a = 0
  · by_cases y : b = 0
    · omega
    · rw [if_pos z, if_neg y] at h; omega
  · by_cases y : b = 0
    · rw [if_neg z, if_pos y] at h; omega
    · rw [if_neg z, if_neg y] at h; omega
theorem key_can {f a b : Int} (ha : Gd f a) (hb : Gd f b) : key f a = key f b ↔ canw f a = canw f b := by
  unfold canw
  by_cases ca : cl f a = 5
  · have ka : key f a = 36893488147419103232 := if_pos ca
    by_cases cb : cl f b = 5
    · have kb : key f b = 36893488147419103232 := if_pos cb
      simp [ca, cb, ka, kb]
    · have := key_bd cb
      simp only [ca, cb, if_true, if_false]
      constructor
      · intro h; omega
      · intro h; exact absurd (h ▸ cl_nan f) cb
  · by_cases cb : cl f b = 5
    · have kb : key f b = 36893488147419103232 := if_pos cb
      have := key_bd ca
      simp only [ca, cb, if_true, if_false]
      constructor
      · intro h; omega
      · intro h; exact absurd (h ▸ cl_nan f) ca
    · simp only [ca, cb, if_false]
      exact ⟨key_inj ha hb ca cb, fun h => by rw [h]⟩
end Go.Proofs.Ytnjdaoeebhbmfaa.PA
end

section
namespace Go.Proofs.Ytnjdaoeebhbmfaa.PA
open Go.Shelf
def sortL_ren : Go.Shelf.Ren := ⟨fun | 6 => 52 | 15 => 73 | 14 => 72 | 28 => 93 | 29 => 94 | 20 => 85 | 21 => 86 | 22 => 87 | 23 => 88 | 24 => 89 | 25 => 90 | 26 => 91 | 27 => 92 | 46 => 101 | 47 => 102 | 48 => 103 | 49 => 104 | 50 => 105 | 57 => 106 | n => n, fun | 22 => 50 | 24 => 23 | 25 => 76 | 3 => 3 | 39 => 93 | 0 => 0 | 53 => 103 | 55 => 23 | 4 => 4 | 46 => 106 | 45 => 105 | 50 => 110 | 5 => 5 | 9 => 9 | 66 => 120 | 70 => 123 | 76 => 125 | 77 => 126 | n => n, fun | n => n⟩
theorem sortL : Go.Proofs.SlLaysF.n6 Try.prog sortL_ren where
  mixed := by kernel_rfl
  f6 := ⟨ "slices.SortFunc[[]uint64,uint64]", by decide, Try.func52.trans (congrArg some (by kernel_rfl))⟩
  f14 := ⟨ "slices.pdqsortCmpFunc[uint64]", by decide, Try.func72.trans (congrArg some (by kernel_rfl))⟩
  f15 := Try.func73.trans (congrArg some (by kernel_rfl))
  f20 := ⟨ "slices.insertionSortCmpFunc[uint64]", by decide, Try.func85.trans (congrArg some (by kernel_rfl))⟩
  f21 := ⟨ "slices.heapSortCmpFunc[uint64]", by decide, Try.func86.trans (congrArg some (by kernel_rfl))⟩
  f22 := ⟨ "slices.breakPatternsCmpFunc[uint64]", by decide, Try.func87.trans (congrArg some (by kernel_rfl))⟩
  f23 := ⟨ "slices.choosePivotCmpFunc[uint64]", by decide, Try.func88.trans (congrArg some (by kernel_rfl))⟩
  f24 := ⟨ "slices.reverseRangeCmpFunc[uint64]", by decide, Try.func89.trans (congrArg some (by kernel_rfl))⟩
  f25 := ⟨ "slices.partialInsertionSortCmpFunc[uint64]", by decide, Try.func90.trans (congrArg some (by kernel_rfl))⟩
  f26 := ⟨ "slices.partitionEqualCmpFunc[uint64]", by decide, Try.func91.trans (congrArg some (by kernel_rfl))⟩
  f27 := ⟨ "slices.partitionCmpFunc[uint64]", by decide, Try.func92.trans (congrArg some (by kernel_rfl))⟩
  f28 := Try.func93.trans (congrArg some (by kernel_rfl))
  f29 := Try.func94.trans (congrArg some (by kernel_rfl))
  f46 := ⟨ "slices.siftDownCmpFunc[uint64]", by decide, Try.func101.trans (congrArg some (by kernel_rfl))⟩
  f47 := Try.func102.trans (congrArg some (by kernel_rfl))
  f48 := Try.func103.trans (congrArg some (by kernel_rfl))
  f49 := ⟨ "slices.medianAdjacentCmpFunc[uint64]", by decide, Try.func104.trans (congrArg some (by kernel_rfl))⟩
  f50 := ⟨ "slices.medianCmpFunc[uint64]", by decide, Try.func105.trans (congrArg some (by kernel_rfl))⟩
  f57 := ⟨ "slices.order2CmpFunc[uint64]", by decide, Try.func106.trans (congrArg some (by kernel_rfl))⟩
  t0 := Try.underlying0
  a0 := Try.isAgg0
  z0 := Try.sizeOf0
  v0 := Try.zeroValue0
  t3 := Try.underlying3
  a3 := Try.isAgg3
  z3 := Try.sizeOf3
  v3 := Try.zeroValue3
  t4 := Try.underlying4
  a4 := Try.isAgg4
  z4 := Try.sizeOf4
  v4 := Try.zeroValue4
  t5 := Try.underlying5
  a5 := Try.isAgg5
  z5 := Try.sizeOf5
  v5 := Try.zeroValue5
  t9 := Try.underlying9
  a9 := Try.isAgg9
  z9 := Try.sizeOf9
  v9 := Try.zeroValue9
  t22 := Try.underlying50
  a22 := Try.isAgg50
  z22 := Try.sizeOf50
  v22 := Try.zeroValue50
  a24 := Try.isAgg23
  z24 := Try.sizeOf23
  t25 := Try.underlying76
  a25 := Try.isAgg76
  z25 := Try.sizeOf76
  v25 := Try.zeroValue76
  t39 := Try.underlying93
  a39 := Try.isAgg93
  z39 := Try.sizeOf93
  v39 := Try.zeroValue93
  t45 := Try.underlying105
  a45 := Try.isAgg105
  z45 := Try.sizeOf105
  v45 := Try.zeroValue105
  t46 := Try.underlying106
  a46 := Try.isAgg106
  z46 := Try.sizeOf106
  v46 := Try.zeroValue106
  t50 := Try.underlying110
  a50 := Try.isAgg110
  z50 := Try.sizeOf110
  v50 := Try.zeroValue110
  t53 := Try.underlying103
  a53 := Try.isAgg103
  z53 := Try.sizeOf103
  v53 := Try.zeroValue103
  t55 := Try.underlying23
  a55 := Try.isAgg23
  z55 := Try.sizeOf23
  v55 := Try.zeroValue23
  t66 := Try.underlying120
  a66 := Try.isAgg120
  z66 := Try.sizeOf120
  v66 := Try.zeroValue120
  t70 := Try.underlying123
  a70 := Try.isAgg123
  z70 := Try.sizeOf123
  v70 := Try.zeroValue123
  t76 := Try.underlying125
  a76 := Try.isAgg125
  z76 := Try.sizeOf125
  v76 := Try.zeroValue125
  t77 := Try.underlying126
  a77 := Try.isAgg126
  z77 := Try.sizeOf126
  v77 := Try.zeroValue126
end Go.Proofs.Ytnjdaoeebhbmfaa.PA
namespace Go.Proofs.Ytnjdaoeebhbmfaa.PA
open Go.RowKit Go.Proofs.YtnjdaoeebhbmfaaW.PrintWords Go.Proofs.YtnjdaoeebhbmfaaW.PrintLast Go.Proofs.YtnjdaoeebhbmfaaW.PrintMore Go.Proofs.Ytnjdaoeebhbmfaa.Wd Go.Shelf
set_option linter.unusedSimpArgs false
set_option linter.unusedVariables false
/-- a good word of a format whose NaN is the canonical one -/
structure Cw (f : Int) where
  v : Int
  g : Gd f v
  c : canw f v = v
theorem Cw.same {f : Int} {x y : Cw f} (h : x.v = y.v) : x = y := by
  obtain ⟨a, ga, ca⟩ := x
  obtain ⟨b, gb, cb⟩ := y
  simp only at h
  subst h
  rfl
def cfw (f : Int) (x y : Cw f) : Int := tot f x.v y.v
theorem cfw_lt {f : Int} (x y : Cw f) : ltOf (cfw f) x y = decide (key f x.v < key f y.v) := by
  unfold ltOf cfw
  rw [tot_key x.g y.g]
  rcases cmpi_bd (key f x.v) (key f y.v) with ⟨e, h⟩ | ⟨e, h⟩ | ⟨e, h⟩
  · rw [e]; simp [h]
  · rw [e]
    have h' : ¬ key f x.v < key f y.v := by omega
    simp [h']
  · rw [e, h]; simp
theorem cfw_swo (f : Int) : Go.Sort.SWO (ltOf (cfw f)) where
  irrefl x := by rw [cfw_lt]; simp
  trans x y z h1 h2 := by rw [cfw_lt] at *; simp at *; omega
  ntrans x y z h1 h2 := by rw [cfw_lt] at *; simp at *; omega
theorem cfw_tot {f : Int} (x y : Cw f) (h1 : ltOf (cfw f) x y = false) (h2 : ltOf (cfw f) y x = false) : x = y := by
  rw [cfw_lt] at h1 h2
  have h1' := of_decide_eq_false h1
  have h2' := of_decide_eq_false h2
  apply Cw.same
  have h := (key_can x.g y.g).1 (by omega)
  rw [x.c, y.c] at h
  exact h
/-- a row of words in the total order -/
def sortw (f : Int) (l : List Int) : List Int := l.mergeSort (fun x y => decide (key f x ≤ key f y))
theorem sortw_nil (f : Int) : sortw f [] = [] := by unfold sortw; exact List.length_eq_zero_iff.1 (by rw [List.length_mergeSort]; rfl)
def okc (f x : Int) : Bool := decide (err f x = 0 ∧ (0 ≤ x ∧ x < 18446744073709551616) ∧ canw f x = x)
def okl (f : Int) (l : List Int) : Bool := decide (l.length ≤ 4096) && l.all (okc f)
theorem okc_out {f x : Int} (h : okc f x = true) : Gd f x ∧ canw f x = x := by
  obtain ⟨a, b, c⟩ := of_decide_eq_true h
  exact ⟨gd_of a b, c⟩
theorem okc_in {f x : Int} (h : Gd f x) (c : canw f x = x) : okc f x = true := decide_eq_true ⟨h.err, h.u, c⟩
theorem grow_of {w w' : World} (h : PD.Below w.heap.size w w') : ∃ q os, w' = Go.Sort.grow (w.drewN q) os := by
  obtain ⟨⟨h1, h2, h3, h4, h5⟩, h6⟩ := h
  refine ⟨w'.drawn - w.drawn, w'.heap.extract w.heap.size w'.heap.size, ?_⟩
  obtain ⟨hp, tp, dr, os, out⟩ := w
  obtain ⟨hp', tp', dr', os', out'⟩ := w'
  simp only at h1 h2 h3 h4 h5 h6
  subst h1 h2 h3
  simp only [Go.Sort.grow, World.drewN, World.mk.injEq, and_true, true_and]
  refine ⟨?_, by omega⟩
  apply Array.ext_getElem?
  intro i
  rw [Array.getElem?_append]
  by_cases c : i < hp.size
  · rw [if_pos c]; exact h5 i c
  · rw [if_neg c, Array.getElem?_extract]
    by_cases d : i - hp.size < min hp'.size hp'.size - hp.size
    · rw [if_pos d]; congr 1; omega
    · rw [if_neg d]; exact Array.getElem?_eq_none (by omega)
set_option maxHeartbeats 1000000 in
set_option maxRecDepth 100000 in
theorem cmp_call {f : Int} (x y : Cw f) (gb : Nat) (W : World) (hc : W.cell? ⟨gb, 0, none⟩ = some (.int .u8 f)) :
    Calls Try.prog 53 #[.int .u64 x.v, .int .u64 y.v, .pointer (some ⟨gb, 0, none⟩)] W fun e w' => e = .returned (.int .i64 (cfw f x y)) ∧ ∃ q os, w' = Go.Sort.grow (W.drewN q) os := by
  have ht := fun W => PD.rank_total.calls 3 f x.v y.v (tot f x.v y.v) W (rank_total_good 0 x.g y.g)
  unfold cfw
  generalize tot f x.v y.v = r at ht ⊢
  go_enter Try.func53, Try.ntmps53
  go_wp2_with (go_at_call 38; refine (ht _).mono ?_; rintro e w' ⟨rfl, hb⟩)
  go_ret
  exact ⟨rfl, grow_of hb⟩
theorem heap_put {α : Type} [Inhabited α] (enc : α → Value) (w : World) (blk : Nat) (d : Array α) (k : Nat) : (Go.Sort.putRow enc w blk 0 d).heap[k]? = if blk = k then (w.heap[k]?).map (Go.Sort.onCells (Go.Sort.putCells enc 0 d)) else w.heap[k]? := by
  unfold Go.Sort.putRow Go.Sort.mapBlock
  rw [Array.getElem?_modify]
theorem reps_nums (xs : List Int) (k : IntKind) : Reps (fun (x : Int) (cs : List Value) => cs = [Value.int k x]) 1 xs (xs.map (Value.int k)) := by
  refine ⟨by simp, fun j p h => ?_⟩
  obtain ⟨hj, e⟩ := List.getElem?_eq_some_iff.1 h
  rw [Nat.mul_one, ← List.map_drop, List.drop_eq_getElem_cons hj, e]
  rfl
theorem reps_get {xs : List Int} {k : IntKind} {cs : List Value} (h : Reps (fun (x : Int) (cs : List Value) => cs = [Value.int k x]) 1 xs cs) (j : Nat) (hj : j < xs.length) : cs[j]? = some (.int k xs[j]) := by
  have h2 := h.2 j xs[j] (List.getElem?_eq_some_iff.2 ⟨hj, rfl⟩)
  rw [Nat.mul_one] at h2
  rcases hd : cs.drop j with _ | ⟨a, t⟩
  · rw [hd] at h2; simp at h2
  · rw [hd] at h2
    have e : cs[j]? = (cs.drop j)[0]? := by rw [List.getElem?_drop]; rfl
    rw [e, hd]
    simp at h2
    simp [h2]
set_option maxHeartbeats 1000000 in
theorem sort_step {W : World} {base gb : Nat} {f : Int} {v : Value} {xs : List Int} {ok : Nat → Prop} (hR : Kd.R (Kd.int .u64) 23 W base ok v xs) (hB : W.heap[gb]? = some (.cells #[.int .u8 f] 22 (0, 0))) (hx : okl f xs = true) (hbase : base ≤ W.heap.size) :
    Calls Try.prog 52 #[v, .func (.func 53) #[] #[.pointer (some ⟨gb, 0, none⟩)]] W fun e w' => e = .returned (.tuple #[]) ∧ Kd.R (Kd.int .u64) 23 w' base ok v (sortw f xs) ∧ w'.heap[gb]? = some (.cells #[.int .u8 f] 22 (0, 0)) ∧ Below base W w' := by
  obtain ⟨h0, inner, ⟨hl, ho⟩, hr⟩ := hR
  unfold okl at hx
  rw [Bool.and_eq_true] at hx
  obtain ⟨hx4, hx⟩ := hx
  have hx4 := of_decide_eq_true hx4
  rcases ho with ⟨rfl, hn⟩ | ⟨g, cap, cur, rfl, hb, hg, hn1, hcap, hsz, htk⟩
  · have hxs : xs = [] := List.length_eq_zero_iff.1 hn
    subst hxs
    refine (AnyF.slices_SortFunc_none (P := Try.prog) (ρ := sortL_ren) { sortL with } none 0 _ W).mono fun e w' ⟨he, hw⟩ => ?_
    subst hw
    exact ⟨he, by rw [sortw_nil]; exact Kd.R_nil _ _ _ _ _, hB, Below.refl _ _⟩
  · have sz1 : (Kd.int .u64).sz = 1 := rfl
    rw [sz1] at hl hsz htk hr
    have hr' : Reps (fun (x : Int) (cs : List Value) => cs = [Value.int .u64 x]) 1 xs inner := hr
    have hok : ∀ x ∈ xs, Gd f x ∧ canw f x = x := fun x h => okc_out (List.all_eq_true.1 hx x h)
    by_cases hxs : xs = []
    · subst hxs
      refine (AnyF.slices_SortFunc_none (P := Try.prog) (ρ := sortL_ren) { sortL with } _ _ _ W).mono fun e w' ⟨he, hw⟩ => ?_
      subst hw
      exact ⟨he, by rw [sortw_nil]; exact ⟨h0, inner, ⟨hl, .inr ⟨g, cap, cur, rfl, hb, hg, hn1, hcap, hsz, htk⟩⟩, hr⟩, hB, Below.refl _ _⟩
    obtain ⟨x0, hx0⟩ := List.exists_mem_of_ne_nil xs hxs
    haveI : Inhabited (Cw f) := ⟨⟨x0, (hok x0 hx0).1, (hok x0 hx0).2⟩⟩
    have hgl : g < W.heap.size := blk_lt hg
    have hne : gb ≠ g := by
      rintro rfl
      rw [hB] at hg
      injection hg with hg
      injection hg with _ hg
      exact absurd hg (by decide)
    let l : List (Cw f) := xs.pmap (fun x (h : Gd f x ∧ canw f x = x) => (⟨x, h.1, h.2⟩ : Cw f)) hok
    have hlv : l.map (·.v) = xs := by simp [l, List.map_pmap]
    have hll : l.length = xs.length := by simp [l]
    have hcur : ∀ j (h : j < xs.length), cur[j]? = some (.int .u64 xs[j]) := by
      intro j h
      have h1 := reps_get hr' j h
      rw [← htk, Nat.mul_one, List.getElem?_take_of_lt h, Array.getElem?_toList] at h1
      exact h1
    have hlj : ∀ j (h : j < xs.length), (l.toArray[j]!).v = xs[j] := by
      intro j h
      have : l.toArray[j]! = l[j] := by simp [h, hll]
      rw [this]
      simp [l]
    have hH : Go.Sort.Holds (fun c : Cw f => Value.int .u64 c.v) W g 0 l.toArray := by
      intro j hj
      have hj' : j < xs.length := by simpa [hll] using hj
      rw [Nat.zero_add]
      refine ⟨?_, blk_frozen hg j⟩
      show _ = some (Value.int .u64 (l.toArray[j]!).v)
      rw [blk_cell hg j, hcur j hj', hlj j hj']
    have hn62 : l.toArray.size < 4611686018427387904 := by
      have : l.toArray.size = xs.length := by simp [hll]
      omega
    have eg : ∀ args w, (callFunc 53 args).run Try.prog w = .ok (.enter 53 args) w := enters_of Try.func53 (by kernel_rfl) rfl
    have hcmp : CmpLays1 Try.prog 53 #[.pointer (some ⟨gb, 0, none⟩)] (fun c : Cw f => Value.int .u64 c.v) (cfw f) g 0 l.toArray.size W := by
      intro m os dk hs x y
      refine cmp_call x y gb _ ?_
      unfold sortWorld
      have hgb : gb < W.heap.size := blk_lt hB
      rw [Go.Sort.cell?_grow _ _ _ (by simpa using hgb), Go.Sort.cell?_putRow_other _ _ _ _ _ _ (.inl hne)]
      exact (blk_cell hB 0).trans rfl
    have hS := Any.slices_SortFunc_total sortL (fun c : Cw f => Value.int .u64 c.v) (fun _ => rfl) (cfw f) (cfw_swo f) 53 #[.pointer (some ⟨gb, 0, none⟩)] g 0 cap l.toArray W eg hcmp hH hgl hn62 cfw_tot
    have hsz' : l.toArray.size = xs.length := by simp [hll]
    rw [hsz'] at hS
    refine hS.mono fun e w' ⟨he, n, os, hw⟩ => ?_
    subst hw
    have hsv : ((l.toArray.toList.mergeSort fun x y => !(ltOf (cfw f)) y x).map (·.v)) = sortw f xs := by
      have : (fun x y : Cw f => !(ltOf (cfw f)) y x) = fun x y => decide (key f x.v ≤ key f y.v) := by
        funext x y
        rw [cfw_lt]
        by_cases h : key f x.v ≤ key f y.v
        · have h' : ¬ key f y.v < key f x.v := by omega
          simp [h, h']
        · have h' : key f y.v < key f x.v := by omega
          simp [h, h']
      rw [this, List.map_mergeSort (s := fun x y => decide (key f x ≤ key f y)) (by intro a _ b _; rfl)]
      unfold sortw
      rw [show l.toArray.toList = l from rfl, hlv]
    generalize hm : (l.toArray.toList.mergeSort fun x y => !(ltOf (cfw f)) y x) = m at hsv
    have hml : m.length = xs.length := by rw [← hm, List.length_mergeSort]; simpa using hll
    have hsl : (sortw f xs).length = xs.length := by unfold sortw; rw [List.length_mergeSort]
    have hold : ∀ k, k < W.heap.size → k ≠ g → (sortWorld (fun c : Cw f => Value.int .u64 c.v) W g 0 n m.toArray os).heap[k]? = W.heap[k]? := by
      intro k hk hkg
      unfold sortWorld
      rw [Go.Sort.heap_grow_old _ _ (by simpa using hk), heap_put, if_neg (fun e => hkg e.symm)]
      rfl
    have hnew : (sortWorld (fun c : Cw f => Value.int .u64 c.v) W g 0 n m.toArray os).heap[g]? = some (.cells (Go.Sort.putCells (fun c : Cw f => Value.int .u64 c.v) 0 m.toArray cur) 23 (0, 0)) := by
      unfold sortWorld
      rw [Go.Sort.heap_grow_old _ _ (by simpa using hgl), heap_put, if_pos rfl]
      show (W.heap[g]?).map _ = _
      rw [hg]; rfl
    refine ⟨he, ⟨h0, (sortw f xs).map (Value.int .u64), ⟨by simp [sz1], .inr ⟨g, cap, _, by rw [hsl], hb, hnew, by rw [hsl]; exact hn1, hcap, ?_, ?_⟩⟩, reps_nums _ _⟩, ?_, ?_⟩
    · rw [sz1]; simpa [Go.Sort.putCells] using hsz
    · rw [sz1, Nat.mul_one, hsl]
      apply List.ext_getElem?
      intro j
      by_cases hj : j < xs.length
      · have hjm : j < m.length := by omega
        have hjc : j < cur.size := by rw [hsz, Nat.mul_one]; omega
        rw [List.getElem?_take_of_lt hj, Array.getElem?_toList, List.getElem?_map, ← hsv, List.getElem?_map]
        unfold Go.Sort.putCells
        rw [Array.getElem?_mapIdx, Array.getElem?_eq_getElem hjc]
        simp [hjm]
      · rw [List.getElem?_eq_none (by simp; omega), List.getElem?_eq_none (by simp; omega)]
    · rw [hold gb (blk_lt hB) hne]; exact hB
    · refine ⟨rfl, rfl, rfl, ?_, fun k hk => hold k (by omega) (by omega)⟩
      unfold sortWorld
      simp
end Go.Proofs.Ytnjdaoeebhbmfaa.PA
end
