/- Steps of Go functions that the law PairGroup uses, told as plain Lean functions, each with the proof that its call comes to what it tells; words on memory; plain facts. No condition beyond those that each text names. -/
import Derived.Laws.BitsAllLaws
import Derived.Laws.BitsLemmas
import Derived.OpenShut
import Derived.Test.YtgaabjjenlbmhaaProg
import Derived.Below
import Derived.Deep.Draws
import Derived.Deep.AppendLies
import Derived.Maps.AppendAt
import Derived.OwnWalk
import Derived.Laws.BytesArg
import Derived.Laws.MakeOwn
import Derived.Laws.OwnMore
import Derived.Deep.OwnRows
import Derived.Tactics
import Derived.Lib.ConvBytes
import Derived.Laws.Slices
import Derived.WalkKit
import Derived.KernelRfl
import Derived.RowKit3
import Derived.Deep.LoopGhost
import Derived.Deep.QuietTactic
import Derived.BigQuiet
import Derived.WideLaws
import Derived.Deep.DeepCutAuto
import Derived.Deep.CutBlock
import Derived.Deep.RegionHeld3
import Derived.Laws.Rows
import Derived.Lib.AppendStr
import Derived.ArgAppend
import Derived.Laws.IdiomCopy
import Derived.OrdersHeld
import Derived.RowKit
import Derived.Laws.StructEq
import Derived.Test.YtgaabjjenlbmhaaSPairGroup0
import Derived.Test.YtgaabjjenlbmhaaSPairGroup1
import Derived.Test.YtgaabjjenlbmhaaSPairGroup2
import Derived.Test.YtgaabjjenlbmhaaSPairGroup3
section
namespace Go.Proofs.Ytgaabjjenlbmhaa.Wd
open Go
theorem nat_or_lt {n a : Nat} (h : a < 2 ^ n) : a ||| 2 ^ n = 2 ^ n + a := by
  have := Nat.two_pow_add_eq_or_of_lt h 1
  rw [Nat.mul_one] at this
  rw [this, Nat.or_comm]
theorem nat_xor_lt {n a : Nat} (h : a < 2 ^ n) : a ^^^ 2 ^ n = 2 ^ n + a := by
  rw [← nat_or_lt h]
  apply Nat.eq_of_testBit_eq
  intro i
  rw [Nat.testBit_xor, Nat.testBit_or, Nat.testBit_two_pow]
  by_cases e : n = i
  · subst e; simp [Nat.testBit_lt_two_pow h]
  · simp [e]
theorem nat_xor_ge {n l : Nat} (h : l < 2 ^ n) : (2 ^ n + l) ^^^ 2 ^ n = l := by
  rw [← nat_xor_lt h, Nat.xor_assoc, Nat.xor_self, Nat.xor_zero]
theorem nat_mask {n a : Nat} (hn : n ≤ 63) (h : a < 2 ^ (n + 1)) : a &&& (2 ^ 64 - (2 ^ n + 1)) = a % 2 ^ n := by
  apply Nat.eq_of_testBit_eq
  intro i
  rw [Nat.testBit_and, Nat.testBit_mod_two_pow, Nat.testBit_two_pow_sub_succ (by exact Nat.pow_lt_pow_right (by decide) (by omega)), Nat.testBit_two_pow]
  by_cases e : i < n
  · simp [e, show n ≠ i by omega, show i < 64 by omega]
  · by_cases e2 : n = i
    · subst e2; simp
    · have : a.testBit i = false := Nat.testBit_lt_two_pow (Nat.lt_of_lt_of_le h (Nat.pow_le_pow_right (by decide) (by omega)))
      simp [this]
section
variable {w : Int}
theorem andNot31 (h0 : 0 ≤ w) (h1 : w < 4294967296) : Go.bits .andNot .u64 w 2147483648 = w % 2147483648 := by
  obtain ⟨a, rfl⟩ := Int.eq_ofNat_of_zero_le h0
  have ha : a < 2 ^ (31 + 1) := by omega
  have e := u64_andNot_nat a 2147483648 (by omega) (by decide)
  have m : a &&& 18446744071562067967 = a % 2147483648 := nat_mask (n := 31) (by decide) ha
  rw [show ((2147483648 : Int)) = ((2147483648 : Nat) : Int) from rfl, e, show (18446744073709551615 - 2147483648 : Nat) = 18446744071562067967 from rfl, m]
  omega
theorem andNot63 (h0 : 0 ≤ w) (h1 : w < 18446744073709551616) : Go.bits .andNot .u64 w 9223372036854775808 = w % 9223372036854775808 := by
  obtain ⟨a, rfl⟩ := Int.eq_ofNat_of_zero_le h0
  have ha : a < 2 ^ (63 + 1) := by omega
  have e := u64_andNot_nat a 9223372036854775808 (by omega) (by decide)
  have m : a &&& 9223372036854775807 = a % 9223372036854775808 := nat_mask (n := 63) (by decide) ha
  rw [show ((9223372036854775808 : Int)) = ((9223372036854775808 : Nat) : Int) from rfl, e, show (18446744073709551615 - 9223372036854775808 : Nat) = 9223372036854775807 from rfl, m]
  omega
theorem xor31 (h0 : 0 ≤ w) (h1 : w < 4294967296) : Go.bits .xor .u64 w 2147483648 = if w ≥ 2147483648 then w - 2147483648 else w + 2147483648 := by
  obtain ⟨a, rfl⟩ := Int.eq_ofNat_of_zero_le h0
  have e := u64_xor_nat a 2147483648 (by omega) (by decide)
  rw [show ((2147483648 : Int)) = ((2147483648 : Nat) : Int) from rfl, e]
  by_cases c : a < 2 ^ 31
  · have m : a ^^^ 2147483648 = 2 ^ 31 + a := nat_xor_lt (n := 31) c
    rw [m, if_neg (by omega)]; omega
  · obtain ⟨l, rfl⟩ : ∃ l, a = 2 ^ 31 + l := ⟨a - 2 ^ 31, by omega⟩
    have m : (2 ^ 31 + l) ^^^ 2147483648 = l := nat_xor_ge (n := 31) (l := l) (by omega)
    rw [m, if_pos (by omega)]; omega
theorem xor63 (h0 : 0 ≤ w) (h1 : w < 18446744073709551616) : Go.bits .xor .u64 w 9223372036854775808 = if w ≥ 9223372036854775808 then w - 9223372036854775808 else w + 9223372036854775808 := by
  obtain ⟨a, rfl⟩ := Int.eq_ofNat_of_zero_le h0
  have e := u64_xor_nat a 9223372036854775808 (by omega) (by decide)
  rw [show ((9223372036854775808 : Int)) = ((9223372036854775808 : Nat) : Int) from rfl, e]
  by_cases c : a < 2 ^ 63
  · have m : a ^^^ 9223372036854775808 = 2 ^ 63 + a := nat_xor_lt (n := 63) c
    rw [m, if_neg (by omega)]; omega
  · obtain ⟨l, rfl⟩ : ∃ l, a = 2 ^ 63 + l := ⟨a - 2 ^ 63, by omega⟩
    have m : (2 ^ 63 + l) ^^^ 9223372036854775808 = l := nat_xor_ge (n := 63) (l := l) (by omega)
    rw [m, if_pos (by omega)]; omega
end
end Go.Proofs.Ytgaabjjenlbmhaa.Wd
end

section
namespace Go.Proofs.Ytgaabjjenlbmhaa.PA
open Go.RowKit Go.Proofs.YtgaabjjenlbmhaaW.PrintWords Go.Proofs.YtgaabjjenlbmhaaW.PrintLast Go.Proofs.YtgaabjjenlbmhaaW.PrintMore Go.Proofs.Ytgaabjjenlbmhaa.Wd
set_option linter.unusedSimpArgs false
set_option linter.unusedVariables false
/-- the class of a size: P one above the fractions, I the infinite size -/
def cls (P I s : Int) : Int := if s = 0 then 1 else if s < P then 2 else if s < I then 3 else if s = I then 4 else 5
def sgn (f : Int) : Int := if f = 1 then 2147483648 else 9223372036854775808
def one (f : Int) : Int := if f = 1 then 8388608 else 4503599627370496
def infw (f : Int) : Int := if f = 1 then 2139095040 else 9218868437227405312
def nanw (f : Int) : Int := if f = 1 then 2143289344 else 9221120237041090560
def cl (f w : Int) : Int := cls (one f) (infw f) (w % sgn f)
/-- the error of a word, as Good tells it -/
def err (f w : Int) : Int := if f = 1 then (if w ≥ 4294967296 then 6 else 0) else if f = 2 then 0 else 4
/-- a good word -/
def Gd (f w : Int) : Prop := (f = 1 ∧ 0 ≤ w ∧ w < 4294967296) ∨ (f = 2 ∧ 0 ≤ w ∧ w < 18446744073709551616)
def U (w : Int) : Prop := 0 ≤ w ∧ w < 18446744073709551616
theorem Gd.u {f w : Int} (h : Gd f w) : U w := by rcases h with ⟨_, a, b⟩ | ⟨_, a, b⟩ <;> exact ⟨a, by omega⟩
theorem Gd.err {f w : Int} (h : Gd f w) : err f w = 0 := by
  rcases h with ⟨rfl, a, b⟩ | ⟨rfl, a, b⟩
  · simp [PA.err]; omega
  · simp [PA.err]
theorem gd_of {f w : Int} (h : err f w = 0) (hu : U w) : Gd f w := by
  unfold err at h
  unfold U at hu
  unfold Gd
  split at h
  · split at h
    · omega
    · omega
  · split at h <;> omega
theorem u_of {w : Int} (h : (Lit.int .u64 w).wf = true) : U w := by have := bounds_u64 h; exact ⟨by omega, by omega⟩
theorem rd_zero (w : Int) : rd [w] 0 = w := by rfl
theorem top31 : Go.bits .or .u64 2147483648 (IntKind.u64.wrap (2147483648 - 1)) = 4294967295 := by decide +kernel
theorem top63 : Go.bits .or .u64 9223372036854775808 (IntKind.u64.wrap (9223372036854775808 - 1)) = 18446744073709551615 := by decide +kernel
/-- the shape of a format -/
def shp (f : Int) : Int × Int × Int := if f = 1 then (23, 255, 2147483648) else if f = 2 then (52, 2047, 9223372036854775808) else (0, 0, 0)
theorem open_one (k : Nat) (f w : Int) (hu : U w) : word_open.f (k + 2) f [w] = some ((shp f).1, (shp f).2.1, (shp f).2.2, err f w) := by
  obtain ⟨h0, h3⟩ := hu
  unfold word_open.f word_shapeOf.f shp err
  by_cases h1 : f = 1
  · subst h1
    have l1 : (([w] : List Int).length : Int) = 1 := rfl
    have w1 : wrap64 (0 + 1) = 1 := by decide +kernel
    simp only [if_true, Option.bind_some, word_open.l0, l1, rd_zero, top31, Int.zero_lt_one, Int.le_refl, w1]
    by_cases c : w ≥ 4294967296
    · rw [if_pos (by omega)]; simp [c]
    · rw [if_neg (by omega)]; simp [c]
  · by_cases h2 : f = 2
    · subst h2
      have l1 : (([w] : List Int).length : Int) = 1 := rfl
      have w1 : wrap64 (0 + 1) = 1 := by decide +kernel
      simp only [show (¬ ((2 : Int) = 1)) by decide, if_false, if_true, Option.bind_some, word_open.l0, l1, rd_zero, top63, Int.zero_lt_one, Int.le_refl, w1]
      rw [if_neg (by omega)]
      simp
    · simp [h1, h2]
theorem shape_inf1 : word_shape_inf.f 23 255 2147483648 = some 2139095040 := by decide +kernel
theorem shape_inf2 : word_shape_inf.f 52 2047 9223372036854775808 = some 9218868437227405312 := by decide +kernel
theorem shape_none1 : word_shape_none.f 23 255 2147483648 = some 2143289344 := by decide +kernel
theorem shape_none2 : word_shape_none.f 52 2047 9223372036854775808 = some 9221120237041090560 := by decide +kernel
theorem shl23 : shl .u64 1 23 = 8388608 := by decide +kernel
theorem shl52 : shl .u64 1 52 = 4503599627370496 := by decide +kernel
theorem shape_class {f w : Int} (h : Gd f w) : word_shape_class.f (shp f).1 (shp f).2.1 (shp f).2.2 w = some (cl f w) := by
  rcases h with ⟨rfl, h0, h1⟩ | ⟨rfl, h0, h1⟩
  · have e1 : shp 1 = (23, 255, 2147483648) := rfl
    rw [e1]
    simp only [word_shape_class.f, andNot31 h0 h1, shape_inf1, Option.bind_some, shl23, cl, cls, one, infw, sgn, if_true]
    repeat' split
    all_goals first | rfl | (exfalso; omega)
  · have e1 : shp 2 = (52, 2047, 9223372036854775808) := rfl
    rw [e1]
    simp only [word_shape_class.f, andNot63 h0 h1, shape_inf2, Option.bind_some, shl52, cl, cls, one, infw, sgn]
    simp only [show (¬ ((2 : Int) = 1)) by decide, if_false]
    repeat' split
    all_goals first | rfl | (exfalso; omega)
theorem good_word (k : Nat) {f w : Int} (hu : U w) : word_Good.f (k + 2) f w = some (err f w) := by
  unfold word_Good.f
  rw [open_one k f w hu]
  simp only [Option.bind_some]
theorem ref_Is (f : Int) : cutplaneref03_Is.f f = some (decide (f = 1 ∨ f = 2)) := by
  unfold cutplaneref03_Is.f
  by_cases h1 : f = 1
  · simp [h1]
  · rw [if_neg h1]; by_cases h2 : f = 2 <;> simp [h1, h2]
theorem ref_Good (f w : Int) : cutplaneref03_Good.f f w = some (err f w) := by
  unfold cutplaneref03_Good.f err
  rw [ref_Is]
  by_cases h1 : f = 1
  · subst h1; simp
    split <;> rfl
  · by_cases h2 : f = 2 <;> simp [h1, h2]
def canw (f w : Int) : Int := if cl f w = 5 then nanw f else w
def flipw (f w : Int) : Int := if w ≥ sgn f then w - sgn f else w + sgn f
def negw (f w : Int) : Int := if cl f w = 5 then nanw f else flipw f w
theorem shape_none {f w : Int} (h : Gd f w) : word_shape_none.f (shp f).1 (shp f).2.1 (shp f).2.2 = some (nanw f) := by
  rcases h with ⟨rfl, _, _⟩ | ⟨rfl, _, _⟩
  · exact shape_none1
  · exact shape_none2
theorem turned_good (k : Nat) {f w : Int} (h : Gd f w) {g : Int → Int → Int → Option Int} {z : Int} (hg : g (shp f).1 (shp f).2.1 (shp f).2.2 = some z) :
    word_turned.f (k + 2) f w g = some (if cl f w = 5 then nanw f else z, 0) := by
  unfold word_turned.f
  rw [open_one k f w h.u, h.err]
  simp only [Option.bind_some, if_true, shape_class h, shape_none h, hg]
  split <;> rfl
theorem shp3 {f w : Int} (h : Gd f w) : (shp f).2.2 = sgn f := by
  rcases h with ⟨rfl, _, _⟩ | ⟨rfl, _, _⟩ <;> rfl
theorem canon_good (k : Nat) {f w : Int} (h : Gd f w) : word_Canon.f (k + 2) f w = some (canw f w, 0) := by
  unfold word_Canon.f
  rw [turned_good k h (z := w) rfl]; rfl
theorem neg_good (k : Nat) {f w : Int} (h : Gd f w) : word_Neg.f (k + 2) f w = some (negw f w, 0) := by
  unfold word_Neg.f
  rw [turned_good k h (z := flipw f w) ?_]
  · rfl
  · unfold word_Neg_1.f flipw
    rw [shp3 h]
    rcases h with ⟨rfl, h0, h1⟩ | ⟨rfl, h0, h1⟩
    · exact congrArg some (xor31 h0 h1)
    · exact congrArg some (xor63 h0 h1)
theorem nan_gd {f w : Int} (h : Gd f w) : Gd f (nanw f) := by
  rcases h with ⟨rfl, _, _⟩ | ⟨rfl, _, _⟩
  · exact .inl ⟨rfl, by decide, by decide⟩
  · exact .inr ⟨rfl, by decide, by decide⟩
theorem flipw_gd {f w : Int} (h : Gd f w) : Gd f (flipw f w) := by
  unfold flipw sgn
  rcases h with ⟨rfl, h0, h1⟩ | ⟨rfl, h0, h1⟩
  · exact .inl ⟨rfl, by simp only [if_true]; split <;> omega, by simp only [if_true]; split <;> omega⟩
  · exact .inr ⟨rfl, by simp only [show (¬ ((2 : Int) = 1)) by decide, if_false]; split <;> omega, by simp only [show (¬ ((2 : Int) = 1)) by decide, if_false]; split <;> omega⟩
theorem neg_gd {f w : Int} (h : Gd f w) : Gd f (negw f w) := by unfold negw; split; exact nan_gd h; exact flipw_gd h
theorem can_gd {f w : Int} (h : Gd f w) : Gd f (canw f w) := by unfold canw; split; exact nan_gd h; exact h
theorem cl_flipw {f w : Int} (h : Gd f w) : cl f (flipw f w) = cl f w := by
  unfold cl
  have : flipw f w % sgn f = w % sgn f := by
    unfold flipw sgn
    rcases h with ⟨rfl, h0, h1⟩ | ⟨rfl, h0, h1⟩
    · simp only [if_true]; split <;> omega
    · simp only [show (¬ ((2 : Int) = 1)) by decide, if_false]; split <;> omega
  rw [this]
theorem cl_nan (f : Int) : cl f (nanw f) = 5 := by
  unfold cl cls nanw one infw sgn
  split <;> decide
theorem flipw_flipw {f w : Int} (h : Gd f w) : flipw f (flipw f w) = w := by
  unfold flipw sgn
  rcases h with ⟨rfl, h0, h1⟩ | ⟨rfl, h0, h1⟩
  · simp only [if_true]; split <;> split <;> omega
  · simp only [show (¬ ((2 : Int) = 1)) by decide, if_false]; split <;> split <;> omega
theorem neg_neg' {f w : Int} (h : Gd f w) : negw f (negw f w) = canw f w := by
  unfold negw canw
  by_cases c : cl f w = 5
  · simp only [if_pos c, cl_nan, if_true]
  · simp only [if_neg c, cl_flipw h, flipw_flipw h]
end Go.Proofs.Ytgaabjjenlbmhaa.PA
end

section
namespace Go.Proofs.Ytgaabjjenlbmhaa.PA
open Go.RowKit Go.Proofs.YtgaabjjenlbmhaaW.PrintWords Go.Proofs.YtgaabjjenlbmhaaW.PrintLast Go.Proofs.YtgaabjjenlbmhaaW.PrintMore Go.Proofs.Ytgaabjjenlbmhaa.Wd
set_option linter.unusedSimpArgs false
set_option linter.unusedVariables false
def errz (f a b : Int) : Int := if err f a = 0 then err f b else err f a
def Gz (f a b : Int) : Prop := Gd f a ∧ Gd f b
theorem gz_of {f a b : Int} (h : errz f a b = 0) (ha : U a) (hb : U b) : Gz f a b := by
  unfold errz at h
  by_cases e : err f a = 0
  · rw [if_pos e] at h; exact ⟨gd_of e ha, gd_of h hb⟩
  · rw [if_neg e] at h; exact absurd h e
theorem Gz.err {f a b : Int} (h : Gz f a b) : errz f a b = 0 := by unfold errz; rw [h.1.err, h.2.err]; rfl
theorem err_val (f w : Int) : err f w = 0 ∨ err f w = 4 ∨ err f w = 6 := by
  unfold PA.err; repeat' split
  all_goals simp
theorem err_four (f w : Int) : err f w = 4 ↔ ¬ (f = 1 ∨ f = 2) := by
  unfold PA.err; repeat' split
  all_goals simp_all
theorem good_pair (k : Nat) {f a b : Int} (ha : U a) (hb : U b) : pair_Good.f (k + 2) f a b = some (errz f a b) := by
  unfold pair_Good.f errz
  rw [good_word k ha]
  simp only [Option.bind_some, good_word k hb]
  split <;> rfl
theorem ref_Goodz (k : Nat) (f a b : Int) : cutplaneref10_Good.f (k + 2) f [⟨a, b⟩] = some (errz f a b) := by
  unfold cutplaneref10_Good.f errz
  rw [ref_Is]
  have l1 : (([⟨a, b⟩] : List S25).length : Int) = 1 := rfl
  have r0 : rd_T25 [⟨a, b⟩] 0 = ⟨a, b⟩ := rfl
  have w1 : wrap64 (0 + 1) = 1 := by decide +kernel
  by_cases hf : f = 1 ∨ f = 2
  · have ea := err_val f a
    have eb := err_val f b
    have fa : err f a ≠ 4 := fun c => (err_four f a).1 c hf
    have fb : err f b ≠ 4 := fun c => (err_four f b).1 c hf
    simp only [Option.bind_some, hf, decide_true, if_true, cutplaneref10_Good.l0, l1, r0, w1, ref_Good, Int.zero_lt_one, Int.le_refl]
    by_cases c : err f a = 0
    · rw [if_pos c, if_pos c]
      by_cases d : err f b = 0
      · rw [if_pos d, d]; rfl
      · rw [if_neg d]; congr 1; omega
    · rw [if_neg c, if_neg c]; congr 1; omega
  · have fa := (err_four f a).2 hf
    simp [hf, fa]
theorem each_good (k : Nat) {f a b : Int} (h : Gz f a b) {g g' : Int → Int → Option (Int × Int)} {x y x' y' : Int} (hg : g f a = some (x, x')) (hg' : g' f b = some (y, y')) :
    pair_each.f (k + 2) f a b g g' = some (x, y, 0) := by
  unfold pair_each.f
  rw [good_pair k h.1.u h.2.u, h.err]
  simp only [Option.bind_some, if_true, hg, hg']
theorem canonz_good (k : Nat) {f a b : Int} (h : Gz f a b) : pair_Canon.f (k + 2) f a b = some (canw f a, canw f b, 0) := by
  unfold pair_Canon.f; rw [each_good k h (canon_good k h.1) (canon_good k h.2)]; rfl
theorem conjz_good (k : Nat) {f a b : Int} (h : Gz f a b) : pair_Conj.f (k + 2) f a b = some (canw f a, negw f b, 0) := by
  unfold pair_Conj.f; rw [each_good k h (canon_good k h.1) (neg_good k h.2)]; rfl
theorem negz_good (k : Nat) {f a b : Int} (h : Gz f a b) : pair_Neg.f (k + 2) f a b = some (negw f a, negw f b, 0) := by
  unfold pair_Neg.f; rw [each_good k h (neg_good k h.1) (neg_good k h.2)]; rfl
/-- the last two bits of a whole number -/
theorem and3 {n : Int} (h0 : -9223372036854775808 ≤ n) (h1 : n < 9223372036854775808) : Go.bits .and .i64 n 3 = n % 4 := by
  obtain ⟨m, hm⟩ : ∃ m : Nat, (m : Int) = n % 18446744073709551616 := ⟨(n % 18446744073709551616).toNat, by omega⟩
  have e1 : (BitVec.ofInt 64 n).toNat = m := by
    rw [BitVec.toNat_ofInt]
    show (n % 18446744073709551616).toNat = m
    omega
  have e2 : ((BitVec.ofInt 64 n) &&& (BitVec.ofInt 64 3)).toNat = m % 4 := by
    rw [BitVec.toNat_and, e1]
    exact Nat.and_two_pow_sub_one_eq_mod m 2
  have e3 : Go.bits .and .i64 n 3 = IntKind.i64.wrap ((((BitVec.ofInt 64 n) &&& (BitVec.ofInt 64 3)).toNat : Nat) : Int) := rfl
  rw [e3, e2, IntKind.wrap_i64]
  omega
/-- turned m times -/
def tz (f m a b : Int) : Int × Int := if m = 1 then (negw f b, canw f a) else if m = 2 then (negw f a, negw f b) else if m = 3 then (canw f b, negw f a) else (canw f a, canw f b)
theorem turnz_good (k : Nat) {f a b n : Int} (h : Gz f a b) (h0 : -9223372036854775808 ≤ n) (h1 : n < 9223372036854775808) : pair_Turn.f (k + 2) f a b n = some ((tz f (n % 4) a b).1, (tz f (n % 4) a b).2, 0) := by
  have hs : Gz f b a := ⟨h.2, h.1⟩
  unfold pair_Turn.f tz
  rw [and3 h0 h1, each_good k hs (neg_good k hs.1) (canon_good k hs.2), negz_good k h, each_good k hs (canon_good k hs.1) (neg_good k hs.2), canonz_good k h]
  repeat' split
  all_goals first | rfl | simp_all
theorem can_can (f w : Int) : canw f (canw f w) = canw f w := by
  unfold canw; by_cases c : cl f w = 5
  · simp only [if_pos c, cl_nan, if_true]
  · simp only [if_neg c]
theorem neg_can (f w : Int) : negw f (canw f w) = negw f w := by
  unfold negw canw; by_cases c : cl f w = 5
  · simp only [if_pos c, cl_nan, if_true]
  · simp only [if_neg c]
theorem can_neg {f w : Int} (h : Gd f w) : canw f (negw f w) = negw f w := by
  unfold negw canw; by_cases c : cl f w = 5
  · simp only [if_pos c, cl_nan, if_true]
  · simp only [if_neg c, cl_flipw h]
theorem known10 (k : Nat) : cutplanelaw10_known.f (k + 2) = some true := by
  unfold cutplanelaw10_known.f
  rw [turnz_good k (f := 1) ⟨.inl ⟨rfl, by decide, by decide⟩, .inl ⟨rfl, by decide, by decide⟩⟩ (by decide) (by decide)]
  decide +kernel
end Go.Proofs.Ytgaabjjenlbmhaa.PA
end

section
namespace Go.Proofs.Ytgaabjjenlbmhaa.Pure
open Go.RowKit Go.Proofs.Ytgaabjjenlbmhaa.PA Go.Proofs.YtgaabjjenlbmhaaW.PrintWords Go.Proofs.YtgaabjjenlbmhaaW.PrintLast Go.Proofs.Ytgaabjjenlbmhaa.Wd
set_option linter.unusedSimpArgs false
set_option linter.unusedVariables false
theorem tmod1000 (n : Int) : -999 ≤ Int.tmod n 1000 ∧ Int.tmod n 1000 ≤ 999 := by
  by_cases h : 0 ≤ n
  · rw [Int.tmod_eq_emod_of_nonneg h]; omega
  · have : Int.tmod n 1000 = -Int.tmod (-n) 1000 := by rw [Int.neg_tmod, Int.neg_neg]
    rw [this, Int.tmod_eq_emod_of_nonneg (by omega)]; omega
theorem gz_tz {f a b : Int} (h : Gz f a b) (m : Int) : Gz f (tz f m a b).1 (tz f m a b).2 := by
  unfold tz
  repeat' split
  · exact ⟨neg_gd h.2, can_gd h.1⟩
  · exact ⟨neg_gd h.1, neg_gd h.2⟩
  · exact ⟨can_gd h.2, neg_gd h.1⟩
  · exact ⟨can_gd h.1, can_gd h.2⟩
theorem tz_tz {f a b : Int} (h : Gz f a b) (m n p : Int) (hm : m = 0 ∨ m = 1 ∨ m = 2 ∨ m = 3) (hn : n = 0 ∨ n = 1 ∨ n = 2 ∨ n = 3) (hp : p = (m + n) % 4) :
    tz f n (tz f m a b).1 (tz f m a b).2 = tz f p a b := by
  subst hp
  rcases hm with rfl | rfl | rfl | rfl <;> rcases hn with rfl | rfl | rfl | rfl <;>
    simp [tz, can_can, neg_can, can_neg h.1, can_neg h.2, neg_neg' h.1, neg_neg' h.2]
theorem PairGroup : cutplanelaw10_PairGroup.Pure := by
  intro f a b n k _ ha hb hn hk
  have ua := u_of ha
  have ub := u_of hb
  refine ⟨6, ?_⟩
  unfold cutplanelaw10_PairGroup.f
  have bn := tmod1000 n
  have bk := tmod1000 k
  generalize Int.tmod n 1000 = x at *
  generalize Int.tmod k 1000 = y at *
  have w1 : wrap64 (x + y) = x + y := by unfold wrap64; omega
  have w2 : wrap64 (-x) = -x := by unfold wrap64; omega
  have w3 : wrap64 (-x - y) = -x - y := by unfold wrap64; omega
  rw [ref_Goodz 4, w1, w2, w3]
  by_cases he : errz f a b = 0
  · have h := gz_of he ua ub
    have m1 : x % 4 = 0 ∨ x % 4 = 1 ∨ x % 4 = 2 ∨ x % 4 = 3 := by omega
    have m2 : y % 4 = 0 ∨ y % 4 = 1 ∨ y % 4 = 2 ∨ y % 4 = 3 := by omega
    have m3 : (x + y) % 4 = 0 ∨ (x + y) % 4 = 1 ∨ (x + y) % 4 = 2 ∨ (x + y) % 4 = 3 := by omega
    have m4 : (-x - y) % 4 = 0 ∨ (-x - y) % 4 = 1 ∨ (-x - y) % 4 = 2 ∨ (-x - y) % 4 = 3 := by omega
    have h1 := gz_tz h (x % 4)
    have h2 := gz_tz h ((x + y) % 4)
    have hc : Gz f (canw f a) (negw f b) := ⟨can_gd h.1, neg_gd h.2⟩
    have t1 := tz_tz h (x % 4) (y % 4) ((x + y) % 4) m1 m2 (by omega)
    have t2 := tz_tz h ((x + y) % 4) ((-x - y) % 4) 0 m3 m4 (by omega)
    rw [turnz_good 4 h (n := x) (by omega) (by omega)]
    simp only [Option.bind_some, he, if_true]
    rw [turnz_good 4 h1 (n := y) (by omega) (by omega), turnz_good 4 h (n := x + y) (by omega) (by omega)]
    simp only [Option.bind_some]
    rw [turnz_good 4 h2 (n := -x - y) (by omega) (by omega), canonz_good 4 h, conjz_good 4 h, conjz_good 4 h1, negz_good 4 h, turnz_good 4 h (n := 2) (by omega) (by omega)]
    simp only [Option.bind_some]
    rw [turnz_good 4 hc (n := -x) (by omega) (by omega), conjz_good 4 hc, t1, t2]
    have t3 : (canw f (tz f (x % 4) a b).1, negw f (tz f (x % 4) a b).2) = tz f (-x % 4) (canw f a) (negw f b) := by
      have e : -x % 4 = (4 - x % 4) % 4 := by omega
      rw [e]
      rcases m1 with m | m | m | m <;> rw [m] <;> simp [tz, can_can, neg_can, can_neg h.1, can_neg h.2, neg_neg' h.1, neg_neg' h.2]
    have t4 := congrArg Prod.fst t3
    have t5 := congrArg Prod.snd t3
    simp only at t4 t5
    rw [t4, t5]
    simp [tz, can_can, neg_neg' h.2, known10 4]
  · simp only [Option.bind_some, if_neg he, known10 4]
end Go.Proofs.Ytgaabjjenlbmhaa.Pure
end
