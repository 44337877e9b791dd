/- Steps of Go functions that the law WordNext uses, told as plain Lean functions, each with the proof that its call comes to what it tells; words on memory; plain facts. No condition beyond those that each text names. -/
import Derived.Laws.BitsAllLaws
import Derived.Laws.BitsLemmas
import Derived.Test.YthiklmgdmaemgaaDoorProg
import Derived.WalkMore
import Derived.Shelf.Spec.TrailingZeros
import Derived.Below
import Derived.Deep.Draws
import Derived.Deep.AppendLies
import Derived.Maps.AppendAt
import Derived.OwnWalk
import Derived.Laws.BytesArg
import Derived.Laws.MakeOwn
import Derived.Laws.OwnMore
import Derived.Deep.OwnRows
import Derived.Tactics
import Derived.Lib.ConvBytes
import Derived.Laws.Slices
import Derived.WalkKit
import Derived.KernelRfl
import Derived.RowKit3
import Derived.Deep.LoopGhost
import Derived.Deep.QuietTactic
import Derived.BigQuiet
import Derived.WideLaws
import Derived.Deep.DeepCutAuto
import Derived.Deep.CutBlock
import Derived.Deep.RegionHeld3
import Derived.Laws.Rows
import Derived.Lib.AppendStr
import Derived.ArgAppend
import Derived.Laws.IdiomCopy
import Derived.OrdersHeld
import Derived.RowKit
import Derived.Laws.StructEq
import Derived.Lib.EndianBits
import Derived.OpenShut
import Derived.Test.YthiklmgdmaemgaaDoorSWordNext0
import Derived.Test.YthiklmgdmaemgaaDoorSWordNext1
import Derived.Test.YthiklmgdmaemgaaDoorSWordNext2
import Derived.Test.YthiklmgdmaemgaaDoorSWordNext3
import Derived.Test.YthiklmgdmaemgaaDoorSWordNext4
import Derived.Test.YthiklmgdmaemgaaDoorSWordNext5
import Derived.Test.YthiklmgdmaemgaaDoorSWordNext6
import Derived.Test.YthiklmgdmaemgaaDoorSWordNext7
import Derived.Test.YthiklmgdmaemgaaDoorSWordNext8
section
namespace Go.Proofs.YthiklmgdmaemgaaDoor.Wd
open Go
theorem nat_and_lt {n a : Nat} (h : a < 2 ^ n) : a &&& 2 ^ n = 0 := by
  apply Nat.eq_of_testBit_eq
  intro i
  rw [Nat.testBit_and, Nat.testBit_two_pow, Nat.zero_testBit]
  by_cases e : n = i
  · subst e; simp [Nat.testBit_lt_two_pow h]
  · simp [e]
theorem nat_and_ge {n l : Nat} (h : l < 2 ^ n) : (2 ^ n + l) &&& 2 ^ n = 2 ^ n := by
  apply Nat.eq_of_testBit_eq
  intro i
  rw [Nat.testBit_and, Nat.testBit_two_pow]
  by_cases e : n = i
  · subst e; rw [Nat.testBit_two_pow_add_eq, Nat.testBit_lt_two_pow h]; simp
  · simp [e]
theorem nat_or_lt {n a : Nat} (h : a < 2 ^ n) : a ||| 2 ^ n = 2 ^ n + a := by
  have := Nat.two_pow_add_eq_or_of_lt h 1
  rw [Nat.mul_one] at this
  rw [this, Nat.or_comm]
theorem nat_xor_lt {n a : Nat} (h : a < 2 ^ n) : a ^^^ 2 ^ n = 2 ^ n + a := by
  rw [← nat_or_lt h]
  apply Nat.eq_of_testBit_eq
  intro i
  rw [Nat.testBit_xor, Nat.testBit_or, Nat.testBit_two_pow]
  by_cases e : n = i
  · subst e; simp [Nat.testBit_lt_two_pow h]
  · simp [e]
theorem nat_xor_ge {n l : Nat} (h : l < 2 ^ n) : (2 ^ n + l) ^^^ 2 ^ n = l := by
  rw [← nat_xor_lt h, Nat.xor_assoc, Nat.xor_self, Nat.xor_zero]
theorem nat_mask {n a : Nat} (hn : n ≤ 63) (h : a < 2 ^ (n + 1)) : a &&& (2 ^ 64 - (2 ^ n + 1)) = a % 2 ^ n := by
  apply Nat.eq_of_testBit_eq
  intro i
  rw [Nat.testBit_and, Nat.testBit_mod_two_pow, Nat.testBit_two_pow_sub_succ (by exact Nat.pow_lt_pow_right (by decide) (by omega)), Nat.testBit_two_pow]
  by_cases e : i < n
  · simp [e, show n ≠ i by omega, show i < 64 by omega]
  · by_cases e2 : n = i
    · subst e2; simp
    · have : a.testBit i = false := Nat.testBit_lt_two_pow (Nat.lt_of_lt_of_le h (Nat.pow_le_pow_right (by decide) (by omega)))
      simp [this]
section
variable {w : Int}
theorem andNot31 (h0 : 0 ≤ w) (h1 : w < 4294967296) : Go.bits .andNot .u64 w 2147483648 = w % 2147483648 := by
  obtain ⟨a, rfl⟩ := Int.eq_ofNat_of_zero_le h0
  have ha : a < 2 ^ (31 + 1) := by omega
  have e := u64_andNot_nat a 2147483648 (by omega) (by decide)
  have m : a &&& 18446744071562067967 = a % 2147483648 := nat_mask (n := 31) (by decide) ha
  rw [show ((2147483648 : Int)) = ((2147483648 : Nat) : Int) from rfl, e, show (18446744073709551615 - 2147483648 : Nat) = 18446744071562067967 from rfl, m]
  omega
theorem andNot63 (h0 : 0 ≤ w) (h1 : w < 18446744073709551616) : Go.bits .andNot .u64 w 9223372036854775808 = w % 9223372036854775808 := by
  obtain ⟨a, rfl⟩ := Int.eq_ofNat_of_zero_le h0
  have ha : a < 2 ^ (63 + 1) := by omega
  have e := u64_andNot_nat a 9223372036854775808 (by omega) (by decide)
  have m : a &&& 9223372036854775807 = a % 9223372036854775808 := nat_mask (n := 63) (by decide) ha
  rw [show ((9223372036854775808 : Int)) = ((9223372036854775808 : Nat) : Int) from rfl, e, show (18446744073709551615 - 9223372036854775808 : Nat) = 9223372036854775807 from rfl, m]
  omega
theorem and31 (h0 : 0 ≤ w) (h1 : w < 4294967296) : Go.bits .and .u64 w 2147483648 = if w ≥ 2147483648 then 2147483648 else 0 := by
  obtain ⟨a, rfl⟩ := Int.eq_ofNat_of_zero_le h0
  have e := u64_and_nat a 2147483648 (by omega) (by decide)
  rw [show ((2147483648 : Int)) = ((2147483648 : Nat) : Int) from rfl, e]
  by_cases c : a < 2 ^ 31
  · have m : a &&& 2147483648 = 0 := nat_and_lt (n := 31) c
    rw [m, if_neg (by omega)]; rfl
  · obtain ⟨l, rfl⟩ : ∃ l, a = 2 ^ 31 + l := ⟨a - 2 ^ 31, by omega⟩
    have m : (2 ^ 31 + l) &&& 2147483648 = 2147483648 := nat_and_ge (n := 31) (l := l) (by omega)
    rw [m, if_pos (by omega)]
theorem and63 (h0 : 0 ≤ w) (h1 : w < 18446744073709551616) : Go.bits .and .u64 w 9223372036854775808 = if w ≥ 9223372036854775808 then 9223372036854775808 else 0 := by
  obtain ⟨a, rfl⟩ := Int.eq_ofNat_of_zero_le h0
  have e := u64_and_nat a 9223372036854775808 (by omega) (by decide)
  rw [show ((9223372036854775808 : Int)) = ((9223372036854775808 : Nat) : Int) from rfl, e]
  by_cases c : a < 2 ^ 63
  · have m : a &&& 9223372036854775808 = 0 := nat_and_lt (n := 63) c
    rw [m, if_neg (by omega)]; rfl
  · obtain ⟨l, rfl⟩ : ∃ l, a = 2 ^ 63 + l := ⟨a - 2 ^ 63, by omega⟩
    have m : (2 ^ 63 + l) &&& 9223372036854775808 = 9223372036854775808 := nat_and_ge (n := 63) (l := l) (by omega)
    rw [m, if_pos (by omega)]
theorem xor31 (h0 : 0 ≤ w) (h1 : w < 4294967296) : Go.bits .xor .u64 w 2147483648 = if w ≥ 2147483648 then w - 2147483648 else w + 2147483648 := by
  obtain ⟨a, rfl⟩ := Int.eq_ofNat_of_zero_le h0
  have e := u64_xor_nat a 2147483648 (by omega) (by decide)
  rw [show ((2147483648 : Int)) = ((2147483648 : Nat) : Int) from rfl, e]
  by_cases c : a < 2 ^ 31
  · have m : a ^^^ 2147483648 = 2 ^ 31 + a := nat_xor_lt (n := 31) c
    rw [m, if_neg (by omega)]; omega
  · obtain ⟨l, rfl⟩ : ∃ l, a = 2 ^ 31 + l := ⟨a - 2 ^ 31, by omega⟩
    have m : (2 ^ 31 + l) ^^^ 2147483648 = l := nat_xor_ge (n := 31) (l := l) (by omega)
    rw [m, if_pos (by omega)]; omega
theorem xor63 (h0 : 0 ≤ w) (h1 : w < 18446744073709551616) : Go.bits .xor .u64 w 9223372036854775808 = if w ≥ 9223372036854775808 then w - 9223372036854775808 else w + 9223372036854775808 := by
  obtain ⟨a, rfl⟩ := Int.eq_ofNat_of_zero_le h0
  have e := u64_xor_nat a 9223372036854775808 (by omega) (by decide)
  rw [show ((9223372036854775808 : Int)) = ((9223372036854775808 : Nat) : Int) from rfl, e]
  by_cases c : a < 2 ^ 63
  · have m : a ^^^ 9223372036854775808 = 2 ^ 63 + a := nat_xor_lt (n := 63) c
    rw [m, if_neg (by omega)]; omega
  · obtain ⟨l, rfl⟩ : ∃ l, a = 2 ^ 63 + l := ⟨a - 2 ^ 63, by omega⟩
    have m : (2 ^ 63 + l) ^^^ 9223372036854775808 = l := nat_xor_ge (n := 63) (l := l) (by omega)
    rw [m, if_pos (by omega)]; omega
theorem or31 (h0 : 0 ≤ w) (h1 : w < 2147483648) : Go.bits .or .u64 w 2147483648 = w + 2147483648 := by
  obtain ⟨a, rfl⟩ := Int.eq_ofNat_of_zero_le h0
  have e := u64_or_nat a 2147483648 (by omega) (by decide)
  have m : a ||| 2147483648 = 2 ^ 31 + a := nat_or_lt (n := 31) (by omega)
  rw [show ((2147483648 : Int)) = ((2147483648 : Nat) : Int) from rfl, e, m]
  omega
theorem or63 (h0 : 0 ≤ w) (h1 : w < 9223372036854775808) : Go.bits .or .u64 w 9223372036854775808 = w + 9223372036854775808 := by
  obtain ⟨a, rfl⟩ := Int.eq_ofNat_of_zero_le h0
  have e := u64_or_nat a 9223372036854775808 (by omega) (by decide)
  have m : a ||| 9223372036854775808 = 2 ^ 63 + a := nat_or_lt (n := 63) (by omega)
  rw [show ((9223372036854775808 : Int)) = ((9223372036854775808 : Nat) : Int) from rfl, e, m]
  omega
theorem wrapu64 (n : Int) : IntKind.u64.wrap n = n % 18446744073709551616 := by simp [IntKind.wrap, IntKind.bits, IntKind.signed]
theorem wraps_u64 (n : Int) (h₀ : 0 ≤ n) (h₁ : n < 2 ^ 64) : IntKind.u64.wrap n = n := by
  rw [wrapu64]; omega
theorem and23 (h0 : 0 ≤ w) (h1 : w < 18446744073709551616) : Go.bits .and .u64 w 8388607 = w % 8388608 :=
  bits_mask .u64 64 (by decide) wraps_u64 23 (by decide) w h0 (by omega)
theorem and52 (h0 : 0 ≤ w) (h1 : w < 18446744073709551616) : Go.bits .and .u64 w 4503599627370495 = w % 4503599627370496 :=
  bits_mask .u64 64 (by decide) wraps_u64 52 (by decide) w h0 (by omega)
theorem join23 {x y : Int} (h0 : 0 ≤ x) (h1 : x < 2199023255552) (h2 : 0 ≤ y) (h3 : y < 8388608) : Go.bits .or .u64 (x * 8388608) y = x * 8388608 + y :=
  bits_join .u64 64 (by decide) wraps_u64 23 _ _ (by omega) (by omega) (by omega) h2 (by omega) (by omega)
theorem join52 {x y : Int} (h0 : 0 ≤ x) (h1 : x < 4096) (h2 : 0 ≤ y) (h3 : y < 4503599627370496) : Go.bits .or .u64 (x * 4503599627370496) y = x * 4503599627370496 + y :=
  bits_join .u64 64 (by decide) wraps_u64 52 _ _ (by omega) (by omega) (by omega) h2 (by omega) (by omega)
end
end Go.Proofs.YthiklmgdmaemgaaDoor.Wd
end

section
namespace Go.Proofs.YthiklmgdmaemgaaDoor.Wd
open Go
/-- what a list of digits stands for -/
def vn : List Int → Nat
  | [] => 0
  | d :: t => d.toNat + 4294967296 * vn t
def Dg (l : List Int) : Prop := ∀ d ∈ l, 0 ≤ d ∧ d < 4294967296
/-- a number's digits, none of them nought at the high end -/
def dg (n : Nat) : List Int := if h : n = 0 then [] else ((n % 4294967296 : Nat) : Int) :: dg (n / 4294967296)
  termination_by n
  decreasing_by omega
theorem dg_zero : dg 0 = [] := by rw [dg]; simp
theorem dg_pos {n : Nat} (h : n ≠ 0) : dg n = ((n % 4294967296 : Nat) : Int) :: dg (n / 4294967296) := by rw [dg]; simp [h]
theorem vn_dg (n : Nat) : vn (dg n) = n := by
  induction n using Nat.strongRecOn with
  | _ n ih =>
    by_cases h : n = 0
    · subst h; rw [dg_zero]; rfl
    · rw [dg_pos h, vn, ih (n / 4294967296) (by omega)]
      have : (((n % 4294967296 : Nat) : Int)).toNat = n % 4294967296 := by omega
      rw [this]; omega
theorem dg_dg (n : Nat) : Dg (dg n) := by
  induction n using Nat.strongRecOn with
  | _ n ih =>
    by_cases h : n = 0
    · subst h; rw [dg_zero]; intro d hd; cases hd
    · rw [dg_pos h]
      intro d hd
      rcases List.mem_cons.1 hd with rfl | hd
      · omega
      · exact ih (n / 4294967296) (by omega) d hd
theorem dg_nil {n : Nat} : dg n = [] ↔ n = 0 := by
  constructor
  · intro h; have := vn_dg n; rw [h] at this; exact this.symm
  · rintro rfl; exact dg_zero
def Nm (l : List Int) : Prop := ∀ h : l ≠ [], l.getLast h ≠ 0
theorem vn_pos {l : List Int} (hd : Dg l) (hn : Nm l) (h : l ≠ []) : vn l ≠ 0 := by
  induction l with
  | nil => exact absurd rfl h
  | cons d t ih =>
    have hd0 := hd d (List.mem_cons_self ..)
    by_cases ht : t = []
    · subst ht
      have := hn h
      simp only [List.getLast_singleton] at this
      simp only [vn]; omega
    · have := ih (fun x hx => hd x (List.mem_cons_of_mem _ hx)) (fun h' => by have := hn h; rwa [List.getLast_cons h'] at this) ht
      simp only [vn]; omega
theorem eq_dg {l : List Int} (hd : Dg l) (hn : Nm l) : l = dg (vn l) := by
  induction l with
  | nil => simp only [vn]; exact dg_zero.symm
  | cons d t ih =>
    have hd0 := hd d (List.mem_cons_self ..)
    have hdt : Dg t := fun x hx => hd x (List.mem_cons_of_mem _ hx)
    have hnt : Nm t := fun h' => by have := hn (List.cons_ne_nil d t); rwa [List.getLast_cons h'] at this
    have hp := vn_pos hd hn (List.cons_ne_nil d t)
    rw [dg_pos hp]
    simp only [vn] at hp ⊢
    have e1 : (d.toNat + 4294967296 * vn t) % 4294967296 = d.toNat := by omega
    have e2 : (d.toNat + 4294967296 * vn t) / 4294967296 = vn t := by omega
    rw [e1, e2, ← ih hdt hnt]
    congr 1; omega
theorem vn_append (l m : List Int) : vn (l ++ m) = vn l + 4294967296 ^ l.length * vn m := by
  induction l with
  | nil => simp [vn]
  | cons d t ih =>
    simp only [List.cons_append, vn, ih, List.length_cons, Nat.pow_succ]
    rw [Nat.mul_add, ← Nat.mul_assoc, Nat.mul_comm 4294967296 (4294967296 ^ t.length)]
    omega
theorem vn_lt {l : List Int} (hd : Dg l) : vn l < 4294967296 ^ l.length := by
  induction l with
  | nil => simp [vn]
  | cons d t ih =>
    have hd0 := hd d (List.mem_cons_self ..)
    have := ih (fun x hx => hd x (List.mem_cons_of_mem _ hx))
    simp only [vn, List.length_cons, Nat.pow_succ]
    omega
theorem dg_length_le {n k : Nat} (h : n < 4294967296 ^ k) : (dg n).length ≤ k := by
  induction k generalizing n with
  | zero => have : n = 0 := by simpa using h
            subst this; rw [dg_zero]; simp
  | succ k ih =>
    by_cases h0 : n = 0
    · subst h0; rw [dg_zero]; simp
    · rw [dg_pos h0, List.length_cons]
      have : n / 4294967296 < 4294967296 ^ k := by rw [Nat.div_lt_iff_lt_mul (by decide)]; rwa [Nat.pow_succ] at h
      have := ih this
      omega
theorem dg_lo {n : Nat} (h : n ≠ 0) : 4294967296 ^ ((dg n).length - 1) ≤ n := by
  by_cases c : 4294967296 ^ ((dg n).length - 1) ≤ n
  · exact c
  · have := dg_length_le (n := n) (k := (dg n).length - 1) (by omega)
    have : (dg n) ≠ [] := fun z => h (dg_nil.1 z)
    have := List.length_pos_iff.2 this
    omega
theorem dg_hi (n : Nat) : n < 4294967296 ^ (dg n).length := by have := vn_lt (dg_dg n); rwa [vn_dg] at this
theorem dg_len_pos {n : Nat} (h : n ≠ 0) : 0 < (dg n).length := List.length_pos_iff.2 fun z => h (dg_nil.1 z)
theorem dg_get (n i : Nat) (h : i < (dg n).length) : (dg n)[i] = ((n / 4294967296 ^ i % 4294967296 : Nat) : Int) := by
  induction i generalizing n with
  | zero =>
    have h0 : n ≠ 0 := fun z => by subst z; rw [dg_zero] at h; simp at h
    simp only [dg_pos h0, List.getElem_cons_zero, Nat.pow_zero, Nat.div_one]
  | succ i ih =>
    have h0 : n ≠ 0 := fun z => by subst z; rw [dg_zero] at h; simp at h
    have h' : i < (dg (n / 4294967296)).length := by rw [dg_pos h0, List.length_cons] at h; omega
    have e := ih (n / 4294967296) h'
    simp only [dg_pos h0, List.getElem_cons_succ, e, Nat.div_div_eq_div_mul, Nat.pow_succ, Nat.mul_comm]
theorem vn_take_zero {l : List Int} {i : Nat} (h : i < l.length) (hz : l[i] = 0) : vn (l.take (i + 1)) = vn (l.take i) := by
  rw [List.take_succ_eq_append_getElem h, vn_append, hz]; simp [vn]
theorem dg_take {l : List Int} (hd : Dg l) (i : Nat) : Dg (l.take i) := fun d hm => hd d (List.mem_of_mem_take hm)
theorem dg_drop {l : List Int} (hd : Dg l) (i : Nat) : Dg (l.drop i) := fun d hm => hd d (List.mem_of_mem_drop hm)
theorem nm_take {l : List Int} {i : Nat} (h : i < l.length) (hz : l[i] ≠ 0) : Nm (l.take (i + 1)) := by
  intro hh
  have e : l.take (i + 1) = l.take i ++ [l[i]] := List.take_succ_eq_append_getElem h
  simp only [e, List.getLast_concat]
  exact hz
/-- how many bits a number has -/
def bl (n : Nat) : Nat := if n = 0 then 0 else n.log2 + 1
theorem bl_zero : bl 0 = 0 := rfl
theorem bl_lo {n : Nat} (h : n ≠ 0) : 2 ^ (bl n - 1) ≤ n := by
  unfold bl; rw [if_neg h]; exact Nat.log2_self_le h
theorem bl_hi (n : Nat) : n < 2 ^ bl n := by
  unfold bl; split
  · omega
  · exact Nat.lt_log2_self
theorem bl_pos {n : Nat} (h : n ≠ 0) : 0 < bl n := by unfold bl; rw [if_neg h]; omega
theorem bl_eq {n b : Nat} (h0 : 0 < b) (h1 : 2 ^ (b - 1) ≤ n) (h2 : n < 2 ^ b) : bl n = b := by
  have hn : n ≠ 0 := by have := Nat.two_pow_pos (b - 1); omega
  have a := bl_lo hn
  have c := bl_hi n
  have p := bl_pos hn
  by_cases l : bl n < b
  · have : 2 ^ bl n ≤ 2 ^ (b - 1) := Nat.pow_le_pow_right (by decide) (by omega)
    omega
  · by_cases g : b < bl n
    · have : 2 ^ b ≤ 2 ^ (bl n - 1) := Nat.pow_le_pow_right (by decide) (by omega)
      omega
    · omega
theorem bl_half {n : Nat} (h : n ≠ 0) : bl n = bl (n / 2) + 1 := by
  by_cases h1 : n / 2 = 0
  · have : n = 1 := by omega
    subst this; rfl
  · have a := bl_lo h1
    have c := bl_hi (n / 2)
    have p := bl_pos h1
    apply bl_eq (by omega)
    · have : 2 ^ (bl (n / 2) + 1 - 1) = 2 ^ (bl (n / 2) - 1) * 2 := by rw [← Nat.pow_succ]; congr 1; omega
      omega
    · rw [Nat.pow_succ]; omega
theorem pow32 (i : Nat) : 4294967296 ^ i = 2 ^ (32 * i) := by rw [Nat.pow_mul]
theorem bl_shift {n : Nat} (h : n ≠ 0) (s : Nat) : bl (n * 2 ^ s) = bl n + s := by
  have a := bl_lo h
  have c := bl_hi n
  have p := bl_pos h
  apply bl_eq (by omega)
  · have : 2 ^ (bl n + s - 1) = 2 ^ (bl n - 1) * 2 ^ s := by rw [← Nat.pow_add]; congr 1; omega
    rw [this]; exact Nat.mul_le_mul_right _ a
  · rw [Nat.pow_add]; exact Nat.mul_lt_mul_of_pos_right c (Nat.two_pow_pos s)
/-- every number but nought is an odd one times a power of two -/
theorem odd_part {n : Nat} (h : n ≠ 0) : ∃ t m, n = 2 ^ t * m ∧ m % 2 = 1 := by
  induction n using Nat.strongRecOn with
  | _ n ih =>
    by_cases o : n % 2 = 1
    · exact ⟨0, n, by simp, o⟩
    · obtain ⟨t, m, e, hm⟩ := ih (n / 2) (by omega) (by omega)
      refine ⟨t + 1, m, ?_, hm⟩
      rw [Nat.pow_succ, Nat.mul_right_comm, ← e]; omega
end Go.Proofs.YthiklmgdmaemgaaDoor.Wd
end

section
namespace Go.Proofs.YthiklmgdmaemgaaDoor.PA
open Go.RowKit Go.Proofs.YthiklmgdmaemgaaDoorW.PrintWords Go.Proofs.YthiklmgdmaemgaaDoorW.PrintLast Go.Proofs.YthiklmgdmaemgaaDoorW.PrintMore Go.Proofs.YthiklmgdmaemgaaDoor.Wd
set_option linter.unusedSimpArgs false
set_option linter.unusedVariables false
theorem rd_at (l : List Int) (i : Nat) (h : i < l.length) : rd l (i : Int) = l[i] := by
  unfold rd
  simp [h]
theorem rd_dg {n i : Nat} (h : i < (dg n).length) : rd (dg n) (i : Int) = ((n / 4294967296 ^ i % 4294967296 : Nat) : Int) := by
  rw [rd_at _ i h, dg_get n i h]
/-- a list of digits is short enough for every count -/
def Sh (l : List Int) : Prop := l.length < 1099511627776
theorem ref_Trim_loop {l : List Int} (hd : Dg l) (hl : Sh l) (i : Nat) : ∀ k, i ≤ l.length → i < k → cutplaneref01_Trim.l0 k l (i : Int) = some (dg (vn (l.take i))) := by
  unfold Sh at hl
  induction i with
  | zero =>
    intro k hi hk
    obtain ⟨k, rfl⟩ : ∃ m, k = m + 1 := ⟨k - 1, by omega⟩
    simp only [cutplaneref01_Trim.l0]
    rw [if_neg (by omega), if_pos (by omega), if_pos (by omega)]
    simp [vn, dg_zero]
  | succ i ih =>
    intro k hi hk
    obtain ⟨k, rfl⟩ : ∃ m, k = m + 1 := ⟨k - 1, by omega⟩
    have w1 : wrap64 (((i + 1 : Nat) : Int) - 1) = (i : Int) := by unfold wrap64; omega
    have hlt : i < l.length := by omega
    simp only [cutplaneref01_Trim.l0]
    rw [if_pos (by omega), w1, if_pos (by omega), if_pos (by omega), rd_at l i hlt]
    by_cases z : l[i] = 0
    · rw [if_pos z, ih k (by omega) (by omega), vn_take_zero hlt z]
    · rw [if_neg z, if_pos (by omega), if_pos (by omega)]
      have e : (((i + 1 : Nat) : Int)).toNat = i + 1 := by omega
      rw [e]
      exact congrArg some (eq_dg (dg_take hd _) (nm_take hlt z))
theorem ref_Trim {l : List Int} (hd : Dg l) (hl : Sh l) (k : Nat) (hk : l.length < k) : cutplaneref01_Trim.f k l = some (dg (vn l)) := by
  unfold cutplaneref01_Trim.f
  rw [ref_Trim_loop hd hl l.length k (by omega) hk, List.take_length]
theorem ref_Len_loop (x : Nat) : ∀ (k : Nat) (a : Int), 0 ≤ a → a + bl x < 4611686018427387904 → bl x < k → cutplaneref01_Len.l0 k a (x : Int) = some (a + bl x) := by
  induction x using Nat.strongRecOn with
  | _ x ih =>
    intro k a h0 h1 hk
    obtain ⟨k, rfl⟩ : ∃ m, k = m + 1 := ⟨k - 1, by omega⟩
    simp only [cutplaneref01_Len.l0]
    by_cases z : x = 0
    · subst z; rw [if_neg (by omega), bl_zero]; simp
    · have e := bl_half z
      have w1 : wrap64 (a + 1) = a + 1 := by unfold wrap64; omega
      have w2 : (x : Int) / 2 = ((x / 2 : Nat) : Int) := by omega
      rw [if_pos (by omega), w1, w2, ih (x / 2) (by omega) k (a + 1) (by omega) (by omega) (by omega), e]
      congr 1; omega
theorem bl_le {n k : Nat} (h : n < 2 ^ k) : bl n ≤ k := by
  by_cases z : n = 0
  · subst z; simp [bl_zero]
  · by_cases c : bl n ≤ k
    · exact c
    · have := bl_lo z
      have : 2 ^ k ≤ 2 ^ (bl n - 1) := Nat.pow_le_pow_right (by decide) (by omega)
      omega
theorem bl_top {n : Nat} (h : n ≠ 0) : bl n = 32 * ((dg n).length - 1) + bl (n / 4294967296 ^ ((dg n).length - 1)) := by
  have hl := dg_len_pos h
  have a := dg_lo h
  have c := dg_hi n
  generalize hL : (dg n).length - 1 = L at *
  have hL1 : (dg n).length = L + 1 := by omega
  rw [hL1] at c
  have hP : 0 < 4294967296 ^ L := Nat.pos_of_ne_zero (by simp)
  have g1 : 4294967296 ^ L * (n / 4294967296 ^ L) ≤ n := Nat.mul_div_le _ _
  have g2 : n < 4294967296 ^ L * (n / 4294967296 ^ L + 1) := Nat.lt_mul_div_succ _ hP
  generalize n / 4294967296 ^ L = q at *
  have q0 : q ≠ 0 := by
    rintro rfl
    rw [Nat.zero_add, Nat.mul_one] at g2
    omega
  have b0 := bl_lo q0
  have b1 := bl_hi q
  have bp := bl_pos q0
  apply bl_eq (by omega)
  · have e : 2 ^ (32 * L + bl q - 1) = 4294967296 ^ L * 2 ^ (bl q - 1) := by
      rw [pow32, ← Nat.pow_add]
      have : 32 * L + bl q - 1 = 32 * L + (bl q - 1) := by omega
      rw [this]
    rw [e]
    exact Nat.le_trans (Nat.mul_le_mul_left _ b0) g1
  · rw [Nat.pow_add, ← pow32]
    exact Nat.lt_of_lt_of_le g2 (Nat.mul_le_mul_left _ b1)
theorem ref_Len {n : Nat} (hl : Sh (dg n)) (k : Nat) (hk : 33 < k) : cutplaneref01_Len.f k (dg n) = some (bl n : Int) := by
  unfold Sh at hl
  unfold cutplaneref01_Len.f
  by_cases z : n = 0
  · subst z; rw [dg_zero]; simp [bl_zero]
  · have hp := dg_len_pos z
    have w1 : wrap64 (((dg n).length : Int) - 1) = (((dg n).length - 1 : Nat) : Int) := by unfold wrap64; omega
    have w2 : wrap64 (32 * (((dg n).length - 1 : Nat) : Int)) = 32 * (((dg n).length - 1 : Nat) : Int) := by unfold wrap64; omega
    have hP : 0 < 4294967296 ^ ((dg n).length - 1) := Nat.pos_of_ne_zero (by simp)
    have hq : n / 4294967296 ^ ((dg n).length - 1) < 4294967296 := by
      rw [Nat.div_lt_iff_lt_mul hP, Nat.mul_comm, ← Nat.pow_succ]
      have := dg_hi n
      have e : ((dg n).length - 1).succ = (dg n).length := by omega
      rw [e]; exact this
    have hb : bl (n / 4294967296 ^ ((dg n).length - 1)) ≤ 32 := bl_le (by omega)
    rw [if_neg (by omega), w1, if_pos (by omega), if_pos (by omega), w2, rd_dg (by omega), Nat.mod_eq_of_lt hq, ref_Len_loop _ k _ (by omega) (by omega) (by omega)]
    have := bl_top z
    congr 1; omega
theorem and1 {y : Int} (h0 : 0 ≤ y) (h1 : y < 4294967296) : Go.bits .and .u32 y 1 = y % 2 := by
  have w : ∀ n : Int, 0 ≤ n → n < 2 ^ 32 → IntKind.u32.wrap n = n := by intro n a b; rw [IntKind.wrap_u32]; omega
  exact bits_mask .u32 32 (by decide) w 1 (by decide) y h0 (by omega)
theorem bit_of (n i : Nat) : n / 4294967296 ^ (i / 32) % 4294967296 / 2 ^ (i % 32) % 2 = n / 2 ^ i % 2 := by
  have hr : i % 32 < 32 := Nat.mod_lt _ (by decide)
  have hi : 32 * (i / 32) + i % 32 = i := Nat.div_add_mod i 32
  have hp : 2 ^ (i % 32) * 2 ^ (32 - i % 32) = 4294967296 := by
    rw [← Nat.pow_add]
    have : i % 32 + (32 - i % 32) = 32 := by omega
    rw [this]
  have h2 : 2 ^ (32 - i % 32) = 2 * 2 ^ (32 - i % 32 - 1) := by
    rw [← Nat.pow_succ']
    have : (32 - i % 32 - 1).succ = 32 - i % 32 := by omega
    rw [this]
  have key : ∀ m : Nat, m % 4294967296 / 2 ^ (i % 32) % 2 = m / 2 ^ (i % 32) % 2 := by
    intro m
    rw [← hp, Nat.mod_mul_right_div_self, h2, Nat.mod_mul_right_mod]
  rw [key, Nat.div_div_eq_div_mul, pow32, ← Nat.pow_add, hi]
theorem ref_Bit {n : Nat} (hl : Sh (dg n)) {i : Nat} (hi : i < 32 * (dg n).length) : cutplaneref01_Bit.f (dg n) (i : Int) = some ((n / 2 ^ i % 2 : Nat) : Int) := by
  unfold Sh at hl
  unfold cutplaneref01_Bit.f
  have e1 : Int.tdiv (i : Int) 32 = ((i / 32 : Nat) : Int) := by rw [Int.tdiv_eq_ediv_of_nonneg (by omega)]; omega
  have e2 : Int.tmod (i : Int) 32 = ((i % 32 : Nat) : Int) := by rw [Int.tmod_eq_emod_of_nonneg (by omega)]; omega
  have w1 : wrap64 ((i / 32 : Nat) : Int) = ((i / 32 : Nat) : Int) := by unfold wrap64; omega
  rw [if_neg (by omega), e1, w1, if_neg (by omega), if_pos (by omega), if_pos (by omega), e2, if_pos (by omega), rd_dg (by omega)]
  have e3 : shr .u32 ((n / 4294967296 ^ (i / 32) % 4294967296 : Nat) : Int) ((i % 32 : Nat) : Int) = ((n / 4294967296 ^ (i / 32) % 4294967296 / 2 ^ (i % 32) : Nat) : Int) := by
    unfold shr
    have : min (((i % 32 : Nat) : Int)).toNat IntKind.u32.bits = i % 32 := by
      have : IntKind.u32.bits = 32 := rfl
      omega
    rw [this]; simp
  have hlt : n / 4294967296 ^ (i / 32) % 4294967296 / 2 ^ (i % 32) < 4294967296 := Nat.lt_of_le_of_lt (Nat.div_le_self _ _) (Nat.mod_lt _ (by decide))
  have e4 : n / 4294967296 ^ (i / 32) % 4294967296 / 2 ^ (i % 32) % 2 = n / 2 ^ i % 2 := bit_of n i
  rw [e3]
  generalize n / 4294967296 ^ (i / 32) % 4294967296 / 2 ^ (i % 32) = y at *
  rw [and1 (by omega) (by omega), ← e4]
  congr 1
theorem odd_tz {t m : Nat} (hm : m % 2 = 1) {i : Nat} (hi : i < t) : 2 ^ t * m / 2 ^ i % 2 = 0 := by
  have : 2 ^ t * m = 2 ^ i * (2 * (2 ^ (t - i - 1) * m)) := by
    rw [← Nat.mul_assoc, ← Nat.mul_assoc, ← Nat.pow_succ, ← Nat.pow_add]
    have : i.succ + (t - i - 1) = t := by omega
    rw [this]
  rw [this, Nat.mul_div_cancel_left _ (Nat.two_pow_pos i)]
  omega
theorem odd_at {t m : Nat} (hm : m % 2 = 1) : 2 ^ t * m / 2 ^ t % 2 = 1 := by
  rw [Nat.mul_div_cancel_left _ (Nat.two_pow_pos t)]; exact hm
theorem low_digit {t m q : Nat} (hm : m % 2 = 1) (hq : 32 * q ≤ t) (hz : 2 ^ t * m / 4294967296 ^ q % 4294967296 = 0) : 32 * q + 32 ≤ t := by
  by_cases c : 32 * q + 32 ≤ t
  · exact c
  · exfalso
    have e : 2 ^ t * m = 4294967296 ^ q * (2 ^ (t - 32 * q) * m) := by
      rw [pow32, ← Nat.mul_assoc, ← Nat.pow_add]
      have : 32 * q + (t - 32 * q) = t := by omega
      rw [this]
    rw [e, Nat.mul_div_cancel_left _ (Nat.pos_of_ne_zero (by simp))] at hz
    have hp : (4294967296 : Nat) = 2 ^ (t - 32 * q) * 2 ^ (32 - (t - 32 * q)) := by
      rw [← Nat.pow_add]
      have : t - 32 * q + (32 - (t - 32 * q)) = 32 := by omega
      rw [this]
    rw [hp, Nat.mul_mod_mul_left] at hz
    have h2 : 2 ^ (32 - (t - 32 * q)) = 2 * 2 ^ (32 - (t - 32 * q) - 1) := by
      rw [← Nat.pow_succ']
      have : (32 - (t - 32 * q) - 1).succ = 32 - (t - 32 * q) := by omega
      rw [this]
    have h3 : m % 2 ^ (32 - (t - 32 * q)) = 0 := by
      rcases Nat.mul_eq_zero.1 hz with h | h
      · exact absurd h (Nat.pos_iff_ne_zero.1 (Nat.two_pow_pos _))
      · exact h
    rw [h2] at h3
    have := Nat.mod_mul_right_mod m 2 (2 ^ (32 - (t - 32 * q) - 1))
    rw [h3] at this
    omega
theorem tz_lt {t m : Nat} (hm : m % 2 = 1) : t < 32 * (dg (2 ^ t * m)).length := by
  have h := dg_hi (2 ^ t * m)
  rw [pow32] at h
  have h1 : 2 ^ t ≤ 2 ^ t * m := Nat.le_mul_of_pos_right _ (by omega)
  have h2 : 2 ^ t < 2 ^ (32 * (dg (2 ^ t * m)).length) := by omega
  exact (Nat.pow_lt_pow_iff_right (by decide)).1 h2
theorem idx_ok {i L : Nat} (h : i < 32 * L) : (0 : Int) ≤ ((i / 32 : Nat) : Int) ∧ ((i / 32 : Nat) : Int) < (L : Int) := by omega
theorem low_loop {l : List Int} {L t : Nat} (hL : l.length = L) (hl : L < 1099511627776) (ht : t < 32 * L) (hb0 : ∀ i : Nat, i < t → cutplaneref01_Bit.f l (i : Int) = some 0) (hb1 : cutplaneref01_Bit.f l (t : Int) = some 1)
    (hq : ∀ q : Nat, 32 * q ≤ t → rd l (q : Int) = 0 → 32 * q + 32 ≤ t) (d : Nat) : ∀ (k i : Nat), i ≤ t → t - i = d → 2 * d + 2 < k → (i % 32 = 0 ∨ rd l ((i / 32 : Nat) : Int) ≠ 0) →
    cutplaneref01_Low.l0 k l (i : Int) = some (t : Int) := by
  induction d using Nat.strongRecOn with
  | _ d ih =>
    intro k i hi hd hk hz
    obtain ⟨k, rfl⟩ : ∃ j, k = j + 2 := ⟨k - 2, by omega⟩
    have w1 : wrap64 (32 * (l.length : Int)) = 32 * (L : Int) := by unfold wrap64; omega
    have e1 : Int.tdiv (i : Int) 32 = ((i / 32 : Nat) : Int) := by rw [Int.tdiv_eq_ediv_of_nonneg (by omega)]; omega
    have w2 : wrap64 ((i / 32 : Nat) : Int) = ((i / 32 : Nat) : Int) := by unfold wrap64; omega
    have hix := idx_ok (Nat.lt_of_le_of_lt hi ht)
    rw [← hL] at hix
    rw [cutplaneref01_Low.l0, w1, if_pos (by omega)]
    by_cases c : i = t
    · subst c
      clear e1 w2
      rw [hb1, Option.bind_some, cutplaneref01_Low.j1, w1, if_neg (by decide), if_neg (by omega)]
    · rw [hb0 i (by omega), Option.bind_some, cutplaneref01_Low.j1, if_pos (by decide), e1, w2, if_pos hix.1, if_pos hix.2]
      clear e1 w2 w1 hix
      by_cases z : rd l ((i / 32 : Nat) : Int) = 0
      · have hi0 : i % 32 = 0 := by
          rcases hz with h | h
          · exact h
          · exact absurd z h
        have := hq (i / 32) (by omega) z
        have w3 : wrap64 ((i : Int) + 32) = ((i + 32 : Nat) : Int) := by unfold wrap64; omega
        rw [if_pos z, w3]
        exact ih (t - (i + 32)) (by omega) k (i + 32) (by omega) rfl (by omega) (.inl (by omega))
      · have w3 : wrap64 ((i : Int) + 1) = ((i + 1 : Nat) : Int) := by unfold wrap64; omega
        rw [if_neg z, w3]
        refine ih (t - (i + 1)) (by omega) k (i + 1) (by omega) rfl (by omega) ?_
        by_cases r : (i + 1) % 32 = 0
        · exact .inl r
        · right
          have : (i + 1) / 32 = i / 32 := by omega
          rw [this]; exact z
theorem ref_Low_loop {t m : Nat} (hm : m % 2 = 1) (hl : Sh (dg (2 ^ t * m))) (k : Nat) (hk : 2 * t + 2 < k) :
    cutplaneref01_Low.l0 k (dg (2 ^ t * m)) 0 = some (t : Int) := by
  have hlt := tz_lt (t := t) hm
  refine low_loop (L := (dg (2 ^ t * m)).length) rfl hl hlt (fun i hi => ?_) ?_ (fun q hq hz => ?_) t k 0 (Nat.zero_le _) rfl hk (.inl rfl)
  · rw [ref_Bit hl (by omega), odd_tz hm hi]; rfl
  · rw [ref_Bit hl hlt, odd_at hm]; rfl
  · rw [rd_dg (by omega)] at hz
    exact low_digit hm hq (Int.natCast_eq_zero.1 hz)
theorem ref_Low {t m : Nat} (hm : m % 2 = 1) (hl : Sh (dg (2 ^ t * m))) (k : Nat) (hk : 2 * t + 2 < k) : cutplaneref01_Low.f k (dg (2 ^ t * m)) = some (t : Int) := by
  unfold cutplaneref01_Low.f
  exact ref_Low_loop hm hl k hk
def dn (s : Nat) : List Int → List Int
  | [] => []
  | [d] => [((d.toNat / 2 ^ s : Nat) : Int)]
  | d :: d' :: t => (((d.toNat / 2 ^ s + d'.toNat * 2 ^ (32 - s)) % 4294967296 : Nat) : Int) :: dn s (d' :: t)
theorem div_step {a V s : Nat} (hs : s < 32) : (a + 4294967296 * V) / 2 ^ s = a / 2 ^ s + 2 ^ (32 - s) * V := by
  have hp : (4294967296 : Nat) = 2 ^ s * 2 ^ (32 - s) := by
    rw [← Nat.pow_add]
    have : s + (32 - s) = 32 := by omega
    rw [this]
  rw [hp, Nat.mul_assoc, Nat.add_mul_div_left _ _ (Nat.two_pow_pos s)]
theorem vn_dn {s : Nat} (hs : s < 32) {l : List Int} (hd : Dg l) : vn (dn s l) = vn l / 2 ^ s := by
  induction l with
  | nil => simp [dn, vn]
  | cons d t ih =>
    have hd0 := hd d (List.mem_cons_self ..)
    have hdt : Dg t := fun x hx => hd x (List.mem_cons_of_mem _ hx)
    cases t with
    | nil =>
      simp only [dn, vn, Nat.mul_zero, Nat.add_zero]
      exact Int.toNat_natCast _
    | cons d' t =>
      have e := ih hdt
      have hd1 := hd d' (List.mem_cons_of_mem _ (List.mem_cons_self ..))
      rw [show vn (d :: d' :: t) = d.toNat + 4294967296 * vn (d' :: t) from rfl, div_step hs]
      show (((d.toNat / 2 ^ s + d'.toNat * 2 ^ (32 - s)) % 4294967296 : Nat) : Int).toNat + 4294967296 * vn (dn s (d' :: t)) = _
      rw [e]
      have ha : d.toNat / 2 ^ s < 2 ^ (32 - s) := by
        rw [Nat.div_lt_iff_lt_mul (Nat.two_pow_pos s), ← Nat.pow_add]
        have : 32 - s + s = 32 := by omega
        rw [this]; omega
      have hp : (4294967296 : Nat) = 2 ^ s * 2 ^ (32 - s) := by
        rw [← Nat.pow_add]
        have : s + (32 - s) = 32 := by omega
        rw [this]
      have hv : vn (d' :: t) % 2 ^ s = d'.toNat % 2 ^ s := by
        show (d'.toNat + 4294967296 * vn t) % 2 ^ s = _
        rw [hp, Nat.mul_assoc, Nat.add_mul_mod_self_left]
      have hm : (d.toNat / 2 ^ s + d'.toNat * 2 ^ (32 - s)) % 4294967296 = d.toNat / 2 ^ s + d'.toNat % 2 ^ s * 2 ^ (32 - s) := by
        have e2 : d'.toNat * 2 ^ (32 - s) = d'.toNat % 2 ^ s * 2 ^ (32 - s) + 4294967296 * (d'.toNat / 2 ^ s) := by
          have := Nat.div_add_mod d'.toNat (2 ^ s)
          calc d'.toNat * 2 ^ (32 - s) = (2 ^ s * (d'.toNat / 2 ^ s) + d'.toNat % 2 ^ s) * 2 ^ (32 - s) := by rw [this]
            _ = 2 ^ s * (d'.toNat / 2 ^ s) * 2 ^ (32 - s) + d'.toNat % 2 ^ s * 2 ^ (32 - s) := Nat.add_mul _ _ _
            _ = d'.toNat % 2 ^ s * 2 ^ (32 - s) + 4294967296 * (d'.toNat / 2 ^ s) := by rw [Nat.mul_right_comm, ← hp, Nat.add_comm]
        rw [e2, ← Nat.add_assoc, Nat.add_mul_mod_self_left]
        apply Nat.mod_eq_of_lt
        have h1 : d'.toNat % 2 ^ s < 2 ^ s := Nat.mod_lt _ (Nat.two_pow_pos s)
        have h2 : (d'.toNat % 2 ^ s + 1) * 2 ^ (32 - s) ≤ 2 ^ s * 2 ^ (32 - s) := Nat.mul_le_mul_right _ h1
        rw [Nat.add_mul, Nat.one_mul, ← hp] at h2
        omega
      rw [hm]
      have h3 := Nat.div_add_mod (vn (d' :: t)) (2 ^ s)
      rw [hv] at h3
      have h4 : 2 ^ (32 - s) * vn (d' :: t) = 4294967296 * (vn (d' :: t) / 2 ^ s) + d'.toNat % 2 ^ s * 2 ^ (32 - s) := by
        calc 2 ^ (32 - s) * vn (d' :: t) = 2 ^ (32 - s) * (2 ^ s * (vn (d' :: t) / 2 ^ s) + d'.toNat % 2 ^ s) := by rw [h3]
          _ = 2 ^ (32 - s) * (2 ^ s * (vn (d' :: t) / 2 ^ s)) + 2 ^ (32 - s) * (d'.toNat % 2 ^ s) := Nat.mul_add _ _ _
          _ = 4294967296 * (vn (d' :: t) / 2 ^ s) + d'.toNat % 2 ^ s * 2 ^ (32 - s) := by rw [← Nat.mul_assoc, Nat.mul_comm (2 ^ (32 - s)) (2 ^ s), ← hp, Nat.mul_comm (2 ^ (32 - s)) (d'.toNat % 2 ^ s)]
      rw [h4]
      omega
end Go.Proofs.YthiklmgdmaemgaaDoor.PA
end

section
namespace Go.Proofs.YthiklmgdmaemgaaDoor.PA
open Go.RowKit Go.Proofs.YthiklmgdmaemgaaDoorW.PrintWords Go.Proofs.YthiklmgdmaemgaaDoorW.PrintLast Go.Proofs.YthiklmgdmaemgaaDoorW.PrintMore Go.Proofs.YthiklmgdmaemgaaDoor.Wd
set_option linter.unusedSimpArgs false
set_option linter.unusedVariables false
theorem dg_mem {l : List Int} (hd : Dg l) {i : Nat} (h : i < l.length) : 0 ≤ l[i] ∧ l[i] < 4294967296 := hd _ (List.getElem_mem h)
theorem dg_append {l m : List Int} (hl : Dg l) (hm : Dg m) : Dg (l ++ m) := by
  intro d h
  rcases List.mem_append.1 h with h | h
  · exact hl d h
  · exact hm d h
theorem dg_one {y : Int} (h0 : 0 ≤ y) (h1 : y < 4294967296) : Dg [y] := by
  intro d h
  rw [List.mem_singleton.1 h]; exact ⟨h0, h1⟩
theorem dg_nil' : Dg [] := fun d h => by cases h
theorem vn_drop {l : List Int} {i : Nat} (h : i < l.length) : vn (l.drop i) = l[i].toNat + 4294967296 * vn (l.drop (i + 1)) := by
  rw [List.drop_eq_getElem_cons h]; rfl
theorem vn_nil_of {l : List Int} {i : Nat} (h : l.length ≤ i) : vn (l.drop i) = 0 := by rw [List.drop_eq_nil_of_le h]; rfl
/-- the digit of a place, or nought -/
def at0 (l : List Int) (i : Nat) : Nat := if h : i < l.length then l[i].toNat else 0
theorem vn_at0 (l : List Int) (i : Nat) : vn (l.drop i) = at0 l i + 4294967296 * vn (l.drop (i + 1)) := by
  unfold at0
  by_cases h : i < l.length
  · rw [dif_pos h, vn_drop h]
  · rw [dif_neg h, vn_nil_of (by omega), vn_nil_of (by omega)]
theorem at0_lt {l : List Int} (hd : Dg l) (i : Nat) : at0 l i < 4294967296 := by
  unfold at0
  split
  · rename_i h; have := dg_mem hd h; omega
  · omega
theorem rd_at0 {l : List Int} (hd : Dg l) {i : Nat} (h : i < l.length) : rd l (i : Int) = (at0 l i : Int) := by
  have := dg_mem hd h
  rw [rd_at l i h]; unfold at0; rw [dif_pos h]; omega
theorem vn_push (l : List Int) (y : Nat) : vn (l ++ [(y : Int)]) = vn l + 4294967296 ^ l.length * y := by
  rw [vn_append]; simp [vn]
theorem len_push (l : List Int) (y : Int) : (l ++ [y]).length = l.length + 1 := by simp
theorem cast_mod (a : Nat) : (a : Int) % 4294967296 = ((a % 4294967296 : Nat) : Int) := by omega
theorem cast_div (a : Nat) : (a : Int) / 4294967296 = ((a / 4294967296 : Nat) : Int) := by omega
theorem mod_small {y : Nat} (h : y < 4294967296) : (y : Int) % 4294967296 = (y : Int) := by omega
theorem u64_of {y : Nat} (h : y < 18446744073709551616) : IntKind.u64.wrap (y : Int) = (y : Int) := by rw [wrapu64]; omega
theorem or_low {y x i : Nat} (hy : y < 2 ^ i) (hx : x % 2 ^ i = 0) (hx1 : x < 18446744073709551616) (hy1 : y < 18446744073709551616) : Go.bits .or .u64 (y : Int) (x : Int) = ((y + x : Nat) : Int) := by
  have h := bits_join_low .u64 64 (by decide) wraps_u64 i (y : Int) (x : Int) (by omega) (by exact_mod_cast hy) (by omega) (by omega) (by exact_mod_cast hx) (by omega)
  rw [h]; omega
theorem shl_nat {y s : Nat} (hs : s ≤ 32) (hy : y < 4294967296) : shl .u64 (y : Int) (s : Int) = ((y * 2 ^ s : Nat) : Int) := by
  unfold shl
  have e : min ((s : Int)).toNat IntKind.u64.bits = s := by have : IntKind.u64.bits = 64 := rfl; omega
  have h1 : 2 ^ s ≤ 2 ^ 32 := Nat.pow_le_pow_right (by decide) hs
  have h2 : y * 2 ^ s ≤ 4294967295 * 2 ^ 32 := Nat.mul_le_mul (by omega) h1
  rw [e, wrapu64]
  have e2 : (y : Int) * 2 ^ s = ((y * 2 ^ s : Nat) : Int) := by push_cast; rfl
  rw [e2]
  generalize y * 2 ^ s = z at *
  omega
theorem shr_nat {y s : Nat} (hs : s ≤ 32) : shr .u64 (y : Int) (s : Int) = ((y / 2 ^ s : Nat) : Int) := by
  unfold shr
  have e : min ((s : Int)).toNat IntKind.u64.bits = s := by have : IntKind.u64.bits = 64 := rfl; omega
  rw [e]; push_cast; rfl
theorem mul_mod_pow {y s : Nat} : y * 2 ^ s % 2 ^ s = 0 := Nat.mul_mod_left _ _
theorem down_loop {l : List Int} (hd : Dg l) (hl : Sh l) {s : Nat} (hs : s < 32) (lost : Bool) (d : Nat) : ∀ (k i : Nat) (out : List Int), i ≤ l.length → l.length - i = d → Dg out → out.length + d < 1099511627776 → out.length + 2 * d + 1 < k →
    cutplaneref01_Down.l0 k l lost out (s : Int) (i : Int) = some (dg (vn (out ++ dn s (l.drop i))), lost) := by
  unfold Sh at hl
  induction d with
  | zero =>
    intro k i out hi hd' ho hlen hk
    obtain ⟨k, rfl⟩ : ∃ m, k = m + 1 := ⟨k - 1, by omega⟩
    rw [cutplaneref01_Down.l0, if_neg (by omega), ref_Trim ho (by unfold Sh; omega) k (by omega), List.drop_eq_nil_of_le (by omega)]
    simp [dn]
  | succ d ih =>
    intro k i out hi hd' ho hlen hk
    obtain ⟨k, rfl⟩ : ∃ m, k = m + 1 := ⟨k - 1, by omega⟩
    have hlt : i < l.length := by omega
    have hm := dg_mem hd hlt
    have w1 : wrap64 ((i : Int) + 1) = ((i + 1 : Nat) : Int) := by unfold wrap64; omega
    have w2 : wrap64 (32 - (s : Int)) = ((32 - s : Nat) : Int) := by unfold wrap64; omega
    have hr := rd_at0 hd hlt
    have ha := at0_lt hd i
    have hdp : l.drop i = (at0 l i : Int) :: l.drop (i + 1) := by
      rw [List.drop_eq_getElem_cons hlt]; congr 1; unfold at0; rw [dif_pos hlt]; omega
    have hq : at0 l i / 2 ^ s < 4294967296 := Nat.lt_of_le_of_lt (Nat.div_le_self _ _) ha
    rw [cutplaneref01_Down.l0, if_pos (by omega), if_pos (by omega), if_pos (by omega), w1, w2, hr, u64_of (by omega), shr_nat (by omega)]
    by_cases c : i + 1 < l.length
    · have hb := at0_lt hd (i + 1)
      have hm2 := dg_mem hd c
      have hr2 := rd_at0 hd c
      have hdp2 : l.drop (i + 1) = (at0 l (i + 1) : Int) :: l.drop (i + 2) := by
        rw [List.drop_eq_getElem_cons c]; congr 1; unfold at0; rw [dif_pos c]; omega
      have hy : at0 l i / 2 ^ s < 2 ^ (32 - s) := by
        rw [Nat.div_lt_iff_lt_mul (Nat.two_pow_pos s), ← Nat.pow_add]
        have : 32 - s + s = 32 := by omega
        rw [this]; exact ha
      have h2 : at0 l (i + 1) * 2 ^ (32 - s) < 18446744073709551616 := by
        have h1 : 2 ^ (32 - s) ≤ 2 ^ 32 := Nat.pow_le_pow_right (by decide) (by omega)
        have := Nat.mul_le_mul (Nat.le_of_lt hb) h1
        have h3 : at0 l (i + 1) * 2 ^ (32 - s) < 4294967296 * 2 ^ 32 := Nat.mul_lt_mul_of_lt_of_le hb h1 (Nat.two_pow_pos _)
        omega
      rw [if_pos (by omega), if_pos (by omega), if_pos (by omega), hr2, u64_of (by omega), shl_nat (by omega) hb, or_low hy mul_mod_pow h2 (by omega), if_pos (by omega)]
      have e1 : ((at0 l i / 2 ^ s + at0 l (i + 1) * 2 ^ (32 - s) : Nat) : Int) % 4294967296 = (((at0 l i / 2 ^ s + at0 l (i + 1) * 2 ^ (32 - s)) % 4294967296 : Nat) : Int) := cast_mod _
      rw [e1, ih k (i + 1) _ (by omega) (by omega) (dg_append ho (dg_one (by omega) (by omega))) (by rw [len_push]; omega) (by rw [len_push]; omega), hdp, hdp2]
      simp only [dn, Int.toNat_natCast, List.append_assoc, List.singleton_append]
    · have e1 : ((at0 l i / 2 ^ s : Nat) : Int) % 4294967296 = ((at0 l i / 2 ^ s : Nat) : Int) := mod_small hq
      rw [if_neg (by omega), if_pos (by omega), e1, ih k (i + 1) _ (by omega) (by omega) (dg_append ho (dg_one (by omega) (by omega))) (by rw [len_push]; omega) (by rw [len_push]; omega), hdp, List.drop_eq_nil_of_le (show l.length ≤ i + 1 by omega)]
      simp only [dn, Int.toNat_natCast, List.append_assoc, List.singleton_append, List.append_nil]
theorem vn_drop_div {l : List Int} (hd : Dg l) (i : Nat) : vn (l.drop i) = vn l / 4294967296 ^ i := by
  by_cases h : i ≤ l.length
  · have e := vn_append (l.take i) (l.drop i)
    rw [List.take_append_drop, List.length_take, Nat.min_eq_left h] at e
    have hl := vn_lt (dg_take hd i)
    rw [List.length_take, Nat.min_eq_left h] at hl
    rw [e, Nat.add_mul_div_left _ _ (Nat.pos_of_ne_zero (by simp)), Nat.div_eq_of_lt hl]; omega
  · have hl := vn_lt hd
    have : 4294967296 ^ l.length ≤ 4294967296 ^ i := Nat.pow_le_pow_right (by decide) (by omega)
    rw [vn_nil_of (by omega), Nat.div_eq_of_lt (by omega)]
theorem bl_gt {t m : Nat} (hm : m % 2 = 1) : t < bl (2 ^ t * m) := by
  have h := bl_hi (2 ^ t * m)
  have h1 : 2 ^ t ≤ 2 ^ t * m := Nat.le_mul_of_pos_right _ (by omega)
  exact (Nat.pow_lt_pow_iff_right (by decide)).1 (Nat.lt_of_le_of_lt h1 h)
theorem len_of {X : Nat} : bl X ≤ 32 * (dg X).length := by
  apply bl_le
  rw [← pow32]; exact dg_hi _
theorem down_core {X t n k : Nat} (hX : X ≠ 0) (ht : t < bl X) (hl : Sh (dg X)) (hn : n < 1099511627776) (hlow : cutplaneref01_Low.f k (dg X) = some (t : Int)) (hk : 2 * (dg X).length + 40 < k) :
    cutplaneref01_Down.f k (dg X) (n : Int) = some (dg (X / 2 ^ n), decide (t < n)) := by
  have hp := dg_len_pos hX
  unfold cutplaneref01_Down.f
  rw [ref_Len hl k (by omega)]
  simp only [Option.bind_some]
  by_cases c : bl X ≤ n
  · have h2 := bl_hi X
    have h3 : 2 ^ bl X ≤ 2 ^ n := Nat.pow_le_pow_right (by decide) c
    rw [if_pos (by omega), Nat.div_eq_of_lt (Nat.lt_of_lt_of_le h2 h3), dg_zero, decide_eq_true (show ((dg X).length : Int) > 0 by omega), decide_eq_true (show t < n by omega)]
  · have e1 : Int.tdiv (n : Int) 32 = ((n / 32 : Nat) : Int) := by rw [Int.tdiv_eq_ediv_of_nonneg (by omega)]; omega
    have e2 : Int.tmod (n : Int) 32 = ((n % 32 : Nat) : Int) := by rw [Int.tmod_eq_emod_of_nonneg (by omega)]; omega
    have w1 : wrap64 ((n / 32 : Nat) : Int) = ((n / 32 : Nat) : Int) := by unfold wrap64; omega
    have e3 : decide ((n : Int) > (t : Int)) = decide (t < n) := by by_cases z : t < n <;> simp [z]
    have hlen := len_of (X := X)
    have hq : n / 32 ≤ (dg X).length := by clear e1 e2; omega
    rw [if_neg (by omega), hlow]
    simp only [Option.bind_some]
    rw [e1, e2, w1, e3]
    clear e1 e2 w1
    have hl' := hl
    unfold Sh at hl'
    have h32 : n % 32 < 32 := Nat.mod_lt _ (by decide)
    have e4 : vn ([] ++ dn (n % 32) ((dg X).drop (n / 32))) = X / 2 ^ n := by
      rw [List.nil_append, vn_dn h32 (dg_drop (dg_dg _) _), vn_drop_div (dg_dg _), vn_dg, Nat.div_div_eq_div_mul, pow32, ← Nat.pow_add]
      have : 32 * (n / 32) + n % 32 = n := Nat.div_add_mod n 32
      rw [this]
    have g1 : ([] : List Int).length + ((dg X).length - n / 32) < 1099511627776 := by rw [List.length_nil]; omega
    have g2 : ([] : List Int).length + 2 * ((dg X).length - n / 32) + 1 < k := by rw [List.length_nil]; omega
    rw [down_loop (dg_dg _) hl h32 _ _ k (n / 32) [] hq rfl dg_nil' g1 g2, e4]
theorem two_ne {t m : Nat} (hm : m % 2 = 1) : 2 ^ t * m ≠ 0 := by
  intro z
  rcases Nat.mul_eq_zero.1 z with z | z
  · exact absurd z (Nat.pos_iff_ne_zero.1 (Nat.two_pow_pos _))
  · omega
/-- the whole part, and whether something fell off -/
theorem ref_Down1 {t m : Nat} (hm : m % 2 = 1) (hl : Sh (dg (2 ^ t * m))) {n : Nat} (hn : n < 1099511627776) (k : Nat) (hk : 2 * t + 2 * (dg (2 ^ t * m)).length + 40 < k) :
    cutplaneref01_Down.f k (dg (2 ^ t * m)) (n : Int) = some (dg (2 ^ t * m / 2 ^ n), decide (t < n)) :=
  down_core (two_ne hm) (bl_gt hm) hl hn (ref_Low hm hl k (by omega)) (by omega)
theorem up_loop {l : List Int} (hd : Dg l) (hl : Sh l) {s : Nat} (hs : s < 32) (d : Nat) : ∀ (k i : Nat) (out : List Int) (last : Nat), i ≤ l.length → l.length - i = d → Dg out → out.length + d < 1099511627775 → out.length + 2 * d + 3 < k → last < 2 ^ s →
    cutplaneref01_Up.l0 k l out (s : Int) (last : Int) (i : Int) = some (dg (vn out + 4294967296 ^ out.length * (last + 2 ^ s * vn (l.drop i)))) := by
  unfold Sh at hl
  have hs32 : 2 ^ s ≤ 2147483648 := by
    have : 2 ^ s ≤ 2 ^ 31 := Nat.pow_le_pow_right (by decide) (by omega)
    exact this
  induction d with
  | zero =>
    intro k i out last hi hd' ho hlen hk hlast
    obtain ⟨k, rfl⟩ : ∃ m, k = m + 1 := ⟨k - 1, by omega⟩
    have hl32 : last < 4294967296 := Nat.lt_of_lt_of_le hlast (Nat.le_trans hs32 (by decide))
    rw [cutplaneref01_Up.l0, if_neg (by omega), if_pos (by omega), mod_small hl32, ref_Trim (dg_append ho (dg_one (by omega) (by omega))) (by unfold Sh; rw [len_push]; omega) k (by rw [len_push]; omega), vn_push, vn_nil_of (by omega)]
    simp
  | succ d ih =>
    intro k i out last hi hd' ho hlen hk hlast
    obtain ⟨k, rfl⟩ : ∃ m, k = m + 1 := ⟨k - 1, by omega⟩
    have hlt : i < l.length := by omega
    have w1 : wrap64 ((i : Int) + 1) = ((i + 1 : Nat) : Int) := by unfold wrap64; omega
    have ha := at0_lt hd i
    have hl32 : last < 4294967296 := Nat.lt_of_lt_of_le hlast (Nat.le_trans hs32 (by decide))
    have h2 : at0 l i * 2 ^ s ≤ 4294967295 * 2 ^ s := Nat.mul_le_mul_right _ (by omega)
    have e1 : ((last + at0 l i * 2 ^ s : Nat) : Int) % 4294967296 = (((last + at0 l i * 2 ^ s) % 4294967296 : Nat) : Int) := cast_mod _
    have e2 : ((last + at0 l i * 2 ^ s : Nat) : Int) / 4294967296 = (((last + at0 l i * 2 ^ s) / 4294967296 : Nat) : Int) := cast_div _
    rw [cutplaneref01_Up.l0, if_pos (by omega), if_pos (by omega), if_pos (by omega), if_pos (by omega), w1, rd_at0 hd hlt, u64_of (by omega), shl_nat (by omega) ha, or_low hlast mul_mod_pow (by omega) (by omega), e1, e2]
    have h3 : (last + at0 l i * 2 ^ s) / 4294967296 < 2 ^ s := by omega
    rw [ih k (i + 1) _ _ (by omega) (by omega) (dg_append ho (dg_one (by omega) (by omega))) (by rw [len_push]; omega) (by rw [len_push]; omega) h3, vn_push, len_push, Nat.pow_succ, vn_at0 l i]
    congr 2
    have h4 := Nat.div_add_mod (last + at0 l i * 2 ^ s) 4294967296
    generalize (last + at0 l i * 2 ^ s) / 4294967296 = q at *
    generalize (last + at0 l i * 2 ^ s) % 4294967296 = r at *
    generalize vn (l.drop (i + 1)) = V
    generalize 4294967296 ^ out.length = B
    rw [Nat.add_assoc, Nat.mul_assoc, ← Nat.mul_add]
    congr 2
    rw [Nat.mul_add, Nat.mul_add, Nat.mul_comm (2 ^ s) (at0 l i), ← Nat.add_assoc, ← Nat.add_assoc, ← h4, Nat.add_comm r]
    congr 1
    rw [← Nat.mul_assoc, ← Nat.mul_assoc, Nat.mul_comm 4294967296 (2 ^ s)]
theorem vn_zeros (q : Nat) : vn (List.replicate q (0 : Int)) = 0 := by
  induction q with
  | zero => rfl
  | succ q ih => rw [List.replicate_succ, vn, ih]; rfl
theorem ref_Up1 {X n : Nat} (hl : Sh (dg X)) (hn : n < 1099511627776) (hln : (dg X).length + n / 32 < 1099511627775) (k : Nat) (hk : n / 32 + 2 * (dg X).length + 3 < k) :
    cutplaneref01_Up.f k (dg X) (n : Int) = some (dg (X * 2 ^ n)) := by
  unfold cutplaneref01_Up.f
  by_cases z : X = 0
  · subst z
    rw [Nat.zero_mul, dg_zero]; simp
  · have hp := dg_len_pos z
    have e1 : Int.tdiv (n : Int) 32 = ((n / 32 : Nat) : Int) := by rw [Int.tdiv_eq_ediv_of_nonneg (by omega)]; omega
    have e2 : Int.tmod (n : Int) 32 = ((n % 32 : Nat) : Int) := by rw [Int.tmod_eq_emod_of_nonneg (by omega)]; omega
    have w1 : wrap64 ((n / 32 : Nat) : Int) = ((n / 32 : Nat) : Int) := by unfold wrap64; omega
    rw [if_neg (by omega), e1, e2, w1, Int.toNat_natCast]
    clear e1 e2 w1
    rw [if_pos (by omega), if_pos (by omega)]
    have h32 : n % 32 < 32 := Nat.mod_lt _ (by decide)
    have hz : Dg (List.replicate (n / 32) (0 : Int)) := by
      intro d hd
      rw [List.eq_of_mem_replicate hd]; omega
    have h := up_loop (dg_dg X) hl h32 (dg X).length k 0 (List.replicate (n / 32) 0) 0 (by omega) (by omega) hz (by rw [List.length_replicate]; omega) (by rw [List.length_replicate]; omega) (Nat.two_pow_pos _)
    rw [show ((0 : Nat) : Int) = 0 from rfl] at h
    rw [h, List.drop_zero, vn_dg, vn_zeros, List.length_replicate, pow32, Nat.zero_add, Nat.zero_add, ← Nat.mul_assoc, ← Nat.pow_add]
    have : 32 * (n / 32) + n % 32 = n := Nat.div_add_mod n 32
    rw [this, Nat.mul_comm]
end Go.Proofs.YthiklmgdmaemgaaDoor.PA
end

section
namespace Go.Proofs.YthiklmgdmaemgaaDoor.PA
open Go.RowKit Go.Proofs.YthiklmgdmaemgaaDoorW.PrintWords Go.Proofs.YthiklmgdmaemgaaDoorW.PrintLast Go.Proofs.YthiklmgdmaemgaaDoorW.PrintMore Go.Proofs.YthiklmgdmaemgaaDoor.Wd
set_option linter.unusedSimpArgs false
set_option linter.unusedVariables false
theorem at0_none {l : List Int} {i : Nat} (h : l.length ≤ i) : at0 l i = 0 := by unfold at0; rw [dif_neg (by omega)]
theorem sum_step {V L c A B x r q : Nat} (h : c + A + B = 4294967296 * q + r) {VA VB : Nat} :
    V + L * r + L * 4294967296 * (q + VA + VB) = V + L * (c + (A + 4294967296 * VA) + (B + 4294967296 * VB)) := by
  have e : c + (A + 4294967296 * VA) + (B + 4294967296 * VB) = r + 4294967296 * (q + VA + VB) := by omega
  rw [e]
  generalize q + VA + VB = S
  rw [Nat.mul_add, ← Nat.mul_assoc, ← Nat.add_assoc]
theorem add_loop {a b : List Int} (ha : Dg a) (hb : Dg b) (hla : a.length < 1099511627775) (hlb : b.length < 1099511627775) (d : Nat) : ∀ (k i : Nat) (out : List Int) (c : Nat), max a.length b.length - i = d → i ≤ max a.length b.length → Dg out → out.length = i → out.length + 4 * d + 6 < k → c ≤ 1 →
    cutplaneref01_Add.l0 k a b out (c : Int) (i : Int) = some (dg (vn out + 4294967296 ^ out.length * (c + vn (a.drop i) + vn (b.drop i)))) := by
  induction d with
  | zero =>
    intro k i out c hd hi ho hlen hk hc
    obtain ⟨k, rfl⟩ : ∃ m, k = m + 1 + 1 := ⟨k - 2, by omega⟩
    rw [cutplaneref01_Add.l0, if_neg (by omega), decide_eq_false (by omega), cutplaneref01_Add.j1, if_neg (by decide), if_pos (by omega), mod_small (by omega), ref_Trim (dg_append ho (dg_one (by omega) (by omega))) (by unfold Sh; rw [len_push]; omega) k (by rw [len_push]; omega), vn_push, vn_nil_of (by omega), vn_nil_of (by omega)]
    simp
  | succ d ih =>
    intro k i out c hd hi ho hlen hk hc
    obtain ⟨k, rfl⟩ : ∃ m, k = m + 1 + 1 := ⟨k - 2, by omega⟩
    have w1 : wrap64 ((i : Int) + 1) = ((i + 1 : Nat) : Int) := by unfold wrap64; omega
    have h1 := at0_lt ha i
    have h2 := at0_lt hb i
    have key : (if out.length < 35184372088832 then cutplaneref01_Add.l0 k a b (out ++ [((c + at0 a i + at0 b i : Nat) : Int) % 4294967296]) (((c + at0 a i + at0 b i : Nat) : Int) / 4294967296) (wrap64 ((i : Int) + 1)) else none) = some (dg (vn out + 4294967296 ^ out.length * (c + vn (a.drop i) + vn (b.drop i)))) := by
      rw [if_pos (by omega), w1, cast_mod, cast_div, ih k (i + 1) _ _ (by omega) (by omega) (dg_append ho (dg_one (by omega) (by omega))) (by rw [len_push]; omega) (by rw [len_push]; omega) (by omega), vn_push, len_push, Nat.pow_succ, vn_at0 a i, vn_at0 b i]
      congr 2
      exact sum_step (x := 0) (by have := Nat.div_add_mod (c + at0 a i + at0 b i) 4294967296; omega)
    by_cases ca : i < a.length
    · rw [cutplaneref01_Add.l0, if_pos (by omega), cutplaneref01_Add.j1, if_pos rfl, if_pos (by omega), if_pos (by omega), rd_at0 ha ca, u64_of (show at0 a i < 18446744073709551616 by omega), ← Int.natCast_add, u64_of (show c + at0 a i < 18446744073709551616 by omega)]
      by_cases cb : i < b.length
      · rw [if_pos (by omega), rd_at0 hb cb, u64_of (show at0 b i < 18446744073709551616 by omega), ← Int.natCast_add, u64_of (show c + at0 a i + at0 b i < 18446744073709551616 by omega)]
        exact key
      · rw [if_neg (by omega)]
        rw [at0_none (l := b) (by omega), Nat.add_zero] at key
        exact key
    · have cb : i < b.length := by omega
      rw [cutplaneref01_Add.l0, if_neg (by omega), decide_eq_true (by omega), cutplaneref01_Add.j1, if_pos rfl, if_neg (by omega), if_pos (by omega), if_pos (by omega), rd_at0 hb cb, u64_of (show at0 b i < 18446744073709551616 by omega), ← Int.natCast_add, u64_of (show c + at0 b i < 18446744073709551616 by omega)]
      rw [at0_none (l := a) (by omega), Nat.add_zero] at key
      exact key
theorem ref_Add {X Y : Nat} (hx : (dg X).length < 1099511627775) (hy : (dg Y).length < 1099511627775) (k : Nat) (hk : 4 * (dg X).length + 4 * (dg Y).length + 6 < k) : cutplaneref01_Add.f k (dg X) (dg Y) = some (dg (X + Y)) := by
  unfold cutplaneref01_Add.f
  have h := add_loop (dg_dg X) (dg_dg Y) hx hy (max (dg X).length (dg Y).length) k 0 [] 0 (by omega) (by omega) dg_nil' rfl (by rw [List.length_nil]; omega) (by omega)
  rw [show ((0 : Nat) : Int) = 0 from rfl] at h
  rw [h, List.drop_zero, List.drop_zero, vn_dg, vn_dg]
  simp [vn]
theorem sub_step {V L c A B r q VA VB : Nat} (h : 4294967296 * q + A = c + B + r) (hle : q + VB ≤ VA) :
    V + L * r + L * 4294967296 * (VA - q - VB) = V + L * ((A + 4294967296 * VA) - c - (B + 4294967296 * VB)) := by
  have e : (A + 4294967296 * VA) - c - (B + 4294967296 * VB) = r + 4294967296 * (VA - q - VB) := by omega
  rw [e, Nat.mul_add, ← Nat.mul_assoc, ← Nat.add_assoc]
theorem sub_q {c A B VA VB q r : Nat} (h : 4294967296 * q + A = c + B + r) (hr : r < 4294967296) (hle : c + (B + 4294967296 * VB) ≤ A + 4294967296 * VA) : q + VB ≤ VA := by omega
theorem sub_loop {a b : List Int} (ha : Dg a) (hb : Dg b) (hla : Sh a) (d : Nat) : ∀ (k i : Nat) (out : List Int) (c : Nat), a.length - i = d → i ≤ a.length → Dg out → out.length = i → out.length + 2 * d + 2 < k → c ≤ 1 → c + vn (b.drop i) ≤ vn (a.drop i) →
    cutplaneref01_Sub.l0 k a b out (c : Int) (i : Int) = some (dg (vn out + 4294967296 ^ out.length * (vn (a.drop i) - c - vn (b.drop i)))) := by
  unfold Sh at hla
  induction d with
  | zero =>
    intro k i out c hd hi ho hlen hk hc hle
    obtain ⟨k, rfl⟩ : ∃ m, k = m + 1 := ⟨k - 1, by omega⟩
    rw [vn_nil_of (l := a) (by omega)] at hle ⊢
    rw [cutplaneref01_Sub.l0, if_neg (by omega), ref_Trim ho (by unfold Sh; omega) k (by omega)]
    simp
  | succ d ih =>
    intro k i out c hd hi ho hlen hk hc hle
    obtain ⟨k, rfl⟩ : ∃ m, k = m + 1 := ⟨k - 1, by omega⟩
    have w1 : wrap64 ((i : Int) + 1) = ((i + 1 : Nat) : Int) := by unfold wrap64; omega
    have h1 := at0_lt ha i
    have h2 := at0_lt hb i
    have ca : i < a.length := by clear hle; omega
    have hi1 : i + 1 ≤ a.length := ca
    rw [vn_at0 a i, vn_at0 b i] at hle
    have key : ∀ (q r : Nat), 4294967296 * q + at0 a i = c + at0 b i + r → r < 4294967296 → q ≤ 1 →
        (if out.length < 35184372088832 then cutplaneref01_Sub.l0 k a b (out ++ [(r : Int) % 4294967296]) (q : Int) (wrap64 ((i : Int) + 1)) else none) = some (dg (vn out + 4294967296 ^ out.length * (vn (a.drop i) - c - vn (b.drop i)))) := by
      intro q r hy hr hq1
      have hq : q + vn (b.drop (i + 1)) ≤ vn (a.drop (i + 1)) := sub_q hy hr hle
      clear hle
      have hlen1 : out.length < 35184372088832 := by omega
      have hd1 : a.length - (i + 1) = d := by omega
      rw [if_pos hlen1, w1, mod_small hr, ih k (i + 1) _ _ hd1 (by omega) (dg_append ho (dg_one (by omega) (by omega))) (by rw [len_push]; omega) (by rw [len_push]; omega) hq1 hq, vn_push, len_push, Nat.pow_succ, vn_at0 a i, vn_at0 b i]
      congr 2
      exact sub_step hy hq
    have bor : ∀ (t : Nat), t = c + at0 b i →
      (if ((at0 a i : Nat) : Int) < (t : Int) then (if out.length < 35184372088832 then (cutplaneref01_Sub.l0 k a b (out ++ [(IntKind.u64.wrap ((IntKind.u64.wrap (((at0 a i : Nat) : Int) + 4294967296)) - (t : Int))) % 4294967296]) 1 (wrap64 ((i : Int) + 1))) else (none)) else (if out.length < 35184372088832 then (cutplaneref01_Sub.l0 k a b (out ++ [(IntKind.u64.wrap (((at0 a i : Nat) : Int) - (t : Int))) % 4294967296]) 0 (wrap64 ((i : Int) + 1))) else (none))) = some (dg (vn out + 4294967296 ^ out.length * (vn (a.drop i) - c - vn (b.drop i)))) := by
      intro t ht
      clear ih hle
      by_cases z : at0 a i < c + at0 b i
      · have e1 : IntKind.u64.wrap (((at0 a i : Nat) : Int) + 4294967296) = ((at0 a i : Nat) : Int) + 4294967296 := by rw [wrapu64]; omega
        have e2 : IntKind.u64.wrap (((at0 a i : Nat) : Int) + 4294967296 - (t : Int)) = ((4294967296 + at0 a i - t : Nat) : Int) := by rw [wrapu64]; omega
        rw [if_pos (by omega), e1, e2]
        have := key 1 (4294967296 + at0 a i - t) (by omega) (by omega) (by omega)
        rw [show ((1 : Nat) : Int) = 1 from rfl] at this
        exact this
      · have e2 : IntKind.u64.wrap (((at0 a i : Nat) : Int) - (t : Int)) = ((at0 a i - t : Nat) : Int) := by rw [wrapu64]; omega
        rw [if_neg (by omega), e2]
        have := key 0 (at0 a i - t) (by omega) (by omega) (by omega)
        rw [show ((0 : Nat) : Int) = 0 from rfl] at this
        exact this
    clear key ih hle
    rw [cutplaneref01_Sub.l0, if_pos (by omega), rd_at0 ha ca, u64_of (show at0 a i < 18446744073709551616 by omega)]
    by_cases cb : i < b.length
    · rw [if_pos (by omega), if_pos (by omega), rd_at0 hb cb, u64_of (show at0 b i < 18446744073709551616 by omega), ← Int.natCast_add, u64_of (show c + at0 b i < 18446744073709551616 by omega)]
      exact bor _ rfl
    · rw [if_neg (by omega), if_pos (by omega)]
      exact bor c (by rw [at0_none (by omega)]; rfl)
theorem ref_Sub {X Y : Nat} (hx : Sh (dg X)) (hle : Y ≤ X) (k : Nat) (hk : 2 * (dg X).length + 2 < k) : cutplaneref01_Sub.f k (dg X) (dg Y) = some (dg (X - Y)) := by
  unfold cutplaneref01_Sub.f
  have h := sub_loop (dg_dg X) (dg_dg Y) hx (dg X).length k 0 [] 0 (by omega) (by omega) dg_nil' rfl (by rw [List.length_nil]; omega) (by omega) (by rw [List.drop_zero, List.drop_zero, vn_dg, vn_dg]; omega)
  rw [show ((0 : Nat) : Int) = 0 from rfl] at h
  rw [h, List.drop_zero, List.drop_zero, vn_dg, vn_dg]
  simp [vn]
def cmpn (x y : Nat) : Int := if x < y then -1 else if x > y then 1 else 0
theorem vn_take {l : List Int} {i : Nat} (h : i < l.length) : vn (l.take (i + 1)) = vn (l.take i) + 4294967296 ^ i * at0 l i := by
  rw [List.take_succ_eq_append_getElem h, vn_append, List.length_take, Nat.min_eq_left (by omega)]
  unfold at0; rw [dif_pos h]; simp [vn]
theorem cmp_loop {a b : List Int} (ha : Dg a) (hb : Dg b) (hla : Sh a) (he : a.length = b.length) (i : Nat) : ∀ k, i ≤ a.length → i < k →
    cutplaneref01_Cmp.l0 k a b ((i : Int) - 1) = some (cmpn (vn (a.take i)) (vn (b.take i))) := by
  unfold Sh at hla
  induction i with
  | zero =>
    intro k hi hk
    obtain ⟨k, rfl⟩ : ∃ m, k = m + 1 := ⟨k - 1, by omega⟩
    rw [cutplaneref01_Cmp.l0, if_neg (by omega)]
    simp [vn, cmpn]
  | succ i ih =>
    intro k hi hk
    obtain ⟨k, rfl⟩ : ∃ m, k = m + 1 := ⟨k - 1, by omega⟩
    have ca : i < a.length := by omega
    have cb : i < b.length := by omega
    have e0 : ((i + 1 : Nat) : Int) - 1 = (i : Int) := by omega
    have w1 : wrap64 ((i : Int) - 1) = (i : Int) - 1 := by unfold wrap64; omega
    have l1 := vn_lt (dg_take ha i)
    have l2 := vn_lt (dg_take hb i)
    rw [List.length_take, Nat.min_eq_left (by omega)] at l1 l2
    rw [e0, cutplaneref01_Cmp.l0, if_pos (by omega), if_pos (by omega), if_pos (by omega), if_pos (by omega), rd_at0 ha ca, rd_at0 hb cb, w1, ih k (by omega) (by omega), vn_take ca, vn_take cb]
    generalize at0 a i = x
    generalize at0 b i = y
    generalize vn (a.take i) = p at *
    generalize vn (b.take i) = q at *
    generalize 4294967296 ^ i = B at *
    unfold cmpn
    have lt : ∀ {x y p q : Nat}, p < B → x < y → p + B * x < q + B * y := by
      intro x y p q hp hxy
      have h1 : B * (x + 1) ≤ B * y := Nat.mul_le_mul_left _ hxy
      rw [Nat.mul_add, Nat.mul_one] at h1
      omega
    by_cases c1 : x < y
    · rw [if_pos (by omega), if_pos (lt l1 c1)]
    · by_cases c2 : y < x
      · have := lt (q := p) l2 c2
        rw [if_neg (by omega), if_pos (by omega), if_neg (by omega), if_pos (by omega)]
      · have e : x = y := by omega
        subst e
        rw [if_neg (by omega), if_neg (by omega)]
        by_cases c3 : p < q
        · rw [if_pos c3, if_pos (by omega)]
        · by_cases c4 : p > q
          · rw [if_neg c3, if_pos c4, if_neg (by omega), if_pos (by omega)]
          · rw [if_neg c3, if_neg c4, if_neg (by omega), if_neg (by omega)]
theorem len_lt {X Y : Nat} (h : (dg X).length < (dg Y).length) : X < Y := by
  have h1 := dg_hi X
  have hy : Y ≠ 0 := by rintro rfl; rw [dg_zero] at h; simp at h
  have h2 := dg_lo hy
  have : 4294967296 ^ (dg X).length ≤ 4294967296 ^ ((dg Y).length - 1) := Nat.pow_le_pow_right (by decide) (by omega)
  omega
theorem ref_Cmp1 {X Y : Nat} (hx : Sh (dg X)) (k : Nat) (hk : (dg X).length < k) : cutplaneref01_Cmp.f k (dg X) (dg Y) = some (cmpn X Y) := by
  unfold Sh at hx
  unfold cutplaneref01_Cmp.f
  by_cases c : (dg X).length = (dg Y).length
  · have w1 : wrap64 (((dg X).length : Int) - 1) = ((dg X).length : Int) - 1 := by unfold wrap64; omega
    rw [if_pos (by omega), w1, cmp_loop (dg_dg X) (dg_dg Y) hx c (dg X).length k (by omega) hk, List.take_length, c, List.take_length, vn_dg, vn_dg]
  · rw [if_neg (by omega)]
    unfold cmpn
    by_cases c1 : (dg X).length < (dg Y).length
    · have := len_lt c1
      rw [if_pos (by omega), if_pos this]
    · have := len_lt (X := Y) (Y := X) (by omega)
      rw [if_neg (by omega), if_neg (by omega), if_pos (by omega)]
end Go.Proofs.YthiklmgdmaemgaaDoor.PA
end

section
namespace Go.Proofs.YthiklmgdmaemgaaDoor.PA
open Go.RowKit Go.Proofs.YthiklmgdmaemgaaDoorW.PrintWords Go.Proofs.YthiklmgdmaemgaaDoorW.PrintLast Go.Proofs.YthiklmgdmaemgaaDoorW.PrintMore Go.Proofs.YthiklmgdmaemgaaDoor.Wd
set_option linter.unusedSimpArgs false
set_option linter.unusedVariables false
/-- how many noughts stand below -/
def tzn (n : Nat) : Nat := if h : n = 0 then 0 else if n % 2 = 1 then 0 else tzn (n / 2) + 1
  termination_by n
  decreasing_by omega
theorem tzn_odd {m : Nat} (hm : m % 2 = 1) : tzn m = 0 := by
  rw [tzn, dif_neg (by omega), if_pos hm]
theorem tzn_mul {m : Nat} (hm : m % 2 = 1) (t : Nat) : tzn (2 ^ t * m) = t := by
  induction t with
  | zero => rw [Nat.pow_zero, Nat.one_mul, tzn_odd hm]
  | succ t ih =>
    have e : 2 ^ (t + 1) * m = 2 * (2 ^ t * m) := by rw [Nat.pow_succ, Nat.mul_comm (2 ^ t) 2, Nat.mul_assoc]
    have hne := two_ne (t := t) hm
    rw [e]
    generalize 2 ^ t * m = x at *
    rw [tzn, dif_neg (by omega), if_neg (by omega), Nat.mul_div_cancel_left _ (by decide), ih]
/-- a number of so many units, in the one form -/
def fm (neg : Bool) (N : Nat) (e : Int) : Bool × List Int × Int := if N = 0 then (false, [], 0) else (neg, dg (N / 2 ^ tzn N), e + tzn N)
theorem fm_zero (neg : Bool) (e : Int) : fm neg 0 e = (false, [], 0) := rfl
theorem fm_mk {neg : Bool} {t m : Nat} {e : Int} (hm : m % 2 = 1) : fm neg (2 ^ t * m) e = (neg, dg m, e + t) := by
  unfold fm
  rw [if_neg (two_ne hm), tzn_mul hm, Nat.mul_div_cancel_left _ (Nat.two_pow_pos t)]
theorem fm_shift {neg : Bool} {N j : Nat} {e : Int} : fm neg (2 ^ j * N) e = fm neg N (e + j) := by
  by_cases z : N = 0
  · subst z; rw [Nat.mul_zero, fm_zero, fm_zero]
  · obtain ⟨t, m, rfl, hm⟩ := odd_part z
    rw [fm_mk hm, ← Nat.mul_assoc, ← Nat.pow_add, fm_mk hm]
    congr 2; omega
theorem len_cap {N C : Nat} (h : N < 2 ^ C) : (dg N).length ≤ C / 32 + 1 := by
  apply dg_length_le
  rw [pow32]
  exact Nat.lt_of_lt_of_le h (Nat.pow_le_pow_right (by decide) (by omega))
theorem tz_cap {N C t m : Nat} (h : N < 2 ^ C) (e : N = 2 ^ t * m) (hm : m % 2 = 1) : t < C := by
  have h1 : 2 ^ t ≤ 2 ^ t * m := Nat.le_mul_of_pos_right _ (by omega)
  exact (Nat.pow_lt_pow_iff_right (by decide)).1 (Nat.lt_of_le_of_lt (by rw [e]; exact h1) h)
theorem odd_cap {N C t m : Nat} (h : N < 2 ^ C) (e : N = 2 ^ t * m) : m < 2 ^ C := by
  have h1 : m ≤ 2 ^ t * m := Nat.le_mul_of_pos_left _ (Nat.two_pow_pos t)
  rw [e] at h; omega
theorem ref_Form {neg : Bool} {N C : Nat} {e : Int} (h : N < 2 ^ C) (hC : C ≤ 100000) (e0 : -1099511627776 < e) (e1 : e < 1099511627776) (k : Nat) (hk : 500000 < k) :
    cutplaneref02_Form.f k neg (dg N) e = some (fm neg N e) := by
  unfold cutplaneref02_Form.f
  by_cases z : N = 0
  · subst z; rw [dg_zero]; rfl
  · obtain ⟨t, m, rfl, hm⟩ := odd_part z
    have hl := len_cap h
    have ht := tz_cap h rfl hm
    have hp := dg_len_pos z
    have hs : Sh (dg (2 ^ t * m)) := by unfold Sh; omega
    have w1 : wrap64 (e + (t : Int)) = e + t := by unfold wrap64; omega
    rw [if_neg (by omega), ref_Low hm hs k (by omega)]
    simp only [Option.bind_some]
    rw [ref_Down1 hm hs (by omega) k (by omega), fm_mk hm, w1, Nat.mul_div_cancel_left _ (Nat.two_pow_pos t)]
    rfl
theorem ref_Sign_fm (neg : Bool) (N : Nat) (e : Int) : cutplaneref02_Sign.f (fm neg N e).1 (fm neg N e).2.1 (fm neg N e).2.2 = some (if N = 0 then 0 else if neg then -1 else 1) := by
  unfold cutplaneref02_Sign.f
  by_cases z : N = 0
  · subst z; rw [fm_zero]; rfl
  · obtain ⟨t, m, rfl, hm⟩ := odd_part z
    have hp := dg_len_pos (n := m) (by omega)
    rw [fm_mk hm, if_neg z]
    simp only
    rw [if_neg (by omega)]
    cases neg <;> rfl
theorem ref_Top_fm {neg : Bool} {N C : Nat} {e : Int} (h : N < 2 ^ C) (hC : C ≤ 100000) (e0 : -1099511627776 < e) (e1 : e < 1099511627776) (k : Nat) (hk : 500000 < k) :
    cutplaneref02_Top.f k (fm neg N e).1 (fm neg N e).2.1 (fm neg N e).2.2 = some (if N = 0 then 0 else e + bl N) := by
  unfold cutplaneref02_Top.f
  by_cases z : N = 0
  · subst z; rw [fm_zero]; rfl
  · obtain ⟨t, m, rfl, hm⟩ := odd_part z
    have ht := tz_cap h rfl hm
    have hmc := odd_cap h rfl
    have hl := len_cap hmc
    have hp := dg_len_pos (n := m) (by omega)
    have hb := bl_le hmc
    have hs : Sh (dg m) := by unfold Sh; omega
    rw [fm_mk hm, if_neg z]
    simp only
    rw [if_neg (by omega), ref_Len hs k (by omega)]
    simp only [Option.bind_some]
    have w1 : wrap64 (e + (t : Int) + (bl m : Int)) = e + t + bl m := by unfold wrap64; omega
    have eb := bl_shift (n := m) (by omega) t
    rw [w1, Nat.mul_comm, eb]
    congr 1; omega
theorem ref_Neg_fm (neg : Bool) (N : Nat) (e : Int) : cutplaneref02_Neg.f (fm neg N e).1 (fm neg N e).2.1 (fm neg N e).2.2 = some (fm (!neg) N e) := by
  unfold cutplaneref02_Neg.f
  by_cases z : N = 0
  · subst z; rw [fm_zero, fm_zero]; rfl
  · obtain ⟨t, m, rfl, hm⟩ := odd_part z
    have hp := dg_len_pos (n := m) (by omega)
    rw [fm_mk hm, fm_mk hm]
    simp only
    rw [if_pos (by omega)]
theorem up_cap {m t j C : Nat} (h : 2 ^ t * m < 2 ^ C) (hj : j ≤ t) : 2 ^ (t - j) * m < 2 ^ C := by
  have : 2 ^ (t - j) * m ≤ 2 ^ t * m := Nat.mul_le_mul_right _ (Nat.pow_le_pow_right (by decide) (by omega))
  omega
theorem add_core {na nb : Bool} {tA tB mA mB t C : Nat} {e : Int} (hA : 2 ^ tA * mA < 2 ^ C) (hB : 2 ^ tB * mB < 2 ^ C) (oA : mA % 2 = 1) (oB : mB % 2 = 1) (hC : C < 100000) (e0 : -1000000000000 < e) (e1 : e < 1000000000000) (ta : t ≤ tA) (tb : t ≤ tB) (k : Nat) (hk : 500001 < k) :
    cutplaneref02_Add.j0 k (e + t) na (dg mA) (e + tA) nb (dg mB) (e + tB) = some (if na = nb then fm na (2 ^ (tA - t) * mA + 2 ^ (tB - t) * mB) (e + t) else if 2 ^ (tB - t) * mB ≤ 2 ^ (tA - t) * mA then fm na (2 ^ (tA - t) * mA - 2 ^ (tB - t) * mB) (e + t) else fm nb (2 ^ (tB - t) * mB - 2 ^ (tA - t) * mA) (e + t)) := by
  obtain ⟨k, rfl⟩ : ∃ j, k = j + 1 := ⟨k - 1, by omega⟩
  have cA := tz_cap hA rfl oA
  have cB := tz_cap hB rfl oB
  have lA := len_cap (odd_cap hA rfl)
  have lB := len_cap (odd_cap hB rfl)
  have uA := up_cap hA ta
  have uB := up_cap hB tb
  have l1 := len_cap uA
  have l2 := len_cap uB
  have wA : wrap64 (e + (tA : Int) - (e + (t : Int))) = ((tA - t : Nat) : Int) := by unfold wrap64; omega
  have wB : wrap64 (e + (tB : Int) - (e + (t : Int))) = ((tB - t : Nat) : Int) := by unfold wrap64; omega
  have hsum : 2 ^ (tA - t) * mA + 2 ^ (tB - t) * mB < 2 ^ (C + 1) := by rw [Nat.pow_succ]; omega
  rw [cutplaneref02_Add.j0, wA, wB, ref_Up1 (by unfold Sh; omega) (by omega) (by omega) k (by omega), Option.bind_some, ref_Up1 (by unfold Sh; omega) (by omega) (by omega) k (by omega), Option.bind_some, Nat.mul_comm mA, Nat.mul_comm mB]
  have ft0 : -1099511627776 < e + (t : Int) := by omega
  have ft1 : e + (t : Int) < 1099511627776 := by omega
  generalize 2 ^ (tA - t) * mA = X at *
  generalize 2 ^ (tB - t) * mB = Y at *
  have s1 : Sh (dg X) := by unfold Sh; omega
  have s2 : Sh (dg Y) := by unfold Sh; omega
  by_cases c : na = nb
  · subst c
    rw [if_pos (by simp), if_pos rfl, ref_Add (by omega) (by omega) k (by omega), Option.bind_some, ref_Form hsum (by omega) ft0 ft1 k (by omega)]
    rfl
  · rw [if_neg (by simpa using c), if_neg c, ref_Cmp1 s1 k (by omega), Option.bind_some]
    unfold cmpn
    by_cases c2 : Y ≤ X
    · have hsub : X - Y < 2 ^ C := by omega
      rw [if_pos c2, if_pos (by split <;> (try split) <;> omega), ref_Sub s1 c2 k (by omega), Option.bind_some, ref_Form hsub (by omega) ft0 ft1 k (by omega)]
      rfl
    · have hsub : Y - X < 2 ^ C := by omega
      rw [if_neg c2, if_neg (by rw [if_pos (by omega)]; omega), ref_Sub s2 (by omega) k (by omega), Option.bind_some, ref_Form hsub (by omega) ft0 ft1 k (by omega)]
      rfl
/-- the sum, of numbers of the same unit -/
def addz (na : Bool) (A : Nat) (nb : Bool) (B : Nat) (e : Int) : Bool × List Int × Int :=
  if A = 0 then fm nb B e else if B = 0 then fm na A e else if na = nb then fm na (A + B) e else if B ≤ A then fm na (A - B) e else fm nb (B - A) e
theorem split_pow {t tA m : Nat} (h : t ≤ tA) : 2 ^ tA * m = 2 ^ t * (2 ^ (tA - t) * m) := by
  rw [← Nat.mul_assoc, ← Nat.pow_add]
  have : t + (tA - t) = tA := by omega
  rw [this]
theorem ref_Add_fm {na nb : Bool} {A B C : Nat} {e : Int} (hA : A < 2 ^ C) (hB : B < 2 ^ C) (hC : C < 100000) (e0 : -1000000000000 < e) (e1 : e < 1000000000000) (k : Nat) (hk : 500001 < k) :
    cutplaneref02_Add.f k (fm na A e).1 (fm na A e).2.1 (fm na A e).2.2 (fm nb B e).1 (fm nb B e).2.1 (fm nb B e).2.2 = some (addz na A nb B e) := by
  unfold cutplaneref02_Add.f addz
  by_cases zA : A = 0
  · subst zA; rw [fm_zero]; rfl
  rw [if_neg zA]
  by_cases zB : B = 0
  · subst zB
    obtain ⟨t, m, rfl, hm⟩ := odd_part zA
    have hp := dg_len_pos (n := m) (by omega)
    rw [fm_zero, fm_mk hm]
    simp only
    rw [if_neg (by omega)]; rfl
  rw [if_neg zB]
  obtain ⟨tA, mA, rfl, oA⟩ := odd_part zA
  obtain ⟨tB, mB, rfl, oB⟩ := odd_part zB
  have pA := dg_len_pos (n := mA) (by omega)
  have pB := dg_len_pos (n := mB) (by omega)
  rw [fm_mk oA, fm_mk oB]
  simp only
  rw [if_neg (by omega), if_neg (by omega)]
  have key : ∀ t : Nat, t ≤ tA → t ≤ tB → cutplaneref02_Add.j0 k (e + t) na (dg mA) (e + tA) nb (dg mB) (e + tB) = some (if na = nb then fm na (2 ^ tA * mA + 2 ^ tB * mB) e else if 2 ^ tB * mB ≤ 2 ^ tA * mA then fm na (2 ^ tA * mA - 2 ^ tB * mB) e else fm nb (2 ^ tB * mB - 2 ^ tA * mA) e) := by
    intro t ta tb
    rw [add_core hA hB oA oB hC e0 e1 ta tb k hk, split_pow (m := mA) ta, split_pow (m := mB) tb]
    generalize 2 ^ (tA - t) * mA = X
    generalize 2 ^ (tB - t) * mB = Y
    rw [← Nat.mul_add, ← Nat.mul_sub, ← Nat.mul_sub, fm_shift, fm_shift, fm_shift]
    have : 2 ^ t * Y ≤ 2 ^ t * X ↔ Y ≤ X := Nat.mul_le_mul_left_iff (Nat.two_pow_pos t)
    by_cases c : Y ≤ X
    · rw [if_pos c, if_pos (this.2 c)]
    · rw [if_neg c, if_neg (fun h => c (this.1 h))]
  by_cases c : e + (tB : Int) < e + (tA : Int)
  · rw [if_pos c]; exact key tB (by omega) (by omega)
  · rw [if_neg c]; exact key tA (by omega) (by omega)
theorem ref_Sub_fm {na nb : Bool} {A B C : Nat} {e : Int} (hA : A < 2 ^ C) (hB : B < 2 ^ C) (hC : C < 100000) (e0 : -1000000000000 < e) (e1 : e < 1000000000000) (k : Nat) (hk : 500001 < k) :
    cutplaneref02_Sub.f k (fm na A e).1 (fm na A e).2.1 (fm na A e).2.2 (fm nb B e).1 (fm nb B e).2.1 (fm nb B e).2.2 = some (addz na A (!nb) B e) := by
  unfold cutplaneref02_Sub.f
  rw [ref_Neg_fm, Option.bind_some, ref_Add_fm hA hB hC e0 e1 k hk]
  rfl
/-- a whole number of units -/
def zs (neg : Bool) (N : Nat) : Int := if neg then -(N : Int) else N
def cmpz (x y : Int) : Int := if x < y then -1 else if x > y then 1 else 0
theorem bl_mono {A B : Nat} (h : bl A < bl B) : A < B := by
  have h1 := bl_hi A
  have hB : B ≠ 0 := by rintro rfl; rw [bl_zero] at h; omega
  have h2 := bl_lo hB
  have : 2 ^ bl A ≤ 2 ^ (bl B - 1) := Nat.pow_le_pow_right (by decide) (by omega)
  omega
theorem ref_Cmp_fm {na nb : Bool} {A B C : Nat} {e : Int} (hA : A < 2 ^ C) (hB : B < 2 ^ C) (hC : C < 100000) (e0 : -1000000000000 < e) (e1 : e < 1000000000000) (k : Nat) (hk : 500001 < k) :
    cutplaneref02_Cmp.f k (fm na A e).1 (fm na A e).2.1 (fm na A e).2.2 (fm nb B e).1 (fm nb B e).2.1 (fm nb B e).2.2 = some (cmpz (zs na A) (zs nb B)) := by
  unfold cutplaneref02_Cmp.f
  rw [ref_Sign_fm, Option.bind_some, ref_Sign_fm, Option.bind_some, ref_Top_fm hA (by omega) (by omega) (by omega) k (by omega), ref_Top_fm hB (by omega) (by omega) (by omega) k (by omega), ref_Sub_fm hA hB hC e0 e1 k hk]
  simp only [Option.bind_some]
  by_cases zA : A = 0
  · by_cases zB : B = 0
    · subst zA zB; cases na <;> cases nb <;> rfl
    · rw [if_pos zA, if_neg zB]
      subst zA
      cases nb
      · rw [if_neg (by decide), if_pos (by decide)]
        unfold cmpz zs; cases na <;> simp <;> omega
      · rw [if_neg (by decide), if_neg (by decide)]
        unfold cmpz zs; cases na <;> simp <;> omega
  · by_cases zB : B = 0
    · rw [if_neg zA, if_pos zB]
      subst zB
      cases na
      · rw [if_neg (by decide), if_neg (by decide)]
        unfold cmpz zs; cases nb <;> simp <;> omega
      · rw [if_neg (by decide), if_pos (by decide)]
        unfold cmpz zs; cases nb <;> simp <;> omega
    · rw [if_neg zA, if_neg zB, if_neg zA, if_neg zB]
      by_cases c : na = nb
      · subst c
        rw [if_pos rfl, if_neg (by cases na <;> decide)]
        by_cases cb : bl A = bl B
        · rw [if_pos (by omega)]
          unfold addz
          rw [if_neg zA, if_neg zB, if_neg (by cases na <;> decide)]
          by_cases c2 : B ≤ A
          · rw [if_pos c2, ref_Sign_fm]
            unfold cmpz zs
            by_cases c3 : A - B = 0
            · rw [if_pos c3]; cases na <;> simp <;> (try split) <;> omega
            · rw [if_neg c3]; cases na <;> simp <;> (try split) <;> omega
          · rw [if_neg c2, ref_Sign_fm, if_neg (show ¬ (B - A = 0) by omega)]
            unfold cmpz zs
            cases na <;> simp <;> (try split) <;> omega
        · rw [if_neg (by omega)]
          by_cases c2 : bl A < bl B
          · have := bl_mono c2
            rw [decide_eq_true (show e + (bl A : Int) < e + (bl B : Int) by omega)]
            unfold cmpz zs
            cases na <;> simp <;> (try split) <;> omega
          · have := bl_mono (A := B) (B := A) (by omega)
            rw [decide_eq_false (show ¬ (e + (bl A : Int) < e + (bl B : Int)) by omega)]
            unfold cmpz zs
            cases na <;> simp <;> (try split) <;> omega
      · rw [if_neg (by cases na <;> cases nb <;> simp at c ⊢)]
        unfold cmpz zs
        cases na <;> cases nb <;> simp at c ⊢ <;> (try split) <;> omega
end Go.Proofs.YthiklmgdmaemgaaDoor.PA
end

section
namespace Go.Proofs.YthiklmgdmaemgaaDoor.PA
open Go.RowKit Go.Proofs.YthiklmgdmaemgaaDoorW.PrintWords Go.Proofs.YthiklmgdmaemgaaDoorW.PrintLast Go.Proofs.YthiklmgdmaemgaaDoorW.PrintMore Go.Proofs.YthiklmgdmaemgaaDoor.Wd
set_option linter.unusedSimpArgs false
set_option linter.unusedVariables false
/-- the class of a size: P one above the fractions, I the infinite size -/
def cls (P I s : Int) : Int := if s = 0 then 1 else if s < P then 2 else if s < I then 3 else if s = I then 4 else 5
def sgn (f : Int) : Int := if f = 1 then 2147483648 else 9223372036854775808
def one (f : Int) : Int := if f = 1 then 8388608 else 4503599627370496
def infw (f : Int) : Int := if f = 1 then 2139095040 else 9218868437227405312
def nanw (f : Int) : Int := if f = 1 then 2143289344 else 9221120237041090560
def cl (f w : Int) : Int := cls (one f) (infw f) (w % sgn f)
/-- the error of a word, as Good tells it -/
def err (f w : Int) : Int := if f = 1 then (if w ≥ 4294967296 then 6 else 0) else if f = 2 then 0 else 4
/-- a good word -/
def Gd (f w : Int) : Prop := (f = 1 ∧ 0 ≤ w ∧ w < 4294967296) ∨ (f = 2 ∧ 0 ≤ w ∧ w < 18446744073709551616)
def U (w : Int) : Prop := 0 ≤ w ∧ w < 18446744073709551616
theorem Gd.u {f w : Int} (h : Gd f w) : U w := by rcases h with ⟨_, a, b⟩ | ⟨_, a, b⟩ <;> exact ⟨a, by omega⟩
theorem Gd.err {f w : Int} (h : Gd f w) : err f w = 0 := by
  rcases h with ⟨rfl, a, b⟩ | ⟨rfl, a, b⟩
  · simp [PA.err]; omega
  · simp [PA.err]
theorem gd_of {f w : Int} (h : err f w = 0) (hu : U w) : Gd f w := by
  unfold err at h
  unfold U at hu
  unfold Gd
  split at h
  · split at h
    · omega
    · omega
  · split at h <;> omega
theorem u_of {w : Int} (h : (Lit.int .u64 w).wf = true) : U w := by have := bounds_u64 h; exact ⟨by omega, by omega⟩
theorem rd_zero (w : Int) : rd [w] 0 = w := by rfl
theorem top31 : Go.bits .or .u64 2147483648 (IntKind.u64.wrap (2147483648 - 1)) = 4294967295 := by decide +kernel
theorem top63 : Go.bits .or .u64 9223372036854775808 (IntKind.u64.wrap (9223372036854775808 - 1)) = 18446744073709551615 := by decide +kernel
/-- the shape of a format -/
def shp (f : Int) : Int × Int × Int := if f = 1 then (23, 255, 2147483648) else if f = 2 then (52, 2047, 9223372036854775808) else (0, 0, 0)
theorem open_nil (k : Nat) (f : Int) : word_open.f (k + 1) f [] = some ((shp f).1, (shp f).2.1, (shp f).2.2, if f = 1 ∨ f = 2 then 0 else 4) := by
  unfold word_open.f word_shapeOf.f shp
  by_cases h1 : f = 1
  · subst h1; simp [word_open.l0]
  · by_cases h2 : f = 2
    · subst h2; simp [word_open.l0]
    · simp [h1, h2]
theorem open_one (k : Nat) (f w : Int) (hu : U w) : word_open.f (k + 2) f [w] = some ((shp f).1, (shp f).2.1, (shp f).2.2, err f w) := by
  obtain ⟨h0, h3⟩ := hu
  unfold word_open.f word_shapeOf.f shp err
  by_cases h1 : f = 1
  · subst h1
    have l1 : (([w] : List Int).length : Int) = 1 := rfl
    have w1 : wrap64 (0 + 1) = 1 := by decide +kernel
    simp only [if_true, Option.bind_some, word_open.l0, l1, rd_zero, top31, Int.zero_lt_one, Int.le_refl, w1]
    by_cases c : w ≥ 4294967296
    · rw [if_pos (by omega)]; simp [c]
    · rw [if_neg (by omega)]; simp [c]
  · by_cases h2 : f = 2
    · subst h2
      have l1 : (([w] : List Int).length : Int) = 1 := rfl
      have w1 : wrap64 (0 + 1) = 1 := by decide +kernel
      simp only [show (¬ ((2 : Int) = 1)) by decide, if_false, if_true, Option.bind_some, word_open.l0, l1, rd_zero, top63, Int.zero_lt_one, Int.le_refl, w1]
      rw [if_neg (by omega)]
      simp
    · simp [h1, h2]
theorem shape_inf1 : word_shape_inf.f 23 255 2147483648 = some 2139095040 := by decide +kernel
theorem shape_inf2 : word_shape_inf.f 52 2047 9223372036854775808 = some 9218868437227405312 := by decide +kernel
theorem shape_none1 : word_shape_none.f 23 255 2147483648 = some 2143289344 := by decide +kernel
theorem shape_none2 : word_shape_none.f 52 2047 9223372036854775808 = some 9221120237041090560 := by decide +kernel
theorem shl23 : shl .u64 1 23 = 8388608 := by decide +kernel
theorem shl52 : shl .u64 1 52 = 4503599627370496 := by decide +kernel
theorem shape_class {f w : Int} (h : Gd f w) : word_shape_class.f (shp f).1 (shp f).2.1 (shp f).2.2 w = some (cl f w) := by
  rcases h with ⟨rfl, h0, h1⟩ | ⟨rfl, h0, h1⟩
  · have e1 : shp 1 = (23, 255, 2147483648) := rfl
    rw [e1]
    simp only [word_shape_class.f, andNot31 h0 h1, shape_inf1, Option.bind_some, shl23, cl, cls, one, infw, sgn, if_true]
    repeat' split
    all_goals first | rfl | (exfalso; omega)
  · have e1 : shp 2 = (52, 2047, 9223372036854775808) := rfl
    rw [e1]
    simp only [word_shape_class.f, andNot63 h0 h1, shape_inf2, Option.bind_some, shl52, cl, cls, one, infw, sgn]
    simp only [show (¬ ((2 : Int) = 1)) by decide, if_false]
    repeat' split
    all_goals first | rfl | (exfalso; omega)
theorem split_good (k : Nat) {f w : Int} (h : Gd f w) : word_Split.f (k + 2) f w = some (decide (w ≥ sgn f), w % sgn f / one f, w % one f, 0) := by
  unfold word_Split.f
  rw [open_one k f w h.u, h.err]
  rcases h with ⟨rfl, h0, h1⟩ | ⟨rfl, h0, h1⟩
  · have e1 : shp 1 = (23, 255, 2147483648) := rfl
    have e2 : IntKind.u64.wrap (8388608 - 1) = 8388607 := by decide +kernel
    have e3 : shr .u64 (w % 2147483648) 23 = w % 2147483648 / 8388608 := rfl
    rw [e1]
    simp only [Option.bind_some, if_true, word_shape_split.f, andNot31 h0 h1, and31 h0 h1, shl23, e2, e3, sgn, one]
    rw [and23 (by omega) (by omega)]
    have e4 : wrap64 (w % 2147483648 / 8388608) = w % 2147483648 / 8388608 := by unfold wrap64; omega
    have e5 : w % 2147483648 % 8388608 = w % 8388608 := by omega
    rw [e4, e5]
    by_cases c : w ≥ 2147483648 <;> simp [c]
  · have e1 : shp 2 = (52, 2047, 9223372036854775808) := rfl
    have e2 : IntKind.u64.wrap (4503599627370496 - 1) = 4503599627370495 := by decide +kernel
    have e3 : shr .u64 (w % 9223372036854775808) 52 = w % 9223372036854775808 / 4503599627370496 := rfl
    rw [e1]
    simp only [Option.bind_some, if_true, word_shape_split.f, andNot63 h0 h1, and63 h0 h1, shl52, e2, e3, sgn, one]
    rw [and52 (by omega) (by omega)]
    have e4 : wrap64 (w % 9223372036854775808 / 4503599627370496) = w % 9223372036854775808 / 4503599627370496 := by unfold wrap64; omega
    have e5 : w % 9223372036854775808 % 4503599627370496 = w % 4503599627370496 := by omega
    rw [e4, e5]
    by_cases c : w ≥ 9223372036854775808 <;> simp [c]
def flipw (f w : Int) : Int := if w ≥ sgn f then w - sgn f else w + sgn f
def negw (f w : Int) : Int := if cl f w = 5 then nanw f else flipw f w
theorem shape_none {f w : Int} (h : Gd f w) : word_shape_none.f (shp f).1 (shp f).2.1 (shp f).2.2 = some (nanw f) := by
  rcases h with ⟨rfl, _, _⟩ | ⟨rfl, _, _⟩
  · exact shape_none1
  · exact shape_none2
theorem turned_good (k : Nat) {f w : Int} (h : Gd f w) {g : Int → Int → Int → Option Int} {z : Int} (hg : g (shp f).1 (shp f).2.1 (shp f).2.2 = some z) :
    word_turned.f (k + 2) f w g = some (if cl f w = 5 then nanw f else z, 0) := by
  unfold word_turned.f
  rw [open_one k f w h.u, h.err]
  simp only [Option.bind_some, if_true, shape_class h, shape_none h, hg]
  split <;> rfl
theorem shp3 {f w : Int} (h : Gd f w) : (shp f).2.2 = sgn f := by
  rcases h with ⟨rfl, _, _⟩ | ⟨rfl, _, _⟩ <;> rfl
theorem neg_good (k : Nat) {f w : Int} (h : Gd f w) : word_Neg.f (k + 2) f w = some (negw f w, 0) := by
  unfold word_Neg.f
  rw [turned_good k h (z := flipw f w) ?_]
  · rfl
  · unfold word_Neg_1.f flipw
    rw [shp3 h]
    rcases h with ⟨rfl, h0, h1⟩ | ⟨rfl, h0, h1⟩
    · exact congrArg some (xor31 h0 h1)
    · exact congrArg some (xor63 h0 h1)
theorem sgn_cases (f : Int) : sgn f = 2147483648 ∨ sgn f = 9223372036854775808 := by unfold sgn; split <;> simp
theorem nan_gd {f w : Int} (h : Gd f w) : Gd f (nanw f) := by
  rcases h with ⟨rfl, _, _⟩ | ⟨rfl, _, _⟩
  · exact .inl ⟨rfl, by decide, by decide⟩
  · exact .inr ⟨rfl, by decide, by decide⟩
theorem flipw_gd {f w : Int} (h : Gd f w) : Gd f (flipw f w) := by
  unfold flipw sgn
  rcases h with ⟨rfl, h0, h1⟩ | ⟨rfl, h0, h1⟩
  · exact .inl ⟨rfl, by simp only [if_true]; split <;> omega, by simp only [if_true]; split <;> omega⟩
  · exact .inr ⟨rfl, by simp only [show (¬ ((2 : Int) = 1)) by decide, if_false]; split <;> omega, by simp only [show (¬ ((2 : Int) = 1)) by decide, if_false]; split <;> omega⟩
theorem neg_gd {f w : Int} (h : Gd f w) : Gd f (negw f w) := by unfold negw; split; exact nan_gd h; exact flipw_gd h
def most (f : Int) : Int := if f = 1 then 255 else 2047
def Fit (f e fr : Int) : Prop := 0 ≤ e ∧ e ≤ most f ∧ fr < one f
def jw (f : Int) (b : Bool) (e fr : Int) : Int := if b then e * one f + fr + sgn f else e * one f + fr
theorem open_nil' (k : Nat) (f : Int) : word_open.f (k + 1) f ([] : List Int) = some ((shp f).1, (shp f).2.1, (shp f).2.2, if f = 1 ∨ f = 2 then 0 else 4) := open_nil k f
theorem div_zero_iff {x P : Int} (hP : 0 < P) (h0 : 0 ≤ x) : x / P = 0 ↔ x < P := by
  constructor
  · intro h
    by_cases c : x < P
    · exact c
    · have : 1 ≤ x / P := (Int.le_ediv_iff_mul_le hP).2 (by omega)
      omega
  · intro h; exact Int.ediv_eq_zero_of_lt h0 h
theorem shape_join {f : Int} (hf : f = 1 ∨ f = 2) {b : Bool} {e fr : Int} (h : Fit f e fr) (h0 : 0 ≤ fr) :
    word_shape_join.f (shp f).1 (shp f).2.1 (shp f).2.2 b e fr = some (jw f b e fr) := by
  obtain ⟨a1, a2, a3⟩ := h
  unfold word_shape_join.f jw
  rcases hf with rfl | rfl
  · have e1 : shp 1 = (23, 255, 2147483648) := rfl
    have a4 : e ≤ 255 := a2
    have a5 : fr < 8388608 := a3
    have e2 : shl .u64 (IntKind.u64.wrap e) 23 = e * 8388608 := by
      have : shl .u64 (IntKind.u64.wrap e) 23 = IntKind.u64.wrap (IntKind.u64.wrap e * 8388608) := rfl
      rw [this, wrapu64, wrapu64]; omega
    rw [e1]
    simp only [e2, one, sgn, if_true]
    rw [join23 (by omega) (by omega) h0 (by omega), if_pos (by decide), or31 (by omega) (by omega)]
    cases b <;> rfl
  · have e1 : shp 2 = (52, 2047, 9223372036854775808) := rfl
    have a4 : e ≤ 2047 := a2
    have a5 : fr < 4503599627370496 := a3
    have e2 : shl .u64 (IntKind.u64.wrap e) 52 = e * 4503599627370496 := by
      have : shl .u64 (IntKind.u64.wrap e) 52 = IntKind.u64.wrap (IntKind.u64.wrap e * 4503599627370496) := rfl
      rw [this, wrapu64, wrapu64]; omega
    rw [e1]
    simp only [e2, one, sgn, show (¬ ((2 : Int) = 1)) by decide, if_false]
    rw [join52 (by omega) (by omega) h0 (by omega), if_pos (by decide), or63 (by omega) (by omega)]
    cases b <;> rfl
theorem join_good (k : Nat) {f : Int} (hf : f = 1 ∨ f = 2) {b : Bool} {e fr : Int} (h : Fit f e fr) (h0 : 0 ≤ fr) : word_Join.f (k + 1) f b e fr = some (jw f b e fr, 0) := by
  unfold word_Join.f
  rw [open_nil' k f]
  have hj := shape_join hf (b := b) h h0
  obtain ⟨a1, a2, a3⟩ := h
  have c1 : (shp f).2.1 = most f := by rcases hf with rfl | rfl <;> rfl
  have c2 : 0 ≤ (shp f).1 := by rcases hf with rfl | rfl <;> decide
  have c3 : shr .u64 fr (shp f).1 = 0 := by
    rcases hf with rfl | rfl
    · exact (div_zero_iff (P := 8388608) (by decide) h0).2 a3
    · exact (div_zero_iff (P := 4503599627370496) (by decide) h0).2 a3
  simp only [Option.bind_some, if_pos hf, if_true]
  rw [if_neg (by omega), if_neg (by omega), if_pos c2, if_pos c3, hj]
  rfl
theorem known03 (k : Nat) : cutplanelaw03_known.f (k + 2) = some true := by
  unfold cutplanelaw03_known.f
  rw [show k + 2 = (k + 1) + 1 from rfl, join_good (k + 1) (f := 1) (.inl rfl) (by unfold Fit most one; decide) (by decide), split_good k (f := 2) (.inr ⟨rfl, by decide, by decide⟩)]
  decide +kernel
theorem cl_flipw {f w : Int} (h : Gd f w) : cl f (flipw f w) = cl f w := by
  unfold cl
  have : flipw f w % sgn f = w % sgn f := by
    unfold flipw sgn
    rcases h with ⟨rfl, h0, h1⟩ | ⟨rfl, h0, h1⟩
    · simp only [if_true]; split <;> omega
    · simp only [show (¬ ((2 : Int) = 1)) by decide, if_false]; split <;> omega
  rw [this]
end Go.Proofs.YthiklmgdmaemgaaDoor.PA
end

section
namespace Go.Proofs.YthiklmgdmaemgaaDoor.PA
open Go.RowKit Go.Proofs.YthiklmgdmaemgaaDoorW.PrintWords Go.Proofs.YthiklmgdmaemgaaDoorW.PrintLast Go.Proofs.YthiklmgdmaemgaaDoorW.PrintMore Go.Proofs.YthiklmgdmaemgaaDoor.Wd
set_option linter.unusedSimpArgs false
set_option linter.unusedVariables false
theorem infw_lt (f : Int) : 0 ≤ infw f ∧ infw f < sgn f ∧ infw f < nanw f ∧ nanw f < sgn f ∧ one f < infw f ∧ 0 < one f := by unfold infw sgn nanw one; split <;> decide
theorem shape_inf {f : Int} (hf : f = 1 ∨ f = 2) : word_shape_inf.f (shp f).1 (shp f).2.1 (shp f).2.2 = some (infw f) := by
  rcases hf with rfl | rfl
  · exact shape_inf1
  · exact shape_inf2
end Go.Proofs.YthiklmgdmaemgaaDoor.PA
end

section
namespace Go.Proofs.YthiklmgdmaemgaaDoor.PA
open Go.RowKit Go.Proofs.YthiklmgdmaemgaaDoorW.PrintWords Go.Proofs.YthiklmgdmaemgaaDoorW.PrintLast Go.Proofs.YthiklmgdmaemgaaDoorW.PrintMore Go.Proofs.YthiklmgdmaemgaaDoor.Wd
set_option linter.unusedSimpArgs false
set_option linter.unusedVariables false
theorem size_pos (f w : Int) : 0 ≤ w % sgn f ∧ w % sgn f < sgn f := by
  rcases sgn_cases f with h | h <;> rw [h] <;> omega
theorem cl5 (f w : Int) : cl f w = 5 ↔ infw f < w % sgn f := by
  have h := size_pos f w
  have hi := infw_lt f
  unfold cl cls
  repeat' split
  all_goals constructor <;> intro <;> first | omega | (exfalso; omega)
def upw (f w : Int) : Option Int := if cl f w = 5 then some (nanw f) else if w = infw f then none else if w % sgn f = 0 then some 1 else if w ≥ sgn f then some (w - 1) else some (w + 1)
/-- a word lies below twice the sign -/
theorem gd_lt {f w : Int} (h : Gd f w) : 0 ≤ w ∧ w < 2 * sgn f ∧ (f = 1 ∨ f = 2) := by
  unfold sgn
  rcases h with ⟨rfl, h0, h1⟩ | ⟨rfl, h0, h1⟩
  · exact ⟨h0, by simp only [if_true]; omega, .inl rfl⟩
  · exact ⟨h0, by simp only [show (¬ ((2 : Int) = 1)) by decide, if_false]; omega, .inr rfl⟩
theorem gd_mk {f w : Int} (hf : f = 1 ∨ f = 2) (h0 : 0 ≤ w) (h1 : w < 2 * sgn f) : Gd f w := by
  unfold sgn at h1
  rcases hf with rfl | rfl
  · exact .inl ⟨rfl, h0, by simpa using h1⟩
  · exact .inr ⟨rfl, h0, by simpa using h1⟩
theorem size_lo {f w : Int} (h : Gd f w) : (w < sgn f ∧ w % sgn f = w) ∨ (sgn f ≤ w ∧ w % sgn f = w - sgn f) := by
  have := gd_lt h
  rcases sgn_cases f with e | e <;> rw [e] at this ⊢ <;> omega
theorem and_sgn {f w : Int} (h : Gd f w) : (Go.bits .and .u64 w (shp f).2.2 = 0) ↔ w < sgn f := by
  rw [shp3 h]
  rcases h with ⟨rfl, h0, h1⟩ | ⟨rfl, h0, h1⟩
  · have e : sgn 1 = 2147483648 := rfl
    rw [e, and31 h0 h1]
    split <;> omega
  · have e : sgn 2 = 9223372036854775808 := rfl
    rw [e, and63 h0 h1]
    split <;> omega
theorem andNot_sgn {f w : Int} (h : Gd f w) : Go.bits .andNot .u64 w (shp f).2.2 = w % sgn f := by
  rw [shp3 h]
  rcases h with ⟨rfl, h0, h1⟩ | ⟨rfl, h0, h1⟩
  · exact andNot31 h0 h1
  · exact andNot63 h0 h1
theorem up_good (k : Nat) {f w : Int} (h : Gd f w) : word_Up.f (k + 2) f w = some (match upw f w with | some u => (u, 0) | none => (0, 7)) := by
  have hg := gd_lt h
  have hs := sgn_cases f
  have hz := size_lo h
  unfold word_Up.f upw
  rw [open_one k f w h.u, h.err]
  simp only [Option.bind_some, if_true, shape_class h, shape_none h, shape_inf hg.2.2, andNot_sgn h, wrapu64]
  by_cases c : cl f w = 5
  · rw [if_pos c, if_pos c]
  · rw [if_neg c, if_neg c]
    by_cases d : w = infw f
    · rw [if_pos d, if_pos d]
    · rw [if_neg d, if_neg d]
      by_cases e : w % sgn f = 0
      · rw [if_pos e, if_pos e]
      · rw [if_neg e, if_neg e]
        by_cases g : w ≥ sgn f
        · rw [if_neg (fun z => by have := (and_sgn h).1 z; omega), if_pos g]
          simp only
          rw [Int.emod_eq_of_lt (by omega) (by omega)]
        · rw [if_pos ((and_sgn h).2 (by omega)), if_neg g]
          simp only
          rw [Int.emod_eq_of_lt (by omega) (by omega)]
theorem up_bad (k : Nat) {f w : Int} (hu : U w) (h : err f w ≠ 0) : word_Up.f (k + 2) f w = some (0, err f w) := by
  unfold word_Up.f
  rw [open_one k f w hu]
  simp only [Option.bind_some]
  rw [if_neg h]
theorem up_gd {f w u : Int} (h : Gd f w) (hu : upw f w = some u) : Gd f u ∧ (cl f u = 5 → u = nanw f) := by
  have hg := gd_lt h
  have hs := sgn_cases f
  have hz := size_lo h
  have hi := infw_lt f
  unfold upw at hu
  by_cases c : cl f w = 5
  · rw [if_pos c] at hu; obtain rfl := Option.some.inj hu; exact ⟨nan_gd h, fun _ => rfl⟩
  · rw [if_neg c] at hu
    have c5 : w % sgn f ≤ infw f := by have := mt (cl5 f w).2 c; omega
    have hu2 : Gd f u := by
      split at hu
      · cases hu
      · split at hu
        · obtain rfl := Option.some.inj hu; exact gd_mk hg.2.2 (by omega) (by omega)
        · split at hu
          · obtain rfl := Option.some.inj hu; exact gd_mk hg.2.2 (by omega) (by omega)
          · obtain rfl := Option.some.inj hu; exact gd_mk hg.2.2 (by omega) (by omega)
    refine ⟨hu2, fun z => ?_⟩
    have z5 := (cl5 f u).1 z
    have hz2 := size_lo hu2
    generalize u % sgn f = m at z5 hz2
    exfalso
    split at hu
    · cases hu
    · split at hu
      · obtain rfl := Option.some.inj hu; omega
      · split at hu
        · obtain rfl := Option.some.inj hu; omega
        · obtain rfl := Option.some.inj hu; omega
def downw (f w : Int) : Option Int := match upw f (negw f w) with | some u => some (negw f u) | none => none
theorem down_good (k : Nat) {f w : Int} (h : Gd f w) : word_Down.f (k + 2) f w = some (match downw f w with | some u => (u, 0) | none => (0, 7)) := by
  unfold word_Down.f downw
  rw [neg_good k h]
  simp only [Option.bind_some, if_true, up_good k (neg_gd h)]
  rcases hq : upw f (negw f w) with _ | u
  · simp
  · have g := up_gd (neg_gd h) hq
    simp [neg_good k g.1]
end Go.Proofs.YthiklmgdmaemgaaDoor.PA
end

section
namespace Go.Proofs.YthiklmgdmaemgaaDoor.PA
open Go.RowKit Go.Proofs.YthiklmgdmaemgaaDoorW.PrintWords Go.Proofs.YthiklmgdmaemgaaDoorW.PrintLast Go.Proofs.YthiklmgdmaemgaaDoorW.PrintMore Go.Proofs.YthiklmgdmaemgaaDoor.Wd
set_option linter.unusedSimpArgs false
set_option linter.unusedVariables false
/-- the place of a word that is no NaN -/
def plc (f w : Int) : Int := if w ≥ sgn f then -(w % sgn f) else w % sgn f
/-- how many least units a size is -/
def magn (P s : Nat) : Nat := if s / P = 0 then s % P else 2 ^ (s / P - 1) * (P + s % P)
theorem magn_mono {P s s' : Nat} (hP : 0 < P) (h : s < s') : magn P s < magn P s' := by
  have d1 := Nat.div_add_mod s P
  have d2 := Nat.div_add_mod s' P
  have m1 := Nat.mod_lt s hP
  have m2 := Nat.mod_lt s' hP
  have hd : s / P ≤ s' / P := Nat.div_le_div_right (by omega)
  unfold magn
  generalize s / P = E at *
  generalize s' / P = E' at *
  generalize s % P = F at *
  generalize s' % P = F' at *
  by_cases c : E = E'
  · subst c
    have hF : F < F' := by omega
    by_cases z : E = 0
    · rw [if_pos z, if_pos z]; exact hF
    · rw [if_neg z, if_neg z]
      exact Nat.mul_lt_mul_of_pos_left (by omega) (Nat.two_pow_pos _)
  · have hE' : E' ≠ 0 := by omega
    rw [if_neg hE']
    have up : (if E = 0 then F else 2 ^ (E - 1) * (P + F)) < 2 ^ E * P := by
      by_cases z : E = 0
      · rw [if_pos z, z, Nat.pow_zero, Nat.one_mul]; exact m1
      · rw [if_neg z]
        have e : 2 ^ E = 2 ^ (E - 1) * 2 := by rw [← Nat.pow_succ]; congr 1; omega
        rw [e, Nat.mul_assoc]
        exact Nat.mul_lt_mul_of_pos_left (by omega) (Nat.two_pow_pos _)
    have h1 : 2 ^ E * P ≤ 2 ^ (E' - 1) * P := Nat.mul_le_mul_right _ (Nat.pow_le_pow_right (by decide) (by omega))
    have h2 : 2 ^ (E' - 1) * P ≤ 2 ^ (E' - 1) * (P + F') := Nat.mul_le_mul_left _ (by omega)
    omega
theorem magn_zero {P : Nat} (hP : 0 < P) : magn P 0 = 0 := by
  unfold magn; simp
def lowe (f : Int) : Int := if f = 1 then -149 else -1074
theorem one_cases (f : Int) : (one f = 8388608 ∧ sgn f = 2147483648 ∧ lowe f = -149 ∧ (if f = 1 then (23 : Int) else 52) = 23) ∨ (one f = 4503599627370496 ∧ sgn f = 9223372036854775808 ∧ lowe f = -1074 ∧ (if f = 1 then (23 : Int) else 52) = 52) := by
  unfold one sgn lowe
  by_cases h : f = 1
  · left; simp [h]
  · right; simp [h]
theorem one_toNat (f : Int) : (((one f).toNat : Nat) : Int) = one f ∧ 0 < (one f).toNat := by
  rcases one_cases f with ⟨h, _⟩ | ⟨h, _⟩ <;> rw [h] <;> decide
theorem small_cap {y : Nat} (h : y < 9007199254740992) : y < 2 ^ 53 := h
def capn : Nat := 2100
theorem pow_cap {y j C : Nat} (hy : y < 2 ^ 53) (hj : j + 53 ≤ C) : 2 ^ j * y < 2 ^ C := by
  have h1 : 2 ^ j * y < 2 ^ j * 2 ^ 53 := Nat.mul_lt_mul_of_pos_left hy (Nat.two_pow_pos _)
  rw [← Nat.pow_add] at h1
  exact Nat.lt_of_lt_of_le h1 (Nat.pow_le_pow_right (by decide) hj)
theorem magn_cap {f s : Int} (h0 : 0 ≤ s) (h1 : s < sgn f) : magn (one f).toNat s.toNat < 2 ^ capn := by
  have hm : s.toNat % (one f).toNat < (one f).toNat := Nat.mod_lt _ (one_toNat f).2
  have ho : (one f).toNat ≤ 4503599627370496 := by rcases one_cases f with ⟨h, _⟩ | ⟨h, _⟩ <;> rw [h] <;> decide
  have hq : s.toNat / (one f).toNat ≤ 2048 := by
    apply Nat.div_le_of_le_mul
    rcases one_cases f with ⟨h, g, _⟩ | ⟨h, g, _⟩
    · rw [h]; rw [g] at h1
      have : (8388608 : Int).toNat = 8388608 := rfl
      rw [this]; omega
    · rw [h]; rw [g] at h1
      have : (4503599627370496 : Int).toNat = 4503599627370496 := rfl
      rw [this]; omega
  unfold magn
  generalize s.toNat / (one f).toNat = E at *
  generalize s.toNat % (one f).toNat = F at *
  generalize (one f).toNat = P at *
  have base : ∀ y j : Nat, y < 2 ^ 53 → j ≤ 2047 → 2 ^ j * y < 2 ^ capn := by
    intro y j hy hj
    exact pow_cap hy (show j + 53 ≤ capn by unfold capn; omega)
  split
  · have := base F 0 (small_cap (by omega)) (by omega)
    rw [Nat.pow_zero, Nat.one_mul] at this
    exact this
  · exact base (P + F) (E - 1) (small_cap (by omega)) (by omega)
/-- the value of a finite word, in least units -/
def zv (f w : Int) : Int := zs (decide (w ≥ sgn f)) (magn (one f).toNat (w % sgn f).toNat)
theorem zv_lt {f a b : Int} (h : plc f a < plc f b) : zv f a < zv f b := by
  have ha := size_pos f a
  have hb := size_pos f b
  have ho := (one_toNat f).2
  have mono : ∀ {x y : Int}, 0 ≤ x → x < y → magn (one f).toNat x.toNat < magn (one f).toNat y.toNat := fun h0 h1 => magn_mono ho (by omega)
  have z0 : magn (one f).toNat (0 : Int).toNat = 0 := magn_zero ho
  unfold plc at h
  unfold zv zs
  generalize a % sgn f = x at *
  generalize b % sgn f = y at *
  have nn : ∀ {x : Int}, 0 < x → 0 < magn (one f).toNat x.toNat := fun h0 => by have := mono (x := 0) (by omega) h0; omega
  by_cases ca : a ≥ sgn f
  · rw [if_pos ca] at h
    rw [if_pos (by simpa using ca)]
    by_cases cb : b ≥ sgn f
    · rw [if_pos cb] at h
      rw [if_pos (by simpa using cb)]
      have := mono hb.1 (show y < x by omega)
      omega
    · rw [if_neg cb] at h
      rw [if_neg (by simpa using cb)]
      by_cases c : 0 < x
      · have := nn c; omega
      · have : x = 0 := by omega
        subst this
        have := nn (show 0 < y by omega)
        rw [z0]; omega
  · rw [if_neg ca] at h
    rw [if_neg (by simpa using ca)]
    by_cases cb : b ≥ sgn f
    · rw [if_pos cb] at h; omega
    · rw [if_neg cb] at h
      rw [if_neg (by simpa using cb)]
      have := mono ha.1 (show x < y by omega)
      omega
theorem zv_eq {f a b : Int} (h : plc f a = plc f b) : zv f a = zv f b := by
  have ha := size_pos f a
  have hb := size_pos f b
  have ho := (one_toNat f).2
  have z0 : magn (one f).toNat (0 : Int).toNat = 0 := magn_zero ho
  unfold plc at h
  unfold zv zs
  generalize a % sgn f = x at *
  generalize b % sgn f = y at *
  by_cases ca : a ≥ sgn f
  · rw [if_pos ca] at h
    rw [if_pos (by simpa using ca)]
    by_cases cb : b ≥ sgn f
    · rw [if_pos cb] at h
      rw [if_pos (by simpa using cb)]
      have : x = y := by omega
      rw [this]
    · rw [if_neg cb] at h
      rw [if_neg (by simpa using cb)]
      have h1 : x = 0 := by omega
      have h2 : y = 0 := by omega
      rw [h1, h2, z0]; rfl
  · rw [if_neg ca] at h
    rw [if_neg (by simpa using ca)]
    by_cases cb : b ≥ sgn f
    · rw [if_pos cb] at h
      rw [if_pos (by simpa using cb)]
      have h1 : x = 0 := by omega
      have h2 : y = 0 := by omega
      rw [h1, h2, z0]; rfl
    · rw [if_neg cb] at h
      rw [if_neg (by simpa using cb)]
      have : x = y := by omega
      rw [this]
/-- one size more is one unit more -/
theorem magn_succ {P s : Nat} (hP : 0 < P) : magn P (s + 1) = magn P s + 2 ^ (s / P - 1) := by
  have key : ∀ E F, F < P → (P * E + F) / P = E ∧ (P * E + F) % P = F := by
    intro E F h
    refine ⟨?_, ?_⟩
    · rw [Nat.mul_add_div hP, Nat.div_eq_of_lt h, Nat.add_zero]
    · rw [Nat.mul_add_mod, Nat.mod_eq_of_lt h]
  have d1 := Nat.div_add_mod s P
  have m1 := Nat.mod_lt s hP
  generalize hE : s / P = E at *
  generalize hF : s % P = F at *
  have mS : magn P s = if E = 0 then F else 2 ^ (E - 1) * (P + F) := by unfold magn; rw [hE, hF]
  by_cases c : F + 1 < P
  · obtain ⟨k1, k2⟩ := key E (F + 1) c
    have e : s + 1 = P * E + (F + 1) := by omega
    rw [mS]
    unfold magn
    rw [e, k1, k2]
    by_cases z : E = 0
    · rw [if_pos z, if_pos z, z]
    · rw [if_neg z, if_neg z, ← Nat.add_assoc, Nat.mul_add _ (P + F), Nat.mul_one]
  · obtain ⟨k1, k2⟩ := key (E + 1) 0 hP
    have hm : P * (E + 1) = P * E + P := Nat.mul_succ P E
    have e : s + 1 = P * (E + 1) + 0 := by omega
    rw [mS]
    unfold magn
    rw [e, k1, k2, if_neg (by omega), Nat.add_sub_cancel, Nat.add_zero]
    by_cases z : E = 0
    · rw [if_pos z, z]
      simp only [Nat.pow_zero, Nat.one_mul, Nat.zero_sub]
      omega
    · rw [if_neg z]
      have e2 : 2 ^ E = 2 ^ (E - 1) * 2 := by rw [← Nat.pow_succ]; congr 1; omega
      have e3 : 2 ^ (E - 1) * (P + F) + 2 ^ (E - 1) = 2 ^ (E - 1) * (P + F + 1) := by rw [Nat.mul_add _ (P + F), Nat.mul_one]
      rw [e2, e3, Nat.mul_assoc]
      congr 1
      omega
end Go.Proofs.YthiklmgdmaemgaaDoor.PA
end

section
namespace Go.Proofs.YthiklmgdmaemgaaDoor.PA
open Go.RowKit Go.Proofs.YthiklmgdmaemgaaDoorW.PrintWords Go.Proofs.YthiklmgdmaemgaaDoorW.PrintLast Go.Proofs.YthiklmgdmaemgaaDoorW.PrintMore Go.Proofs.YthiklmgdmaemgaaDoor.Wd
set_option linter.unusedSimpArgs false
set_option linter.unusedVariables false
theorem trim_loop {l : List Int} (hd : Dg l) (hl : Sh l) : ∀ (i k : Nat), i ≤ l.length → i < k → nat_trim.l0 k (l.take i) = some (dg (vn (l.take i))) := by
  unfold Sh at hl
  intro i
  induction i with
  | zero =>
    intro k _ hk
    obtain ⟨k, rfl⟩ : ∃ m, k = m + 1 := ⟨k - 1, by omega⟩
    simp [nat_trim.l0, vn, dg_zero]
  | succ i ih =>
    intro k hi hk
    obtain ⟨k, rfl⟩ : ∃ m, k = m + 1 := ⟨k - 1, by omega⟩
    have hlen : (l.take (i + 1)).length = i + 1 := by rw [List.length_take]; omega
    have w1 : wrap64 (((l.take (i + 1)).length : Int) - 1) = (i : Int) := by rw [hlen]; unfold wrap64; omega
    have hlt : i < (l.take (i + 1)).length := by omega
    have hg : (l.take (i + 1))[i] = l[i] := by rw [List.getElem_take]
    rw [nat_trim.l0, w1, hlen, if_pos (by omega), if_pos (by omega), if_pos (by omega), rd_at _ i hlt, hg]
    by_cases z : l[i] = 0
    · rw [if_pos z, if_pos (by omega), Int.toNat_natCast, List.take_take, Nat.min_eq_left (by omega), ih k (by omega) (by omega), vn_take_zero (by omega) z]
    · rw [if_neg z]
      congr 1
      exact eq_dg (dg_take hd _) (nm_take (by omega) z)
theorem trim_val {l : List Int} (hd : Dg l) (hl : Sh l) (k : Nat) (hk : l.length < k) : nat_trim.f k l = some (dg (vn l)) := by
  have h := trim_loop hd hl l.length k (Nat.le_refl _) hk
  rw [List.take_length] at h
  exact h
theorem nat_of_val {n : Int} (h0 : 0 ≤ n) (h1 : n < 18446744073709551616) (k : Nat) (hk : 2 < k) : nat_Of.f k n = some (dg n.toNat) := by
  unfold nat_Of.f
  have hd : Dg [n % 4294967296, n / 4294967296 % 4294967296] := by
    intro d hm
    simp only [List.mem_cons, List.not_mem_nil, or_false] at hm
    rcases hm with rfl | rfl <;> constructor <;> omega
  rw [trim_val hd (by unfold Sh; simp) k hk]
  have e : vn [n % 4294967296, n / 4294967296 % 4294967296] = n.toNat := by simp only [vn]; omega
  rw [e]; rfl
theorem may_val {N : Nat} (hl : (dg N).length ≤ 4096) : nat_May.f (dg N) = some true := by
  unfold nat_May.f
  rw [if_pos (by omega)]
  by_cases z : (dg N).length = 0
  · rw [if_pos (by omega)]
  · have hN : N ≠ 0 := fun h => z (by rw [h, dg_zero]; rfl)
    have w1 : wrap64 (((dg N).length : Int) - 1) = (((dg N).length - 1 : Nat) : Int) := by unfold wrap64; omega
    have hlo := dg_lo hN
    have hhi := dg_hi N
    have hlt : (dg N).length - 1 < (dg N).length := by omega
    rw [if_neg (by omega), w1, if_pos (by omega), if_pos (by omega), rd_dg hlt]
    have e : N / 4294967296 ^ ((dg N).length - 1) ≠ 0 := by
      have := Nat.div_pos hlo (Nat.pos_of_ne_zero (by simp))
      omega
    have e2 : N / 4294967296 ^ ((dg N).length - 1) < 4294967296 := by
      rw [Nat.div_lt_iff_lt_mul (Nat.pos_of_ne_zero (by simp))]
      have : 4294967296 ^ (dg N).length = 4294967296 * 4294967296 ^ ((dg N).length - 1) := by rw [← Nat.pow_succ', Nat.succ_eq_add_one]; congr 1; omega
      omega
    rw [Nat.mod_eq_of_lt e2]
    congr 1
    simp only [bne_iff_ne, ne_eq]
    omega
theorem tz_val {d : Nat} (h : d < 4294967296) : bits_TrailingZeros32.f (d : Int) = some ((Go.Lib.ctz 32 d : Nat) : Int) := by
  unfold bits_TrailingZeros32.f
  rw [if_pos (by omega), Int.toNat_natCast]
theorem two_pow_odd {t t' m m' : Nat} (hm : m % 2 = 1) (hm' : m' % 2 = 1) (h : 2 ^ t * m = 2 ^ t' * m') : t = t' := by
  have := tzn_mul hm t
  have h2 := tzn_mul hm' t'
  rw [h] at this
  omega
theorem ctz_val {t m d : Nat} (hm : m % 2 = 1) (h : d = 2 ^ t * m) (hd : d < 4294967296) : Go.Lib.ctz 32 d = t := by
  have h0 : d ≠ 0 := by rw [h]; exact Nat.ne_of_gt (Nat.mul_pos (Nat.two_pow_pos _) (by omega))
  unfold Go.Lib.ctz
  rw [if_neg h0]
  obtain ⟨q, hq, _⟩ := Go.Lib.ctzFrom_spec 32 d (by omega) hd
  rw [h] at hq
  exact (two_pow_odd hm (by omega) hq).symm ▸ by rw [h]
/-- the low noughts of a number of at most two digits -/
theorem low_val {t m : Nat} (hm : m % 2 = 1) (hN : 2 ^ t * m < 18446744073709551616) (k : Nat) : nat_Low.f (k + 4) (dg (2 ^ t * m)) = some (t : Int) := by
  have h0 : 2 ^ t * m ≠ 0 := Nat.ne_of_gt (Nat.mul_pos (Nat.two_pow_pos _) (by omega))
  have hl : (dg (2 ^ t * m)).length ≤ 2 := dg_length_le (by omega)
  have hp := dg_len_pos h0
  have w1 : wrap64 (0 + 1) = 1 := by decide +kernel
  have e32 : wrap64 (32 * 0) = 0 := by decide +kernel
  have e33 : wrap64 (32 * 1) = 32 := by decide +kernel
  unfold nat_Low.f
  rw [may_val (by omega)]
  simp only [Option.bind_some, if_true]
  have hr0 : rd (dg (2 ^ t * m)) 0 = ((2 ^ t * m % 4294967296 : Nat) : Int) := by
    have := rd_dg (n := 2 ^ t * m) (i := 0) hp
    simpa using this
  rw [nat_Low.l0, if_pos (by omega), if_pos (by omega), if_pos (by omega), hr0]
  by_cases z : 2 ^ t * m % 4294967296 = 0
  · have ht : 32 ≤ t := by
      have := low_digit (t := t) (m := m) (q := 0) hm (by omega) (by simpa using z)
      omega
    have hl2 : (dg (2 ^ t * m)).length = 2 := by
      have : ¬ (dg (2 ^ t * m)).length ≤ 1 := by
        intro h
        have h1 := dg_hi (2 ^ t * m)
        have h2 : 4294967296 ^ (dg (2 ^ t * m)).length ≤ 4294967296 ^ 1 := Nat.pow_le_pow_right (by decide) h
        omega
      omega
    have e : 2 ^ t * m / 4294967296 = 2 ^ (t - 32) * m := by
      have : 2 ^ t = 4294967296 * 2 ^ (t - 32) := by rw [show (4294967296 : Nat) = 2 ^ 32 from rfl, ← Nat.pow_add]; congr 1; omega
      rw [this, Nat.mul_assoc, Nat.mul_div_cancel_left _ (by decide)]
    have hlt : 2 ^ (t - 32) * m < 4294967296 := by omega
    have hr1 : rd (dg (2 ^ t * m)) 1 = ((2 ^ (t - 32) * m : Nat) : Int) := by
      have := rd_dg (n := 2 ^ t * m) (i := 1) (by omega)
      rw [show (4294967296 : Nat) ^ 1 = 4294967296 from rfl, e, Nat.mod_eq_of_lt hlt] at this
      exact this
    have hne : 2 ^ (t - 32) * m ≠ 0 := Nat.ne_of_gt (Nat.mul_pos (Nat.two_pow_pos _) (by omega))
    rw [if_pos (by omega), w1, nat_Low.l0, if_pos (by omega), if_pos (by omega), if_pos (by omega), hr1, if_neg (by omega), tz_val hlt, ctz_val hm rfl hlt]
    simp only [Option.bind_some, e33]
    congr 1
    have : t < 64 := by
      have h1 : 2 ^ t * 1 ≤ 2 ^ t * m := Nat.mul_le_mul_left _ (by omega)
      have : 2 ^ t < 2 ^ 64 := by omega
      exact (Nat.pow_lt_pow_iff_right (by decide)).1 this
    unfold wrap64
    omega
  · have ht : t < 32 := by
      apply Nat.lt_of_not_le
      intro h
      apply z
      have : 2 ^ t = 4294967296 * 2 ^ (t - 32) := by rw [show (4294967296 : Nat) = 2 ^ 32 from rfl, ← Nat.pow_add]; congr 1; omega
      rw [this, Nat.mul_assoc]
      exact Nat.mul_mod_right _ _
    have e : 2 ^ t * m % 4294967296 = 2 ^ t * (m % 2 ^ (32 - t)) := by
      rw [show (4294967296 : Nat) = 2 ^ t * 2 ^ (32 - t) by rw [← Nat.pow_add, show t + (32 - t) = 32 by omega], Nat.mul_mod_mul_left]
    have hodd : m % 2 ^ (32 - t) % 2 = 1 := by
      rw [Nat.mod_mod_of_dvd _ (by rw [show 32 - t = (32 - t - 1) + 1 by omega, Nat.pow_succ]; exact Nat.dvd_mul_left _ _)]
      exact hm
    have hlt : 2 ^ t * m % 4294967296 < 4294967296 := Nat.mod_lt _ (by decide)
    rw [if_neg (by omega), tz_val hlt, ctz_val hodd e hlt]
    simp only [Option.bind_some, e32]
    congr 1
    unfold wrap64
    omega
theorem wraps_u32 (n : Int) (h₀ : 0 ≤ n) (h₁ : n < 2 ^ 32) : IntKind.u32.wrap n = n := by
  have e : IntKind.u32.wrap n = n % 4294967296 := by simp [IntKind.wrap, IntKind.signed, IntKind.bits]
  rw [e]; omega
theorem lt_cast {y : Nat} (h : y < 4294967296) : (y : Int) < 4294967296 := by omega
theorem or_low32 {y x i : Nat} (hy : y < 2 ^ i) (hx : x % 2 ^ i = 0) (hx1 : x < 4294967296) (hy1 : y < 4294967296) : Go.bits .or .u32 (y : Int) (x : Int) = ((y + x : Nat) : Int) := by
  have h := bits_join_low .u32 32 (by decide) wraps_u32 i (y : Int) (x : Int) (by omega) (by exact_mod_cast hy) (by omega) (by omega) (by exact_mod_cast hx) (by omega)
  rw [h]; omega
theorem shr32 {y s : Nat} (hs : s < 32) : shr .u32 (y : Int) (s : Int) = ((y / 2 ^ s : Nat) : Int) := by
  unfold shr
  have e : min ((s : Int)).toNat IntKind.u32.bits = s := by have : IntKind.u32.bits = 32 := rfl; omega
  rw [e]; push_cast; rfl
theorem dg1 {n : Nat} (h0 : n ≠ 0) (h : n < 4294967296) : dg n = [(n : Int)] := by
  rw [dg_pos h0, Nat.div_eq_of_lt h, dg_zero, Nat.mod_eq_of_lt h]
theorem dg2 {n : Nat} (h0 : ¬ n < 4294967296) (h : n < 18446744073709551616) : dg n = [((n % 4294967296 : Nat) : Int), ((n / 4294967296 : Nat) : Int)] := by
  rw [dg_pos (by omega), dg1 (by omega) (by omega)]
/-- one digit, shifted down -/
theorem down_one {d s : Nat} (hs : s < 32) (hd : d < 4294967296) (k : Nat) : nat_down.l0 (k + 5) [(d : Int)] (s : Int) [0] [(d : Int)] 1 0 = some (dg (d / 2 ^ s)) := by
  have l1 : (([(d : Int)] : List Int).length : Int) = 1 := rfl
  have l0 : (([(0 : Int)] : List Int).length : Int) = 1 := rfl
  have r0 : rd [(d : Int)] 0 = d := rfl
  have w1 : wrap64 (0 + 1) = 1 := by decide +kernel
  have hq : d / 2 ^ s < 4294967296 := Nat.lt_of_le_of_lt (Nat.div_le_self _ _) hd
  rw [nat_down.l0, if_pos (by decide), if_pos (by decide), l1, l0, if_pos (by decide), if_pos (by omega), if_pos (by decide), r0, shr32 hs]
  simp only [Option.bind_some, w1, Int.lt_irrefl, if_false]
  have e : ([(0 : Int)] : List Int).set (0 : Int).toNat ((d / 2 ^ s : Nat) : Int) = [((d / 2 ^ s : Nat) : Int)] := rfl
  rw [e, nat_down.l0, if_neg (by decide), trim_val (dg_one (Int.natCast_nonneg _) (lt_cast hq)) (by unfold Sh; simp) _ (by simp)]
  simp only [Option.bind_some, vn]
  congr 2
/-- two digits, shifted down by less than one -/
theorem down_two {lo hi s : Nat} (hs : s < 32) (hl : lo < 4294967296) (hh : hi < 4294967296) (k : Nat) : nat_down.l0 (k + 8) [(lo : Int), (hi : Int)] (s : Int) [0, 0] [(lo : Int), (hi : Int)] 2 0 = some (dg ((lo + 4294967296 * hi) / 2 ^ s)) := by
  have l1 : (([(lo : Int), (hi : Int)] : List Int).length : Int) = 2 := rfl
  have l2 : ∀ x y : Int, (([x, y] : List Int).length : Int) = 2 := fun _ _ => rfl
  have r0 : rd [(lo : Int), (hi : Int)] 0 = lo := rfl
  have r1 : rd [(lo : Int), (hi : Int)] 1 = hi := rfl
  have r2 : ∀ x y : Int, rd [x, y] 0 = x := fun _ _ => rfl
  have w1 : wrap64 (0 + 1) = 1 := by decide +kernel
  have w2 : wrap64 (1 + 1) = 2 := by decide +kernel
  have w3 : wrap64 (32 - (s : Int)) = ((32 - s : Nat) : Int) := by unfold wrap64; omega
  have hq : lo / 2 ^ s < 2 ^ (32 - s) := by
    rw [Nat.div_lt_iff_lt_mul (Nat.two_pow_pos s), ← Nat.pow_add, show 32 - s + s = 32 by omega]; exact hl
  have hq2 : lo / 2 ^ s < 4294967296 := Nat.lt_of_le_of_lt (Nat.div_le_self _ _) hl
  have hq3 : hi / 2 ^ s < 4294967296 := Nat.lt_of_le_of_lt (Nat.div_le_self _ _) hh
  have s0 : ∀ x y z : Int, ([x, y] : List Int).set (0 : Int).toNat z = [z, y] := fun _ _ _ => rfl
  have s1 : ∀ x y z : Int, ([x, y] : List Int).set (1 : Int).toNat z = [x, z] := fun _ _ _ => rfl
  have hx : hi * 2 ^ (32 - s) % 4294967296 % 2 ^ (32 - s) = 0 := by
    rw [Nat.mod_mod_of_dvd _ ⟨2 ^ s, by rw [← Nat.pow_add, show 32 - s + s = 32 by omega]⟩]
    exact Nat.mul_mod_left _ _
  have hor := or_low32 hq hx (Nat.mod_lt _ (by decide)) hq2
  rw [nat_down.l0, if_pos (by decide), if_pos (by decide), l1, l2, if_pos (by decide), if_pos (by omega), if_pos (by decide), r0, shr32 hs]
  simp only [Option.bind_some, w1, s0, l1]
  rw [if_pos (by decide), if_pos (by decide), w3, if_pos (by omega), r2, r1, u64_of (by omega), shl_nat (by omega) hh, cast_mod, hor, nat_down.l0, if_pos (by decide), if_pos (by decide), l1, l2, if_pos (by decide), if_pos (by omega), if_pos (by decide), r1, shr32 hs]
  simp only [Option.bind_some, w2, s1, l1, Int.lt_irrefl, if_false]
  have hlo : lo / 2 ^ s + hi * 2 ^ (32 - s) % 4294967296 < 4294967296 := by
    have a1 : hi * 2 ^ (32 - s) % 4294967296 + 2 ^ (32 - s) ≤ 4294967296 := by
      have hd : 2 ^ (32 - s) ∣ hi * 2 ^ (32 - s) % 4294967296 := Nat.dvd_of_mod_eq_zero hx
      have hd2 : 2 ^ (32 - s) ∣ 4294967296 := ⟨2 ^ s, by rw [← Nat.pow_add, show 32 - s + s = 32 by omega]⟩
      have hlt : hi * 2 ^ (32 - s) % 4294967296 < 4294967296 := Nat.mod_lt _ (by decide)
      obtain ⟨x, hx⟩ := hd
      obtain ⟨y, hy⟩ := hd2
      rw [hx] at hlt ⊢
      generalize 2 ^ (32 - s) = P at *
      rw [hy] at hlt
      have : x < y := Nat.lt_of_mul_lt_mul_left hlt
      have h2 : P * (x + 1) ≤ P * y := Nat.mul_le_mul_left _ this
      rw [Nat.mul_add, Nat.mul_one] at h2
      rw [hy]; exact h2
    omega
  rw [nat_down.l0, if_neg (by decide), trim_val (by
    intro d hm
    simp only [List.mem_cons, List.not_mem_nil, or_false] at hm
    rcases hm with rfl | rfl
    · exact ⟨Int.natCast_nonneg _, lt_cast hlo⟩
    · exact ⟨Int.natCast_nonneg _, lt_cast hq3⟩) (by unfold Sh; simp) _ (by simp)]
  simp only [Option.bind_some, vn]
  have e : (lo + 4294967296 * hi) / 2 ^ s = lo / 2 ^ s + 2 ^ (32 - s) * hi := div_step hs
  have key : ((lo / 2 ^ s + hi * 2 ^ (32 - s) % 4294967296 : Nat) : Int).toNat + 4294967296 * (((hi / 2 ^ s : Nat) : Int).toNat + 4294967296 * 0) = (lo + 4294967296 * hi) / 2 ^ s := by
    rw [e, Int.toNat_natCast, Int.toNat_natCast]
    have h1 : 2 ^ (32 - s) * hi / 4294967296 = hi / 2 ^ s := by
      have : (4294967296 : Nat) = 2 ^ (32 - s) * 2 ^ s := by rw [← Nat.pow_add, show 32 - s + s = 32 by omega]
      rw [this, Nat.mul_div_mul_left _ _ (Nat.two_pow_pos _)]
    have h2 := Nat.div_add_mod (2 ^ (32 - s) * hi) 4294967296
    rw [h1] at h2
    rw [Nat.mul_comm hi]
    generalize 2 ^ (32 - s) * hi = z at *
    generalize hi / 2 ^ s = v at *
    omega
  rw [key]
theorem down_val {N t : Nat} (h0 : N ≠ 0) (hN : N < 18446744073709551616) (ht : t < 64) (htop : t < 32 * (dg N).length) (k : Nat) : nat_down.f (k + 8) (dg N) (t : Int) = some (dg (N / 2 ^ t)) := by
  have hT : Int.tdiv (t : Int) 32 = ((t / 32 : Nat) : Int) := by rw [Int.tdiv_eq_ediv_of_nonneg (by omega)]; omega
  have hM : Int.tmod (t : Int) 32 = ((t % 32 : Nat) : Int) := by rw [Int.tmod_eq_emod_of_nonneg (by omega)]; omega
  have w1 : wrap64 ((t / 32 : Nat) : Int) = ((t / 32 : Nat) : Int) := by unfold wrap64; omega
  have hs : t % 32 < 32 := Nat.mod_lt _ (by decide)
  unfold nat_down.f
  rw [hT, hM, w1, if_neg (by omega), if_pos (by omega), if_pos (by omega), Int.toNat_natCast]
  by_cases c : N < 4294967296
  · rw [dg1 h0 c] at *
    have z : t / 32 = 0 := by simp at htop; omega
    have e : t % 32 = t := by omega
    rw [z, e]
    simp only [List.drop_zero, List.length_singleton]
    rw [if_pos (by decide), if_pos (by decide)]
    exact down_one (by omega) c (k + 3)
  · rw [dg2 c hN] at *
    by_cases z : t / 32 = 0
    · have e : t % 32 = t := by omega
      rw [z, e]
      simp only [List.drop_zero]
      have l2 : ∀ x y : Int, (([x, y] : List Int).length : Int) = 2 := fun _ _ => rfl
      rw [l2, if_pos (by decide), if_pos (by decide)]
      have h := down_two (s := t) (lo := N % 4294967296) (hi := N / 4294967296) (by omega) (Nat.mod_lt _ (by decide)) (by omega) k
      rw [show N % 4294967296 + 4294967296 * (N / 4294967296) = N by omega] at h
      exact h
    · have z1 : t / 32 = 1 := by omega
      rw [z1]
      simp only [List.drop_succ_cons, List.drop_zero, List.length_singleton]
      rw [if_pos (by decide), if_pos (by decide)]
      have h := down_one (s := t % 32) (d := N / 4294967296) hs (by omega) (k + 3)
      have e : N / 4294967296 / 2 ^ (t % 32) = N / 2 ^ t := by
        rw [Nat.div_div_eq_div_mul, show (4294967296 : Nat) = 2 ^ 32 from rfl, ← Nat.pow_add]
        congr 2; omega
      rw [e] at h
      exact h
/-- nothing shifted up -/
theorem up_loop0 {l : List Int} (hd : Dg l) (hl : l.length < 1000) : ∀ (d i k : Nat) (out : List Int), l.length - i = d → i ≤ l.length → out = l.take i → 2 * d + l.length + 3 < k → nat_up.l0 k out 0 0 l (l.length : Int) (i : Int) = some (dg (vn l)) := by
  intro d
  induction d with
  | zero =>
    intro i k out h1 h2 ho hk
    obtain ⟨k, rfl⟩ : ∃ m, k = m + 1 := ⟨k - 1, by omega⟩
    have hi : i = l.length := by omega
    subst hi
    rw [List.take_length] at ho
    subst ho
    rw [nat_up.l0, if_neg (by omega), if_pos (by omega), trim_val (dg_append hd (dg_one (by decide) (by decide))) (by unfold Sh; simp; omega) k (by simp; omega)]
    simp only [Option.bind_some]
    rw [vn_append]
    simp only [vn, Int.toNat_zero, Nat.mul_zero, Nat.add_zero]
  | succ d ih =>
    intro i k out h1 h2 ho hk
    obtain ⟨k, rfl⟩ : ∃ m, k = m + 1 := ⟨k - 1, by omega⟩
    have hlt : i < l.length := by omega
    have hm := dg_mem hd hlt
    have w1 : wrap64 ((i : Int) + 1) = ((i + 1 : Nat) : Int) := by unfold wrap64; omega
    have w2 : wrap64 (32 - 0) = 32 := by decide +kernel
    have hr := rd_at l i hlt
    obtain ⟨y, hy⟩ : ∃ y : Nat, l[i] = (y : Int) := ⟨l[i].toNat, by omega⟩
    have hsl : shl .u32 (y : Int) 0 = (y : Int) := by
      unfold shl
      have e : min ((0 : Int)).toNat IntKind.u32.bits = 0 := by simp
      rw [e]
      simp only [Int.pow_zero, Int.mul_one]
      exact wraps_u32 _ (by omega) (by omega)
    have hor : Go.bits .or .u32 (y : Int) 0 = (y : Int) := by
      have := or_low32 (y := y) (x := 0) (i := 32) (by omega) (by simp) (by omega) (by omega)
      simpa using this
    have hsr : shr .u64 (IntKind.u64.wrap (y : Int)) 32 % 4294967296 = 0 := by
      have := shr_nat (y := y) (s := 32) (by omega)
      rw [u64_of (by omega)]
      rw [show ((32 : Nat) : Int) = 32 from rfl] at this
      rw [this, Nat.div_eq_of_lt (by omega)]; rfl
    have hlo : out.length = i := by rw [ho, List.length_take]; omega
    rw [nat_up.l0, if_pos (by omega), if_pos (by omega), if_pos (by omega), if_pos (by decide), if_pos (by omega), w2, if_pos (by decide), w1, hr, hy, hsl, hor, hsr]
    exact ih (i + 1) k _ (by omega) (by omega) (by rw [ho, ← hy, List.take_succ_eq_append_getElem hlt]) (by omega)
theorem up_val0 {N : Nat} (hl : (dg N).length ≤ 2) (k : Nat) : nat_up.f (k + 12) (dg N) 0 = some (dg N) := by
  unfold nat_up.f
  by_cases z : (dg N).length = 0
  · have := List.length_eq_zero_iff.1 z
    rw [if_pos (by omega), this]
  · have t0 : Int.tdiv 0 32 = 0 := by decide
    have m0 : Int.tmod 0 32 = 0 := by decide
    have w0 : wrap64 0 = 0 := by decide +kernel
    have w1 : wrap64 (wrap64 (0 + ((dg N).length : Int)) + 1) = ((dg N).length : Int) + 1 := by unfold wrap64; omega
    rw [if_neg (by omega), t0, m0, w0, w1, if_pos (by decide), if_pos (by omega), if_pos (by omega)]
    have h := up_loop0 (dg_dg N) (by omega) (dg N).length 0 (k + 12) [] (by omega) (by omega) (by simp) (by omega)
    rw [vn_dg] at h
    exact h
theorem len32_some {d : Nat} (h : d < 4294967296) : ∃ n : Int, bits_Len32.f (d : Int) = some n ∧ 0 ≤ n ∧ n ≤ 300 := by
  unfold bits_Len32.f
  have hw : ∀ x y : Int, 0 ≤ x → x ≤ 255 → 0 ≤ y → y ≤ 30 → 0 ≤ wrap64 (y + wrap64 x) ∧ wrap64 (y + wrap64 x) ≤ 300 := by
    intro x y h0 h1 h2 h3
    unfold wrap64; omega
  repeat' split
  all_goals first
    | exact ⟨_, rfl, hw _ _ (bt_range _ _).1 (bt_range _ _).2 (by decide) (by decide)⟩
    | (exfalso; omega)
theorem len_some {N : Nat} (h0 : N ≠ 0) (hN : N < 18446744073709551616) : ∃ n : Int, nat_Len.f (dg N) = some n ∧ 0 ≤ n ∧ n ≤ 400 := by
  have hl : (dg N).length ≤ 2 := dg_length_le (by omega)
  have hp := dg_len_pos h0
  have w1 : wrap64 (((dg N).length : Int) - 1) = (((dg N).length - 1 : Nat) : Int) := by unfold wrap64; omega
  have hlt : (dg N).length - 1 < (dg N).length := by omega
  have hd : N / 4294967296 ^ ((dg N).length - 1) % 4294967296 < 4294967296 := Nat.mod_lt _ (by decide)
  obtain ⟨n, hn, n0, n1⟩ := len32_some hd
  unfold nat_Len.f
  rw [may_val (by omega)]
  simp only [Option.bind_some, if_true]
  rw [if_neg (by omega), w1, if_pos (by omega), if_pos (by omega), rd_dg hlt, hn]
  refine ⟨_, rfl, ?_⟩
  unfold wrap64
  omega
/-- a number in its one form -/
theorem make_val {N : Nat} (hN : N < 18446744073709551616) (neg : Bool) {e : Int} (e0 : -10000 < e) (e1 : e < 10000) (k : Nat) : dyad_Make.f (k + 16) neg (dg N) e = some ((fm neg N e).1, (fm neg N e).2.1, (fm neg N e).2.2, 0) := by
  have hl : (dg N).length ≤ 2 := dg_length_le (by omega)
  unfold dyad_Make.f
  rw [may_val (by omega)]
  simp only [Option.bind_some, if_true]
  by_cases h0 : N = 0
  · subst h0
    rw [dg_zero]; rfl
  · have hp := dg_len_pos h0
    obtain ⟨t, m, hNm, hm⟩ := odd_part h0
    subst hNm
    have ht : t < 64 := by
      have h1 : 2 ^ t * 1 ≤ 2 ^ t * m := Nat.mul_le_mul_left _ (by omega)
      have : 2 ^ t < 2 ^ 64 := by omega
      exact (Nat.pow_lt_pow_iff_right (by decide)).1 this
    have w1 : wrap64 (16777216 - (t : Int)) = 16777216 - t := by unfold wrap64; omega
    have w2 : wrap64 (-16777216 - (t : Int)) = -16777216 - t := by unfold wrap64; omega
    have w3 : wrap64 (e + (t : Int)) = e + t := by unfold wrap64; omega
    have w4 : wrap64 (-(t : Int)) = -(t : Int) := by unfold wrap64; omega
    have w5 : wrap64 (-(-(t : Int))) = (t : Int) := by unfold wrap64; omega
    rw [if_neg (by omega), low_val hm hN (k + 12)]
    simp only [Option.bind_some]
    rw [w1, w2, w3, w4, if_neg (by omega), if_neg (by omega), fm_mk hm]
    unfold nat_Shift.f
    rw [may_val (by omega)]
    simp only [Option.bind_some, if_true]
    rw [if_neg (by omega), if_neg (by omega)]
    by_cases t0 : t = 0
    · subst t0
      obtain ⟨n, hn, n0, n1⟩ := len_some h0 hN
      have w6 : wrap64 (131072 - n) = 131072 - n := by unfold wrap64; omega
      have z : (-((0 : Nat) : Int)) = 0 := rfl
      rw [z, if_neg (by omega), hn]
      simp only [Option.bind_some]
      rw [w6, if_neg (by omega), up_val0 hl (k + 4)]
      simp only [Option.bind_some]
      rw [Nat.pow_zero, Nat.one_mul]
    · rw [if_pos (by omega), w5, down_val h0 hN ht (tz_lt hm) (k + 8)]
      simp only [Option.bind_some]
      rw [low_val hm hN (k + 12)]
      simp only [Option.bind_some]
      rw [Nat.mul_div_cancel_left _ (Nat.two_pow_pos _)]
end Go.Proofs.YthiklmgdmaemgaaDoor.PA
end

section
namespace Go.Proofs.YthiklmgdmaemgaaDoor.PA
open Go.RowKit Go.Proofs.YthiklmgdmaemgaaDoorW.PrintWords Go.Proofs.YthiklmgdmaemgaaDoorW.PrintLast Go.Proofs.YthiklmgdmaemgaaDoorW.PrintMore Go.Proofs.YthiklmgdmaemgaaDoor.Wd
set_option linter.unusedSimpArgs false
set_option linter.unusedVariables false
theorem fin_good (k : Nat) {f w : Int} (h : Gd f w) : word_finite.f (k + 2) f w = some ((shp f).1, (shp f).2.1, (shp f).2.2, if cl f w ≥ 4 then 7 else 0) := by
  unfold word_finite.f
  rw [open_one k f w h.u, h.err]
  simp only [Option.bind_some, if_true, shape_class h]
  split <;> rfl
theorem fin_bad (k : Nat) {f w : Int} (hu : U w) (h : err f w ≠ 0) : word_finite.f (k + 2) f w = some ((shp f).1, (shp f).2.1, (shp f).2.2, err f w) := by
  unfold word_finite.f
  rw [open_one k f w hu]
  simp only [Option.bind_some, if_neg h]
theorem split_shape {f w : Int} (h : Gd f w) : word_shape_split.f (shp f).1 (shp f).2.1 (shp f).2.2 w = some (decide (w ≥ sgn f), w % sgn f / one f, w % one f) := by
  have e := split_good 0 h
  unfold word_Split.f at e
  rw [open_one 0 f w h.u, h.err] at e
  simp only [Option.bind_some, if_true] at e
  obtain ⟨x, hx, e⟩ := Option.bind_eq_some_iff.mp e
  rw [hx]
  obtain ⟨x1, x2, x3⟩ := x
  simp only [Option.some.injEq, Prod.mk.injEq, and_true] at e
  obtain ⟨rfl, rfl, rfl⟩ := e
  rfl
theorem low_shape {f : Int} (hf : f = 1 ∨ f = 2) : word_shape_low.f (shp f).1 (shp f).2.1 (shp f).2.2 = some (lowe f) := by
  rcases hf with rfl | rfl <;> decide +kernel
/-- the bits of a word's unit, above the least one -/
def ub (f w : Int) : Nat := (w % sgn f).toNat / (one f).toNat - 1
theorem shl_one {f : Int} (hf : f = 1 ∨ f = 2) : 0 ≤ (shp f).1 ∧ shl .u64 1 (shp f).1 = (((one f).toNat : Nat) : Int) ∧ ∃ i, (one f).toNat = 2 ^ i := by
  rcases hf with rfl | rfl
  · exact ⟨by decide, by decide +kernel, 23, by decide⟩
  · exact ⟨by decide, by decide +kernel, 52, by decide⟩
theorem val_core {f w : Int} (h : Gd f w) : ∃ E F : Nat, w % sgn f / one f = (E : Int) ∧ w % one f = (F : Int) ∧ (w % sgn f).toNat / (one f).toNat = E ∧ (w % sgn f).toNat % (one f).toNat = F ∧ F < (one f).toNat ∧ E < 2200 ∧ (one f).toNat ≤ 4503599627370496 := by
  have hs := size_pos f w
  have ho := one_toNat f
  have hl : (one f).toNat ≤ 4503599627370496 := by rcases one_cases f with ⟨a, _⟩ | ⟨a, _⟩ <;> rw [a] <;> decide
  have eS : w % one f = w % sgn f % one f := by
    rcases one_cases f with ⟨a, b, _⟩ | ⟨a, b, _⟩ <;> rw [a, b] <;> omega
  have hE : w % sgn f / one f < 2200 := by
    rcases one_cases f with ⟨a, b, _⟩ | ⟨a, b, _⟩ <;> rw [a, b] at * <;> omega
  rw [eS]
  generalize w % sgn f = s at *
  have e1 : s / one f = ((s.toNat / (one f).toNat : Nat) : Int) := by
    rw [Int.natCast_ediv, ho.1, Int.toNat_of_nonneg hs.1]
  have e2 : s % one f = ((s.toNat % (one f).toNat : Nat) : Int) := by
    rw [Int.natCast_emod, ho.1, Int.toNat_of_nonneg hs.1]
  exact ⟨_, _, e1, e2, rfl, rfl, Nat.mod_lt _ ho.2, by omega, hl⟩
theorem low_b (f : Int) : -1100 < lowe f ∧ lowe f < 0 := by unfold lowe; split <;> decide
theorem val_good {f w : Int} (h : Gd f w) (h4 : cl f w < 4) (k : Nat) : word_Value.f (k + 20) f w = some ((fm (decide (w ≥ sgn f)) (magn (one f).toNat (w % sgn f).toNat) (lowe f)).1, (fm (decide (w ≥ sgn f)) (magn (one f).toNat (w % sgn f).toNat) (lowe f)).2.1, (fm (decide (w ≥ sgn f)) (magn (one f).toNat (w % sgn f).toNat) (lowe f)).2.2, 0) := by
  have hf := (gd_lt h).2.2
  obtain ⟨s0, s1, i, hi⟩ := shl_one hf
  obtain ⟨E, F, e1, e2, e3, e4, hF, hE, ho⟩ := val_core h
  have hb := low_b f
  unfold word_Value.f
  rw [show k + 20 = (k + 18) + 2 from rfl, fin_good (k + 18) h, if_neg (show ¬ cl f w ≥ 4 by omega)]
  simp only [Option.bind_some, if_true, split_shape h, low_shape hf]
  rw [if_pos s0, s1, e1, e2]
  unfold magn
  rw [e3, e4]
  by_cases z : E = 0
  · subst z
    have w1 : wrap64 (wrap64 (mx ((0 : Nat) : Int) 1 - 1) + lowe f) = lowe f := by
      have : mx ((0 : Nat) : Int) 1 = 1 := by decide
      rw [this]; unfold wrap64; omega
    rw [if_neg (by decide), if_pos rfl, nat_of_val (by omega) (by omega) _ (by omega), w1]
    simp only [Option.bind_some, Int.toNat_natCast]
    rw [show k + 18 + 2 = (k + 4) + 16 from rfl, make_val (by omega) _ (by omega) (by omega)]
    rfl
  · have w1 : wrap64 (wrap64 (mx (E : Int) 1 - 1) + lowe f) = lowe f + ((E - 1 : Nat) : Int) := by
      have : mx (E : Int) 1 = (E : Int) := by unfold mx; split <;> omega
      rw [this]; unfold wrap64; omega
    have hor : Go.bits .or .u64 (F : Int) (((one f).toNat : Nat) : Int) = ((F + (one f).toNat : Nat) : Int) := or_low (i := i) (by omega) (by rw [hi]; exact Nat.mod_self _) (by omega) (by omega)
    rw [if_pos (by omega), if_neg z, hor, nat_of_val (by omega) (by omega) _ (by omega), w1]
    simp only [Option.bind_some, Int.toNat_natCast]
    rw [show k + 18 + 2 = (k + 4) + 16 from rfl, make_val (by omega) _ (by omega) (by omega), fm_shift, Nat.add_comm F]
    rfl
theorem unit_good {f w : Int} (h : Gd f w) (h4 : cl f w < 4) (k : Nat) : word_Unit.f (k + 20) f w = some ((fm false (2 ^ ub f w) (lowe f)).1, (fm false (2 ^ ub f w) (lowe f)).2.1, (fm false (2 ^ ub f w) (lowe f)).2.2, 0) := by
  have hf := (gd_lt h).2.2
  obtain ⟨E, F, e1, e2, e3, e4, hF, hE, ho⟩ := val_core h
  have hb := low_b f
  unfold word_Unit.f
  rw [show k + 20 = (k + 18) + 2 from rfl, fin_good (k + 18) h, if_neg (show ¬ cl f w ≥ 4 by omega)]
  simp only [Option.bind_some, if_true, split_shape h, low_shape hf]
  unfold ub
  rw [e1, e3]
  have w1 : wrap64 (wrap64 (mx (E : Int) 1 - 1) + lowe f) = lowe f + ((E - 1 : Nat) : Int) := by
    unfold mx; unfold wrap64; split <;> omega
  rw [nat_of_val (by decide) (by decide) _ (by omega), w1]
  simp only [Option.bind_some]
  rw [show k + 18 + 2 = (k + 4) + 16 from rfl, make_val (by decide) _ (by omega) (by omega)]
  have e := fm_shift (neg := false) (N := 1) (j := E - 1) (e := lowe f)
  rw [Nat.mul_one] at e
  rw [e]
  rfl
theorem val_bad {f w : Int} (hu : U w) (h : err f w ≠ 0 ∨ cl f w ≥ 4) (k : Nat) : ∃ e, e ≠ 0 ∧ word_Value.f (k + 20) f w = some (false, [], 0, e) := by
  by_cases he : err f w = 0
  · have g := gd_of he hu
    have h4 : cl f w ≥ 4 := h.resolve_left fun c => c he
    refine ⟨7, by decide, ?_⟩
    unfold word_Value.f
    rw [show k + 20 = (k + 18) + 2 from rfl, fin_good (k + 18) g, if_pos h4]
    rfl
  · refine ⟨err f w, he, ?_⟩
    unfold word_Value.f
    rw [show k + 20 = (k + 18) + 2 from rfl, fin_bad (k + 18) hu he]
    simp only [Option.bind_some, if_neg he]
end Go.Proofs.YthiklmgdmaemgaaDoor.PA
end

section
namespace Go.Proofs.YthiklmgdmaemgaaDoor.Pure
open Go.RowKit Go.Proofs.YthiklmgdmaemgaaDoor.PA Go.Proofs.YthiklmgdmaemgaaDoorW.PrintWords Go.Proofs.YthiklmgdmaemgaaDoorW.PrintLast Go.Proofs.YthiklmgdmaemgaaDoor.Wd
set_option linter.unusedSimpArgs false
set_option linter.unusedVariables false
theorem same_loop {l m : List Int} (h : l.length = m.length) (hl : l.length < 1099511627776) (d : Nat) : ∀ (k i : Nat), l.length - i = d → i ≤ l.length → d < k → ∃ b, cutplaneref01_Same.l0 k l m (i : Int) = some b ∧ (l = m → b = true) := by
  induction d with
  | zero =>
    intro k i hi h1 hk
    obtain ⟨k, rfl⟩ : ∃ m, k = m + 1 := ⟨k - 1, by omega⟩
    rw [cutplaneref01_Same.l0, if_neg (by omega)]
    exact ⟨true, rfl, fun _ => rfl⟩
  | succ d ih =>
    intro k i hi h1 hk
    obtain ⟨k, rfl⟩ : ∃ m, k = m + 1 := ⟨k - 1, by omega⟩
    have w1 : wrap64 ((i : Int) + 1) = ((i + 1 : Nat) : Int) := by unfold wrap64; omega
    rw [cutplaneref01_Same.l0, if_pos (by omega), if_pos (by omega), if_pos (by omega), w1]
    by_cases c : rd l (i : Int) = rd m (i : Int)
    · rw [if_pos c]
      exact ih k (i + 1) (by omega) (by omega) (by omega)
    · rw [if_neg c]
      exact ⟨false, rfl, fun e => absurd (by rw [e]) c⟩
theorem same_tot {a b : Bool × List Int × Int} (ha : a.2.1.length < 100000) (k : Nat) (hk : 100000 < k) : ∃ r, cutplaneref02_Same.f k a.1 a.2.1 a.2.2 b.1 b.2.1 b.2.2 = some r ∧ (a = b → r = true) := by
  unfold cutplaneref02_Same.f
  by_cases c1 : a.1 = b.1
  · rw [if_pos (by simpa using c1)]
    by_cases c2 : a.2.2 = b.2.2
    · rw [if_pos c2]
      unfold cutplaneref01_Same.f
      by_cases c3 : a.2.1.length = b.2.1.length
      · rw [if_pos (by rw [c3])]
        obtain ⟨r, e, h⟩ := same_loop c3 (by omega) a.2.1.length k 0 (by omega) (by omega) (by omega)
        rw [show ((0 : Nat) : Int) = 0 from rfl] at e
        rw [e]
        exact ⟨r, rfl, fun q => h (by rw [q])⟩
      · rw [if_neg (by omega)]
        exact ⟨false, rfl, fun e => absurd (by rw [e]) c3⟩
    · rw [if_neg c2]
      exact ⟨false, rfl, fun e => absurd (by rw [e]) c2⟩
  · rw [if_neg (by simpa using c1)]
    exact ⟨false, rfl, fun e => absurd (by rw [e]) c1⟩
theorem fm_len {neg : Bool} {N C : Nat} {e : Int} (h : N < 2 ^ C) (hC : C ≤ 100000) : (fm neg N e).2.1.length < 100000 := by
  by_cases z : N = 0
  · subst z; rw [fm_zero]; decide
  · obtain ⟨t, m, rfl, hm⟩ := odd_part z
    rw [fm_mk hm]
    have := len_cap (odd_cap h rfl)
    simp only
    omega
/-- the value of a word -/
def vf (f w : Int) : Bool × List Int × Int := fm (decide (w ≥ sgn f)) (magn (one f).toNat (w % sgn f).toNat) (lowe f)
theorem vf_len (f w : Int) : (vf f w).2.1.length < 100000 := fm_len (magn_cap (size_pos f w).1 (size_pos f w).2) (by decide)
theorem vf_val {f w : Int} (h : Gd f w) (h4 : cl f w < 4) {k : Nat} (hk : 20 ≤ k) : word_Value.f k f w = some ((vf f w).1, (vf f w).2.1, (vf f w).2.2, 0) := by
  obtain ⟨j, rfl⟩ : ∃ j, k = j + 20 := ⟨k - 20, by omega⟩
  exact val_good h h4 j
theorem un_val {f w : Int} (h : Gd f w) (h4 : cl f w < 4) {k : Nat} (hk : 20 ≤ k) : word_Unit.f k f w = some ((fm false (2 ^ ub f w) (lowe f)).1, (fm false (2 ^ ub f w) (lowe f)).2.1, (fm false (2 ^ ub f w) (lowe f)).2.2, 0) := by
  obtain ⟨j, rfl⟩ : ∃ j, k = j + 20 := ⟨k - 20, by omega⟩
  exact unit_good h h4 j
theorem val_tot {f w : Int} (hu : U w) {k : Nat} (hk : 20 ≤ k) : (∃ e, e ≠ 0 ∧ word_Value.f k f w = some (false, [], 0, e)) ∨ (Gd f w ∧ cl f w < 4) := by
  obtain ⟨j, rfl⟩ : ∃ j, k = j + 20 := ⟨k - 20, by omega⟩
  by_cases he : err f w = 0
  · have g := gd_of he hu
    by_cases h4 : cl f w < 4
    · exact .inr ⟨g, h4⟩
    · exact .inl (val_bad hu (.inr (by omega)) j)
  · exact .inl (val_bad hu (.inl he) j)
theorem low_c (f : Int) : -1000000000000 < lowe f ∧ lowe f < 1000000000000 := by unfold lowe; split <;> decide
theorem cmp_val {f : Int} (a b : Int) {k : Nat} (hk : 500001 < k) : cutplaneref02_Cmp.f k (vf f a).1 (vf f a).2.1 (vf f a).2.2 (vf f b).1 (vf f b).2.1 (vf f b).2.2 = some (cmpz (zv f a) (zv f b)) :=
  ref_Cmp_fm (magn_cap (size_pos f a).1 (size_pos f a).2) (magn_cap (size_pos f b).1 (size_pos f b).2) (by decide) (low_c f).1 (low_c f).2 k hk
theorem sub_val {f : Int} (a b : Int) {k : Nat} (hk : 500001 < k) : cutplaneref02_Sub.f k (vf f a).1 (vf f a).2.1 (vf f a).2.2 (vf f b).1 (vf f b).2.1 (vf f b).2.2 = some (addz (decide (a ≥ sgn f)) (magn (one f).toNat (a % sgn f).toNat) (!decide (b ≥ sgn f)) (magn (one f).toNat (b % sgn f).toNat) (lowe f)) :=
  ref_Sub_fm (magn_cap (size_pos f a).1 (size_pos f a).2) (magn_cap (size_pos f b).1 (size_pos f b).2) (by decide) (low_c f).1 (low_c f).2 k hk
theorem cl_lt {f w : Int} : cl f w < 4 ↔ w % sgn f < infw f := by
  have hs := size_pos f w
  have hi := infw_lt f
  unfold cl cls
  repeat' split
  all_goals constructor <;> intro <;> first | omega | (exfalso; omega)
theorem vf_plc {f a b : Int} (h : plc f a = plc f b) : vf f a = vf f b := by
  have ha := size_pos f a
  have hb := size_pos f b
  have z0 : magn (one f).toNat (0 : Int).toNat = 0 := magn_zero (one_toNat f).2
  unfold plc at h
  unfold vf
  by_cases ca : a ≥ sgn f <;> by_cases cb : b ≥ sgn f
  · rw [if_pos ca, if_pos cb] at h
    rw [show a % sgn f = b % sgn f by omega, decide_eq_true ca, decide_eq_true cb]
  · rw [if_pos ca, if_neg cb] at h
    rw [show a % sgn f = 0 by omega, show b % sgn f = 0 by omega, z0, fm_zero, fm_zero]
  · rw [if_neg ca, if_pos cb] at h
    rw [show a % sgn f = 0 by omega, show b % sgn f = 0 by omega, z0, fm_zero, fm_zero]
  · rw [if_neg ca, if_neg cb] at h
    rw [show a % sgn f = b % sgn f by omega, decide_eq_false ca, decide_eq_false cb]
theorem plc_size {f w : Int} (h : Gd f w) : (plc f w = w % sgn f ∧ w = plc f w ∧ w < sgn f) ∨ (plc f w = -(w % sgn f) ∧ w = sgn f - plc f w ∧ sgn f ≤ w) := by
  have := size_lo h
  unfold plc
  rcases this with ⟨a, b⟩ | ⟨a, b⟩
  · left; rw [if_neg (by omega)]; omega
  · right; rw [if_pos (by omega)]; omega
theorem plc_neg {f w : Int} (h : Gd f w) (h4 : cl f w < 4) : Gd f (negw f w) ∧ plc f (negw f w) = - plc f w ∧ cl f (negw f w) < 4 := by
  have e : negw f w = flipw f w := by unfold negw; rw [if_neg (by omega)]
  rw [e]
  have g := flipw_gd h
  have c : cl f (flipw f w) < 4 := by rw [cl_flipw h]; exact h4
  refine ⟨g, ?_, c⟩
  have p1 := plc_size h
  have p2 := plc_size g
  have hg := gd_lt h
  unfold flipw at p2 ⊢
  split at p2 <;> (rename_i q; first | rw [if_pos q] | rw [if_neg q]) <;> omega
theorem plc_up {f w : Int} (h : Gd f w) (h4 : cl f w < 4) : ∃ u, upw f w = some u ∧ Gd f u ∧ plc f u = plc f w + 1 ∧ (w % sgn f = 0 ∧ u = 1 ∨ w % sgn f ≠ 0 ∧ w ≥ sgn f ∧ u = w - 1 ∨ w % sgn f ≠ 0 ∧ w < sgn f ∧ u = w + 1) := by
  have hl := cl_lt.1 h4
  have hz := size_lo h
  have hs := size_pos f w
  have hi := infw_lt f
  have hp := plc_size h
  have key : ∃ u, upw f w = some u ∧ (w % sgn f = 0 ∧ u = 1 ∨ w % sgn f ≠ 0 ∧ w ≥ sgn f ∧ u = w - 1 ∨ w % sgn f ≠ 0 ∧ w < sgn f ∧ u = w + 1) := by
    unfold upw
    rw [if_neg (by omega), if_neg (by omega)]
    by_cases z : w % sgn f = 0
    · rw [if_pos z]; exact ⟨1, rfl, .inl ⟨z, rfl⟩⟩
    · rw [if_neg z]
      by_cases g : w ≥ sgn f
      · rw [if_pos g]; exact ⟨_, rfl, .inr (.inl ⟨z, g, rfl⟩)⟩
      · rw [if_neg g]; exact ⟨_, rfl, .inr (.inr ⟨z, by omega, rfl⟩)⟩
  obtain ⟨u, e, c⟩ := key
  have gu := (up_gd h e).1
  have hu := plc_size gu
  exact ⟨u, e, gu, by omega, c⟩
theorem plc_down {f w : Int} (h : Gd f w) (h4 : cl f w < 4) : ∃ d, downw f w = some d ∧ Gd f d ∧ plc f d = plc f w - 1 := by
  obtain ⟨n1, n2, n3⟩ := plc_neg h h4
  obtain ⟨u, e, g, p, _⟩ := plc_up n1 n3
  unfold downw
  rw [e]
  by_cases c : cl f u < 4
  · obtain ⟨m1, m2, _⟩ := plc_neg g c
    exact ⟨_, rfl, m1, by omega⟩
  · have c5 : cl f u ≠ 5 := by
      intro q
      have := (cl5 f u).1 q
      have hl := cl_lt.1 n3
      have p1 := plc_size n1
      have p2 := plc_size g
      have s1 := size_pos f (negw f w)
      have s2 := size_pos f u
      omega
    have e : negw f u = flipw f u := by unfold negw; rw [if_neg c5]
    have g2 := flipw_gd g
    refine ⟨_, rfl, by rw [e]; exact g2, ?_⟩
    have p1 := plc_size g
    have p2 := plc_size g2
    have hg := gd_lt g
    show plc f (negw f u) = _
    rw [e]
    unfold flipw at p2 ⊢
    split at p2 <;> (rename_i q; first | rw [if_pos q] | rw [if_neg q]) <;> omega
theorem cl_plc {f a b : Int} (ha : Gd f a) (hb : Gd f b) (h : plc f a = plc f b) : cl f a < 4 ↔ cl f b < 4 := by
  rw [cl_lt, cl_lt]
  have p1 := plc_size ha
  have p2 := plc_size hb
  have s1 := size_pos f a
  have s2 := size_pos f b
  omega
/-- one step up is one unit up -/
theorem sub_up {f a u : Int} (h : Gd f a) (h4 : cl f a < 4) (hu : upw f a = some u) :
    ∃ m : Nat, addz (decide (u ≥ sgn f)) (magn (one f).toNat (u % sgn f).toNat) (!decide (a ≥ sgn f)) (magn (one f).toNat (a % sgn f).toNat) (lowe f) = fm false (2 ^ m) (lowe f) ∧ (m = ub f a ∨ m = ub f u) := by
  have ho := (one_toNat f).2
  have z0 : magn (one f).toNat 0 = 0 := magn_zero ho
  obtain ⟨u', e, gu, p, c⟩ := plc_up h h4
  rw [hu] at e
  obtain rfl := Option.some.inj e
  have hs := size_pos f a
  have ha := size_lo h
  have hz := size_lo gu
  have hi := infw_lt f
  have hl := cl_lt.1 h4
  unfold ub
  rcases c with ⟨z, rfl⟩ | ⟨z, g, rfl⟩ | ⟨z, g, rfl⟩
  · refine ⟨0, ?_, .inl (by rw [z]; simp)⟩
    have e1 : (1 : Int) % sgn f = 1 := by rcases hz with ⟨_, q⟩ | ⟨_, q⟩ <;> omega
    have m1 := magn_succ (s := 0) ho
    rw [z0, Nat.zero_div] at m1
    rw [e1, z, show (0 : Int).toNat = 0 from rfl, show (1 : Int).toNat = 0 + 1 from rfl, m1, z0]
    unfold addz
    rw [if_neg (by decide), if_pos rfl, decide_eq_false (by omega)]
  · refine ⟨((a - 1) % sgn f).toNat / (one f).toNat - 1, ?_, .inr rfl⟩
    have e1 : (a % sgn f).toNat = ((a - 1) % sgn f).toNat + 1 := by omega
    rw [e1, magn_succ ho, decide_eq_true g, decide_eq_true (show a - 1 ≥ sgn f by omega)]
    generalize ((a - 1) % sgn f).toNat / (one f).toNat - 1 = m
    generalize magn (one f).toNat ((a - 1) % sgn f).toNat = A
    have hp : 2 ^ m ≠ 0 := Nat.ne_of_gt (Nat.two_pow_pos m)
    generalize 2 ^ m = M at *
    unfold addz
    by_cases zA : A = 0
    · rw [if_pos zA, zA, Nat.zero_add]; rfl
    · rw [if_neg zA, if_neg (by omega), if_neg (by decide), if_neg (by omega), show A + M - A = M by omega]; rfl
  · refine ⟨(a % sgn f).toNat / (one f).toNat - 1, ?_, .inl rfl⟩
    have e1 : ((a + 1) % sgn f).toNat = (a % sgn f).toNat + 1 := by omega
    rw [e1, magn_succ ho, decide_eq_false (show ¬ a ≥ sgn f by omega), decide_eq_false (show ¬ a + 1 ≥ sgn f by omega)]
    generalize (a % sgn f).toNat / (one f).toNat - 1 = m
    generalize magn (one f).toNat (a % sgn f).toNat = A
    have hp : 2 ^ m ≠ 0 := Nat.ne_of_gt (Nat.two_pow_pos m)
    generalize 2 ^ m = M at *
    unfold addz
    rw [if_neg (by omega)]
    by_cases zA : A = 0
    · rw [if_pos zA, zA, Nat.zero_add]
    · rw [if_neg zA, if_neg (by decide), if_pos (by omega), show A + M - A = M by omega]
theorem cmpz_lt {x y : Int} (h : x < y) : cmpz x y = -1 := by unfold cmpz; rw [if_pos h]
theorem cmpz_gt {x y : Int} (h : y < x) : cmpz x y = 1 := by unfold cmpz; rw [if_neg (by omega), if_pos h]
theorem cmpz_eq {x y : Int} (h : x = y) : cmpz x y = 0 := by unfold cmpz; rw [if_neg (by omega), if_neg (by omega)]
theorem next1 (k : Nat) (hk : 500010 < k) {f a u c : Int} (hu : U c) (hp : plc f u = plc f a + 1) : cutplanelaw03_WordNext.j1 k f c false (vf f a).1 (vf f a).2.1 (vf f a).2.2 (vf f u).1 (vf f u).2.1 (vf f u).2.2 = some true := by
  obtain ⟨k, rfl⟩ : ∃ m, k = m + 3 := ⟨k - 3, by omega⟩
  rw [cutplanelaw03_WordNext.j1, if_neg (by decide)]
  rcases val_tot (f := f) hu (k := k + 2) (by omega) with ⟨e, he, q⟩ | ⟨g, g4⟩
  · rw [q]
    simp only [Option.bind_some, if_neg he, known03 k]
  · rw [vf_val g g4 (by omega)]
    simp only [Option.bind_some, if_true, cmp_val (f := f) c a (k := k + 2) (by omega), cmp_val (f := f) c u (k := k + 2) (by omega), known03 k]
    by_cases q : plc f c ≤ plc f a
    · have : cmpz (zv f c) (zv f a) ≤ 0 := by
        by_cases q2 : plc f c < plc f a
        · rw [cmpz_lt (zv_lt q2)]; decide
        · rw [cmpz_eq (zv_eq (show plc f c = plc f a by omega))]; decide
      rw [if_pos this]
    · rw [cmpz_gt (zv_lt (show plc f a < plc f c by omega)), if_neg (by decide)]
      have : cmpz (zv f c) (zv f u) ≥ 0 := by
        by_cases q2 : plc f u < plc f c
        · rw [cmpz_gt (zv_lt q2)]; decide
        · rw [cmpz_eq (zv_eq (show plc f c = plc f u by omega))]; decide
      rw [if_pos this]
theorem next0 (k : Nat) (hk : 500020 < k) {f a u c : Int} (hu : U c) (ha : Gd f a) (a4 : cl f a < 4) (e : upw f a = some u) (u4 : cl f u < 4) : cutplanelaw03_WordNext.j0 k f a c u false (vf f a).1 (vf f a).2.1 (vf f a).2.2 (vf f u).1 (vf f u).2.1 (vf f u).2.2 = some true := by
  obtain ⟨k, rfl⟩ : ∃ m, k = m + 3 := ⟨k - 3, by omega⟩
  obtain ⟨u', e', gu, hp, _⟩ := plc_up ha a4
  rw [e] at e'
  obtain rfl := Option.some.inj e'
  obtain ⟨d, ed, gd, hd⟩ := plc_down gu u4
  have pd : plc f d = plc f a := by omega
  have d4 : cl f d < 4 := (cl_plc gd ha pd).2 a4
  obtain ⟨m, hm, hc⟩ := sub_up ha a4 e
  have N1 := next1 (k + 2) (by omega) hu hp
  rw [cutplanelaw03_WordNext.j0, if_neg (by decide), down_good k gu, ed]
  simp only [Option.bind_some, if_true, vf_val gd d4 (k := k + 2) (by omega), un_val ha a4 (k := k + 2) (by omega), un_val gu u4 (k := k + 2) (by omega), vf_plc pd]
  obtain ⟨r, hr, h1⟩ := same_tot (b := vf f a) (vf_len f a) (k + 2) (by omega)
  rw [hr, h1 rfl]
  simp only [Option.bind_some, if_true, cmp_val (f := f) u a (k := k + 2) (by omega), sub_val (f := f) u a (k := k + 2) (by omega), cmpz_gt (zv_lt (show plc f a < plc f u by omega))]
  rw [if_neg (by decide), hm]
  have hb : ∀ w : Int, ub f w < capn := by
    intro w
    have h1 := size_pos f w
    unfold ub capn
    have : (w % sgn f).toNat / (one f).toNat < 2100 := by
      rw [Nat.div_lt_iff_lt_mul (one_toNat f).2]
      rcases one_cases f with ⟨p, q, _⟩ | ⟨p, q, _⟩ <;> rw [p, q] at * <;> omega
    omega
  have hcap : 2 ^ m < 2 ^ capn := Nat.pow_lt_pow_right (by decide) (by rcases hc with rfl | rfl <;> exact hb _)
  obtain ⟨r1, hr1, t1⟩ := same_tot (a := fm false (2 ^ m) (lowe f)) (b := fm false (2 ^ ub f a) (lowe f)) (fm_len hcap (by decide)) (k + 2) (by omega)
  obtain ⟨r2, hr2, t2⟩ := same_tot (a := fm false (2 ^ m) (lowe f)) (b := fm false (2 ^ ub f u) (lowe f)) (fm_len hcap (by decide)) (k + 2) (by omega)
  simp only [hr1, hr2, Option.bind_some]
  by_cases q1 : r1 = true
  · rw [if_pos q1]; exact N1
  · have q2 : r2 = true := by
      rcases hc with q | q
      · exact absurd (t1 (by rw [q])) q1
      · exact t2 (by rw [q])
    rw [if_neg q1, if_pos q2]; exact N1
theorem next_known (k : Nat) (hk : 500020 < k) (f a c u : Int) (b : Bool) (l : List Int) (e : Int) (b2 : Bool) (l2 : List Int) (e2 : Int) : cutplanelaw03_WordNext.j0 k f a c u true b l e b2 l2 e2 = some true := by
  obtain ⟨k, rfl⟩ : ∃ m, k = m + 3 := ⟨k - 3, by omega⟩
  rw [cutplanelaw03_WordNext.j0, if_pos rfl, known03 k]
  rfl
theorem next_all (k : Nat) (hk : 500030 < k) {f a c : Int} (ha : U a) (hc : U c) : cutplanelaw03_WordNext.f k f a c = some true := by
  obtain ⟨k, rfl⟩ : ∃ m, k = m + 2 := ⟨k - 2, by omega⟩
  unfold cutplanelaw03_WordNext.f
  have up : ∃ u r, word_Up.f (k + 2) f a = some (u, r) ∧ U u ∧ (r = 0 → err f a = 0 ∧ upw f a = some u) := by
    by_cases he : err f a = 0
    · have g := gd_of he ha
      rw [up_good k g]
      rcases hq : upw f a with _ | u
      · exact ⟨0, 7, rfl, ⟨by decide, by decide⟩, fun h => absurd h (by decide)⟩
      · exact ⟨u, 0, rfl, (up_gd g hq).1.u, fun _ => ⟨he, rfl⟩⟩
    · exact ⟨0, err f a, up_bad k ha he, ⟨by decide, by decide⟩, fun h => absurd h he⟩
  obtain ⟨u, r, e, uu, hr⟩ := up
  rw [e]
  have tot : ∀ {w : Int}, U w → ∃ b l x y, word_Value.f (k + 2) f w = some (b, l, x, y) ∧ (y = 0 → Gd f w ∧ cl f w < 4 ∧ (b, l, x) = vf f w) := by
    intro w hw
    rcases val_tot (f := f) hw (k := k + 2) (by omega) with ⟨e, he, q⟩ | ⟨g, g4⟩
    · exact ⟨_, _, _, _, q, fun h => absurd h he⟩
    · exact ⟨_, _, _, _, vf_val g g4 (by omega), fun _ => ⟨g, g4, rfl⟩⟩
  obtain ⟨b, l, x, y, q, hq⟩ := tot ha
  obtain ⟨b2, l2, x2, y2, q2, hq2⟩ := tot uu
  rw [q, Option.bind_some, Option.bind_some, q2]
  simp only [Option.bind_some]
  have kn := fun t => next_known (k + 2) (by omega) f a c u b l t b2 l2 x2
  by_cases y0 : y = 0
  · rw [if_pos y0]
    by_cases r0 : r = 0
    · rw [if_pos r0]
      by_cases z : y2 = 0
      · obtain ⟨g, g4, hv⟩ := hq y0
        obtain ⟨gu, gu4, hv2⟩ := hq2 z
        have N0 := next0 (k + 2) (by omega) hc g g4 (hr r0).2 gu4
        rw [← hv, ← hv2] at N0
        rw [z]
        exact N0
      · rw [show (y2 != 0) = true by simpa using z]
        exact kn x
    · rw [if_neg r0]; exact kn x
  · rw [if_neg y0]; exact kn x
theorem WordNext : cutplanelaw03_WordNext.Pure := by
  intro f a c _ ha hc
  exact ⟨500040, next_all 500040 (by decide) (u_of ha) (u_of hc)⟩
end Go.Proofs.YthiklmgdmaemgaaDoor.Pure
end
