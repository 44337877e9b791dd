/- Steps of Go functions that the law WordBack uses, told as plain Lean functions, each with the proof that its call comes to what it tells; words on memory; plain facts. No condition beyond those that each text names. -/
import Derived.Laws.BitsAllLaws
import Derived.Laws.BitsLemmas
import Derived.Test.YthiklmgdmaemgaaDoorProg
import Derived.WalkMore
import Derived.Shelf.Spec.TrailingZeros
import Derived.Below
import Derived.Deep.Draws
import Derived.Deep.AppendLies
import Derived.Maps.AppendAt
import Derived.OwnWalk
import Derived.Laws.BytesArg
import Derived.Laws.MakeOwn
import Derived.Laws.OwnMore
import Derived.Deep.OwnRows
import Derived.Tactics
import Derived.Lib.ConvBytes
import Derived.Laws.Slices
import Derived.WalkKit
import Derived.KernelRfl
import Derived.RowKit3
import Derived.Deep.LoopGhost
import Derived.Deep.QuietTactic
import Derived.BigQuiet
import Derived.WideLaws
import Derived.Deep.DeepCutAuto
import Derived.Deep.CutBlock
import Derived.Deep.RegionHeld3
import Derived.Laws.Rows
import Derived.Lib.AppendStr
import Derived.ArgAppend
import Derived.Laws.IdiomCopy
import Derived.OrdersHeld
import Derived.RowKit
import Derived.Laws.StructEq
import Derived.Lib.EndianBits
import Derived.OpenShut
import Derived.Test.YthiklmgdmaemgaaDoorSWordBack0
import Derived.Test.YthiklmgdmaemgaaDoorSWordBack1
import Derived.Test.YthiklmgdmaemgaaDoorSWordBack2
import Derived.Test.YthiklmgdmaemgaaDoorSWordBack3
import Derived.Test.YthiklmgdmaemgaaDoorSWordBack4
import Derived.Test.YthiklmgdmaemgaaDoorSWordBack5
import Derived.Test.YthiklmgdmaemgaaDoorSWordBack6
import Derived.Test.YthiklmgdmaemgaaDoorSWordBack7
section
namespace Go.Proofs.YthiklmgdmaemgaaDoor.Wd
open Go
/-- what a list of digits stands for -/
def vn : List Int → Nat
  | [] => 0
  | d :: t => d.toNat + 4294967296 * vn t
def Dg (l : List Int) : Prop := ∀ d ∈ l, 0 ≤ d ∧ d < 4294967296
/-- a number's digits, none of them nought at the high end -/
def dg (n : Nat) : List Int := if h : n = 0 then [] else ((n % 4294967296 : Nat) : Int) :: dg (n / 4294967296)
  termination_by n
  decreasing_by omega
theorem dg_zero : dg 0 = [] := by rw [dg]; simp
theorem dg_pos {n : Nat} (h : n ≠ 0) : dg n = ((n % 4294967296 : Nat) : Int) :: dg (n / 4294967296) := by rw [dg]; simp [h]
theorem vn_dg (n : Nat) : vn (dg n) = n := by
  induction n using Nat.strongRecOn with
  | _ n ih =>
    by_cases h : n = 0
    · subst h; rw [dg_zero]; rfl
    · rw [dg_pos h, vn, ih (n / 4294967296) (by omega)]
      have : (((n % 4294967296 : Nat) : Int)).toNat = n % 4294967296 := by omega
      rw [this]; omega
theorem dg_dg (n : Nat) : Dg (dg n) := by
  induction n using Nat.strongRecOn with
  | _ n ih =>
    by_cases h : n = 0
    · subst h; rw [dg_zero]; intro d hd; cases hd
    · rw [dg_pos h]
      intro d hd
      rcases List.mem_cons.1 hd with rfl | hd
      · omega
      · exact ih (n / 4294967296) (by omega) d hd
theorem dg_nil {n : Nat} : dg n = [] ↔ n = 0 := by
  constructor
  · intro h; have := vn_dg n; rw [h] at this; exact this.symm
  · rintro rfl; exact dg_zero
def Nm (l : List Int) : Prop := ∀ h : l ≠ [], l.getLast h ≠ 0
theorem vn_pos {l : List Int} (hd : Dg l) (hn : Nm l) (h : l ≠ []) : vn l ≠ 0 := by
  induction l with
  | nil => exact absurd rfl h
  | cons d t ih =>
    have hd0 := hd d (List.mem_cons_self ..)
    by_cases ht : t = []
    · subst ht
      have := hn h
      simp only [List.getLast_singleton] at this
      simp only [vn]; omega
    · have := ih (fun x hx => hd x (List.mem_cons_of_mem _ hx)) (fun h' => by have := hn h; rwa [List.getLast_cons h'] at this) ht
      simp only [vn]; omega
theorem eq_dg {l : List Int} (hd : Dg l) (hn : Nm l) : l = dg (vn l) := by
  induction l with
  | nil => simp only [vn]; exact dg_zero.symm
  | cons d t ih =>
    have hd0 := hd d (List.mem_cons_self ..)
    have hdt : Dg t := fun x hx => hd x (List.mem_cons_of_mem _ hx)
    have hnt : Nm t := fun h' => by have := hn (List.cons_ne_nil d t); rwa [List.getLast_cons h'] at this
    have hp := vn_pos hd hn (List.cons_ne_nil d t)
    rw [dg_pos hp]
    simp only [vn] at hp ⊢
    have e1 : (d.toNat + 4294967296 * vn t) % 4294967296 = d.toNat := by omega
    have e2 : (d.toNat + 4294967296 * vn t) / 4294967296 = vn t := by omega
    rw [e1, e2, ← ih hdt hnt]
    congr 1; omega
theorem vn_append (l m : List Int) : vn (l ++ m) = vn l + 4294967296 ^ l.length * vn m := by
  induction l with
  | nil => simp [vn]
  | cons d t ih =>
    simp only [List.cons_append, vn, ih, List.length_cons, Nat.pow_succ]
    rw [Nat.mul_add, ← Nat.mul_assoc, Nat.mul_comm 4294967296 (4294967296 ^ t.length)]
    omega
theorem vn_lt {l : List Int} (hd : Dg l) : vn l < 4294967296 ^ l.length := by
  induction l with
  | nil => simp [vn]
  | cons d t ih =>
    have hd0 := hd d (List.mem_cons_self ..)
    have := ih (fun x hx => hd x (List.mem_cons_of_mem _ hx))
    simp only [vn, List.length_cons, Nat.pow_succ]
    omega
theorem dg_length_le {n k : Nat} (h : n < 4294967296 ^ k) : (dg n).length ≤ k := by
  induction k generalizing n with
  | zero => have : n = 0 := by simpa using h
            subst this; rw [dg_zero]; simp
  | succ k ih =>
    by_cases h0 : n = 0
    · subst h0; rw [dg_zero]; simp
    · rw [dg_pos h0, List.length_cons]
      have : n / 4294967296 < 4294967296 ^ k := by rw [Nat.div_lt_iff_lt_mul (by decide)]; rwa [Nat.pow_succ] at h
      have := ih this
      omega
theorem dg_lo {n : Nat} (h : n ≠ 0) : 4294967296 ^ ((dg n).length - 1) ≤ n := by
  by_cases c : 4294967296 ^ ((dg n).length - 1) ≤ n
  · exact c
  · have := dg_length_le (n := n) (k := (dg n).length - 1) (by omega)
    have : (dg n) ≠ [] := fun z => h (dg_nil.1 z)
    have := List.length_pos_iff.2 this
    omega
theorem dg_hi (n : Nat) : n < 4294967296 ^ (dg n).length := by have := vn_lt (dg_dg n); rwa [vn_dg] at this
theorem dg_len_pos {n : Nat} (h : n ≠ 0) : 0 < (dg n).length := List.length_pos_iff.2 fun z => h (dg_nil.1 z)
theorem dg_get (n i : Nat) (h : i < (dg n).length) : (dg n)[i] = ((n / 4294967296 ^ i % 4294967296 : Nat) : Int) := by
  induction i generalizing n with
  | zero =>
    have h0 : n ≠ 0 := fun z => by subst z; rw [dg_zero] at h; simp at h
    simp only [dg_pos h0, List.getElem_cons_zero, Nat.pow_zero, Nat.div_one]
  | succ i ih =>
    have h0 : n ≠ 0 := fun z => by subst z; rw [dg_zero] at h; simp at h
    have h' : i < (dg (n / 4294967296)).length := by rw [dg_pos h0, List.length_cons] at h; omega
    have e := ih (n / 4294967296) h'
    simp only [dg_pos h0, List.getElem_cons_succ, e, Nat.div_div_eq_div_mul, Nat.pow_succ, Nat.mul_comm]
theorem vn_take_zero {l : List Int} {i : Nat} (h : i < l.length) (hz : l[i] = 0) : vn (l.take (i + 1)) = vn (l.take i) := by
  rw [List.take_succ_eq_append_getElem h, vn_append, hz]; simp [vn]
theorem dg_take {l : List Int} (hd : Dg l) (i : Nat) : Dg (l.take i) := fun d hm => hd d (List.mem_of_mem_take hm)
theorem nm_take {l : List Int} {i : Nat} (h : i < l.length) (hz : l[i] ≠ 0) : Nm (l.take (i + 1)) := by
  intro hh
  have e : l.take (i + 1) = l.take i ++ [l[i]] := List.take_succ_eq_append_getElem h
  simp only [e, List.getLast_concat]
  exact hz
/-- how many bits a number has -/
def bl (n : Nat) : Nat := if n = 0 then 0 else n.log2 + 1
theorem bl_zero : bl 0 = 0 := rfl
theorem bl_lo {n : Nat} (h : n ≠ 0) : 2 ^ (bl n - 1) ≤ n := by
  unfold bl; rw [if_neg h]; exact Nat.log2_self_le h
theorem bl_hi (n : Nat) : n < 2 ^ bl n := by
  unfold bl; split
  · omega
  · exact Nat.lt_log2_self
theorem bl_pos {n : Nat} (h : n ≠ 0) : 0 < bl n := by unfold bl; rw [if_neg h]; omega
theorem bl_eq {n b : Nat} (h0 : 0 < b) (h1 : 2 ^ (b - 1) ≤ n) (h2 : n < 2 ^ b) : bl n = b := by
  have hn : n ≠ 0 := by have := Nat.two_pow_pos (b - 1); omega
  have a := bl_lo hn
  have c := bl_hi n
  have p := bl_pos hn
  by_cases l : bl n < b
  · have : 2 ^ bl n ≤ 2 ^ (b - 1) := Nat.pow_le_pow_right (by decide) (by omega)
    omega
  · by_cases g : b < bl n
    · have : 2 ^ b ≤ 2 ^ (bl n - 1) := Nat.pow_le_pow_right (by decide) (by omega)
      omega
    · omega
theorem pow32 (i : Nat) : 4294967296 ^ i = 2 ^ (32 * i) := by rw [Nat.pow_mul]
theorem bl_shift {n : Nat} (h : n ≠ 0) (s : Nat) : bl (n * 2 ^ s) = bl n + s := by
  have a := bl_lo h
  have c := bl_hi n
  have p := bl_pos h
  apply bl_eq (by omega)
  · have : 2 ^ (bl n + s - 1) = 2 ^ (bl n - 1) * 2 ^ s := by rw [← Nat.pow_add]; congr 1; omega
    rw [this]; exact Nat.mul_le_mul_right _ a
  · rw [Nat.pow_add]; exact Nat.mul_lt_mul_of_pos_right c (Nat.two_pow_pos s)
/-- every number but nought is an odd one times a power of two -/
theorem odd_part {n : Nat} (h : n ≠ 0) : ∃ t m, n = 2 ^ t * m ∧ m % 2 = 1 := by
  induction n using Nat.strongRecOn with
  | _ n ih =>
    by_cases o : n % 2 = 1
    · exact ⟨0, n, by simp, o⟩
    · obtain ⟨t, m, e, hm⟩ := ih (n / 2) (by omega) (by omega)
      refine ⟨t + 1, m, ?_, hm⟩
      rw [Nat.pow_succ, Nat.mul_right_comm, ← e]; omega
end Go.Proofs.YthiklmgdmaemgaaDoor.Wd
end

section
namespace Go.Proofs.YthiklmgdmaemgaaDoor.PA
open Go.RowKit Go.Proofs.YthiklmgdmaemgaaDoorW.PrintWords Go.Proofs.YthiklmgdmaemgaaDoorW.PrintLast Go.Proofs.YthiklmgdmaemgaaDoorW.PrintMore Go.Proofs.YthiklmgdmaemgaaDoor.Wd
set_option linter.unusedSimpArgs false
set_option linter.unusedVariables false
theorem rd_at (l : List Int) (i : Nat) (h : i < l.length) : rd l (i : Int) = l[i] := by
  unfold rd
  simp [h]
theorem rd_dg {n i : Nat} (h : i < (dg n).length) : rd (dg n) (i : Int) = ((n / 4294967296 ^ i % 4294967296 : Nat) : Int) := by
  rw [rd_at _ i h, dg_get n i h]
/-- a list of digits is short enough for every count -/
def Sh (l : List Int) : Prop := l.length < 1099511627776
theorem bl_le {n k : Nat} (h : n < 2 ^ k) : bl n ≤ k := by
  by_cases z : n = 0
  · subst z; simp [bl_zero]
  · by_cases c : bl n ≤ k
    · exact c
    · have := bl_lo z
      have : 2 ^ k ≤ 2 ^ (bl n - 1) := Nat.pow_le_pow_right (by decide) (by omega)
      omega
theorem and1 {y : Int} (h0 : 0 ≤ y) (h1 : y < 4294967296) : Go.bits .and .u32 y 1 = y % 2 := by
  have w : ∀ n : Int, 0 ≤ n → n < 2 ^ 32 → IntKind.u32.wrap n = n := by intro n a b; rw [IntKind.wrap_u32]; omega
  exact bits_mask .u32 32 (by decide) w 1 (by decide) y h0 (by omega)
theorem low_digit {t m q : Nat} (hm : m % 2 = 1) (hq : 32 * q ≤ t) (hz : 2 ^ t * m / 4294967296 ^ q % 4294967296 = 0) : 32 * q + 32 ≤ t := by
  by_cases c : 32 * q + 32 ≤ t
  · exact c
  · exfalso
    have e : 2 ^ t * m = 4294967296 ^ q * (2 ^ (t - 32 * q) * m) := by
      rw [pow32, ← Nat.mul_assoc, ← Nat.pow_add]
      have : 32 * q + (t - 32 * q) = t := by omega
      rw [this]
    rw [e, Nat.mul_div_cancel_left _ (Nat.pos_of_ne_zero (by simp))] at hz
    have hp : (4294967296 : Nat) = 2 ^ (t - 32 * q) * 2 ^ (32 - (t - 32 * q)) := by
      rw [← Nat.pow_add]
      have : t - 32 * q + (32 - (t - 32 * q)) = 32 := by omega
      rw [this]
    rw [hp, Nat.mul_mod_mul_left] at hz
    have h2 : 2 ^ (32 - (t - 32 * q)) = 2 * 2 ^ (32 - (t - 32 * q) - 1) := by
      rw [← Nat.pow_succ']
      have : (32 - (t - 32 * q) - 1).succ = 32 - (t - 32 * q) := by omega
      rw [this]
    have h3 : m % 2 ^ (32 - (t - 32 * q)) = 0 := by
      rcases Nat.mul_eq_zero.1 hz with h | h
      · exact absurd h (Nat.pos_iff_ne_zero.1 (Nat.two_pow_pos _))
      · exact h
    rw [h2] at h3
    have := Nat.mod_mul_right_mod m 2 (2 ^ (32 - (t - 32 * q) - 1))
    rw [h3] at this
    omega
theorem tz_lt {t m : Nat} (hm : m % 2 = 1) : t < 32 * (dg (2 ^ t * m)).length := by
  have h := dg_hi (2 ^ t * m)
  rw [pow32] at h
  have h1 : 2 ^ t ≤ 2 ^ t * m := Nat.le_mul_of_pos_right _ (by omega)
  have h2 : 2 ^ t < 2 ^ (32 * (dg (2 ^ t * m)).length) := by omega
  exact (Nat.pow_lt_pow_iff_right (by decide)).1 h2
theorem div_step {a V s : Nat} (hs : s < 32) : (a + 4294967296 * V) / 2 ^ s = a / 2 ^ s + 2 ^ (32 - s) * V := by
  have hp : (4294967296 : Nat) = 2 ^ s * 2 ^ (32 - s) := by
    rw [← Nat.pow_add]
    have : s + (32 - s) = 32 := by omega
    rw [this]
  rw [hp, Nat.mul_assoc, Nat.add_mul_div_left _ _ (Nat.two_pow_pos s)]
end Go.Proofs.YthiklmgdmaemgaaDoor.PA
end

section
namespace Go.Proofs.YthiklmgdmaemgaaDoor.PA
open Go.RowKit Go.Proofs.YthiklmgdmaemgaaDoorW.PrintWords Go.Proofs.YthiklmgdmaemgaaDoorW.PrintLast Go.Proofs.YthiklmgdmaemgaaDoorW.PrintMore Go.Proofs.YthiklmgdmaemgaaDoor.Wd
set_option linter.unusedSimpArgs false
set_option linter.unusedVariables false
theorem dg_mem {l : List Int} (hd : Dg l) {i : Nat} (h : i < l.length) : 0 ≤ l[i] ∧ l[i] < 4294967296 := hd _ (List.getElem_mem h)
theorem dg_append {l m : List Int} (hl : Dg l) (hm : Dg m) : Dg (l ++ m) := by
  intro d h
  rcases List.mem_append.1 h with h | h
  · exact hl d h
  · exact hm d h
theorem dg_one {y : Int} (h0 : 0 ≤ y) (h1 : y < 4294967296) : Dg [y] := by
  intro d h
  rw [List.mem_singleton.1 h]; exact ⟨h0, h1⟩
theorem cast_mod (a : Nat) : (a : Int) % 4294967296 = ((a % 4294967296 : Nat) : Int) := by omega
theorem u64_of {y : Nat} (h : y < 18446744073709551616) : IntKind.u64.wrap (y : Int) = (y : Int) := by rw [wrapu64]; omega
theorem or_low {y x i : Nat} (hy : y < 2 ^ i) (hx : x % 2 ^ i = 0) (hx1 : x < 18446744073709551616) (hy1 : y < 18446744073709551616) : Go.bits .or .u64 (y : Int) (x : Int) = ((y + x : Nat) : Int) := by
  have h := bits_join_low .u64 64 (by decide) wraps_u64 i (y : Int) (x : Int) (by omega) (by exact_mod_cast hy) (by omega) (by omega) (by exact_mod_cast hx) (by omega)
  rw [h]; omega
theorem shl_nat {y s : Nat} (hs : s ≤ 32) (hy : y < 4294967296) : shl .u64 (y : Int) (s : Int) = ((y * 2 ^ s : Nat) : Int) := by
  unfold shl
  have e : min ((s : Int)).toNat IntKind.u64.bits = s := by have : IntKind.u64.bits = 64 := rfl; omega
  have h1 : 2 ^ s ≤ 2 ^ 32 := Nat.pow_le_pow_right (by decide) hs
  have h2 : y * 2 ^ s ≤ 4294967295 * 2 ^ 32 := Nat.mul_le_mul (by omega) h1
  rw [e, wrapu64]
  have e2 : (y : Int) * 2 ^ s = ((y * 2 ^ s : Nat) : Int) := by push_cast; rfl
  rw [e2]
  generalize y * 2 ^ s = z at *
  omega
theorem shr_nat {y s : Nat} (hs : s ≤ 32) : shr .u64 (y : Int) (s : Int) = ((y / 2 ^ s : Nat) : Int) := by
  unfold shr
  have e : min ((s : Int)).toNat IntKind.u64.bits = s := by have : IntKind.u64.bits = 64 := rfl; omega
  rw [e]; push_cast; rfl
theorem mul_mod_pow {y s : Nat} : y * 2 ^ s % 2 ^ s = 0 := Nat.mul_mod_left _ _
theorem two_ne {t m : Nat} (hm : m % 2 = 1) : 2 ^ t * m ≠ 0 := by
  intro z
  rcases Nat.mul_eq_zero.1 z with z | z
  · exact absurd z (Nat.pos_iff_ne_zero.1 (Nat.two_pow_pos _))
  · omega
end Go.Proofs.YthiklmgdmaemgaaDoor.PA
end

section
namespace Go.Proofs.YthiklmgdmaemgaaDoor.PA
open Go.RowKit Go.Proofs.YthiklmgdmaemgaaDoorW.PrintWords Go.Proofs.YthiklmgdmaemgaaDoorW.PrintLast Go.Proofs.YthiklmgdmaemgaaDoorW.PrintMore Go.Proofs.YthiklmgdmaemgaaDoor.Wd
set_option linter.unusedSimpArgs false
set_option linter.unusedVariables false
/-- how many noughts stand below -/
def tzn (n : Nat) : Nat := if h : n = 0 then 0 else if n % 2 = 1 then 0 else tzn (n / 2) + 1
  termination_by n
  decreasing_by omega
theorem tzn_odd {m : Nat} (hm : m % 2 = 1) : tzn m = 0 := by
  rw [tzn, dif_neg (by omega), if_pos hm]
theorem tzn_mul {m : Nat} (hm : m % 2 = 1) (t : Nat) : tzn (2 ^ t * m) = t := by
  induction t with
  | zero => rw [Nat.pow_zero, Nat.one_mul, tzn_odd hm]
  | succ t ih =>
    have e : 2 ^ (t + 1) * m = 2 * (2 ^ t * m) := by rw [Nat.pow_succ, Nat.mul_comm (2 ^ t) 2, Nat.mul_assoc]
    have hne := two_ne (t := t) hm
    rw [e]
    generalize 2 ^ t * m = x at *
    rw [tzn, dif_neg (by omega), if_neg (by omega), Nat.mul_div_cancel_left _ (by decide), ih]
/-- a number of so many units, in the one form -/
def fm (neg : Bool) (N : Nat) (e : Int) : Bool × List Int × Int := if N = 0 then (false, [], 0) else (neg, dg (N / 2 ^ tzn N), e + tzn N)
theorem fm_zero (neg : Bool) (e : Int) : fm neg 0 e = (false, [], 0) := rfl
theorem fm_mk {neg : Bool} {t m : Nat} {e : Int} (hm : m % 2 = 1) : fm neg (2 ^ t * m) e = (neg, dg m, e + t) := by
  unfold fm
  rw [if_neg (two_ne hm), tzn_mul hm, Nat.mul_div_cancel_left _ (Nat.two_pow_pos t)]
theorem fm_shift {neg : Bool} {N j : Nat} {e : Int} : fm neg (2 ^ j * N) e = fm neg N (e + j) := by
  by_cases z : N = 0
  · subst z; rw [Nat.mul_zero, fm_zero, fm_zero]
  · obtain ⟨t, m, rfl, hm⟩ := odd_part z
    rw [fm_mk hm, ← Nat.mul_assoc, ← Nat.pow_add, fm_mk hm]
    congr 2; omega
/-- a whole number of units -/
def zs (neg : Bool) (N : Nat) : Int := if neg then -(N : Int) else N
end Go.Proofs.YthiklmgdmaemgaaDoor.PA
end

section
namespace Go.Proofs.YthiklmgdmaemgaaDoor.PA
open Go.RowKit Go.Proofs.YthiklmgdmaemgaaDoorW.PrintWords Go.Proofs.YthiklmgdmaemgaaDoorW.PrintLast Go.Proofs.YthiklmgdmaemgaaDoorW.PrintMore Go.Proofs.YthiklmgdmaemgaaDoor.Wd
set_option linter.unusedSimpArgs false
set_option linter.unusedVariables false
/-- the class of a size: P one above the fractions, I the infinite size -/
def cls (P I s : Int) : Int := if s = 0 then 1 else if s < P then 2 else if s < I then 3 else if s = I then 4 else 5
def sgn (f : Int) : Int := if f = 1 then 2147483648 else 9223372036854775808
def one (f : Int) : Int := if f = 1 then 8388608 else 4503599627370496
def infw (f : Int) : Int := if f = 1 then 2139095040 else 9218868437227405312
def nanw (f : Int) : Int := if f = 1 then 2143289344 else 9221120237041090560
def cl (f w : Int) : Int := cls (one f) (infw f) (w % sgn f)
/-- the error of a word, as Good tells it -/
def err (f w : Int) : Int := if f = 1 then (if w ≥ 4294967296 then 6 else 0) else if f = 2 then 0 else 4
/-- a good word -/
def Gd (f w : Int) : Prop := (f = 1 ∧ 0 ≤ w ∧ w < 4294967296) ∨ (f = 2 ∧ 0 ≤ w ∧ w < 18446744073709551616)
def U (w : Int) : Prop := 0 ≤ w ∧ w < 18446744073709551616
theorem Gd.u {f w : Int} (h : Gd f w) : U w := by rcases h with ⟨_, a, b⟩ | ⟨_, a, b⟩ <;> exact ⟨a, by omega⟩
theorem Gd.err {f w : Int} (h : Gd f w) : err f w = 0 := by
  rcases h with ⟨rfl, a, b⟩ | ⟨rfl, a, b⟩
  · simp [PA.err]; omega
  · simp [PA.err]
theorem gd_of {f w : Int} (h : err f w = 0) (hu : U w) : Gd f w := by
  unfold err at h
  unfold U at hu
  unfold Gd
  split at h
  · split at h
    · omega
    · omega
  · split at h <;> omega
theorem u_of {w : Int} (h : (Lit.int .u64 w).wf = true) : U w := by have := bounds_u64 h; exact ⟨by omega, by omega⟩
theorem rd_zero (w : Int) : rd [w] 0 = w := by rfl
theorem top31 : Go.bits .or .u64 2147483648 (IntKind.u64.wrap (2147483648 - 1)) = 4294967295 := by decide +kernel
theorem top63 : Go.bits .or .u64 9223372036854775808 (IntKind.u64.wrap (9223372036854775808 - 1)) = 18446744073709551615 := by decide +kernel
/-- the shape of a format -/
def shp (f : Int) : Int × Int × Int := if f = 1 then (23, 255, 2147483648) else if f = 2 then (52, 2047, 9223372036854775808) else (0, 0, 0)
theorem open_nil (k : Nat) (f : Int) : word_open.f (k + 1) f [] = some ((shp f).1, (shp f).2.1, (shp f).2.2, if f = 1 ∨ f = 2 then 0 else 4) := by
  unfold word_open.f word_shapeOf.f shp
  by_cases h1 : f = 1
  · subst h1; simp [word_open.l0]
  · by_cases h2 : f = 2
    · subst h2; simp [word_open.l0]
    · simp [h1, h2]
theorem open_one (k : Nat) (f w : Int) (hu : U w) : word_open.f (k + 2) f [w] = some ((shp f).1, (shp f).2.1, (shp f).2.2, err f w) := by
  obtain ⟨h0, h3⟩ := hu
  unfold word_open.f word_shapeOf.f shp err
  by_cases h1 : f = 1
  · subst h1
    have l1 : (([w] : List Int).length : Int) = 1 := rfl
    have w1 : wrap64 (0 + 1) = 1 := by decide +kernel
    simp only [if_true, Option.bind_some, word_open.l0, l1, rd_zero, top31, Int.zero_lt_one, Int.le_refl, w1]
    by_cases c : w ≥ 4294967296
    · rw [if_pos (by omega)]; simp [c]
    · rw [if_neg (by omega)]; simp [c]
  · by_cases h2 : f = 2
    · subst h2
      have l1 : (([w] : List Int).length : Int) = 1 := rfl
      have w1 : wrap64 (0 + 1) = 1 := by decide +kernel
      simp only [show (¬ ((2 : Int) = 1)) by decide, if_false, if_true, Option.bind_some, word_open.l0, l1, rd_zero, top63, Int.zero_lt_one, Int.le_refl, w1]
      rw [if_neg (by omega)]
      simp
    · simp [h1, h2]
theorem shape_inf1 : word_shape_inf.f 23 255 2147483648 = some 2139095040 := by decide +kernel
theorem shape_inf2 : word_shape_inf.f 52 2047 9223372036854775808 = some 9218868437227405312 := by decide +kernel
theorem shl23 : shl .u64 1 23 = 8388608 := by decide +kernel
theorem shl52 : shl .u64 1 52 = 4503599627370496 := by decide +kernel
theorem shape_class {f w : Int} (h : Gd f w) : word_shape_class.f (shp f).1 (shp f).2.1 (shp f).2.2 w = some (cl f w) := by
  rcases h with ⟨rfl, h0, h1⟩ | ⟨rfl, h0, h1⟩
  · have e1 : shp 1 = (23, 255, 2147483648) := rfl
    rw [e1]
    simp only [word_shape_class.f, andNot31 h0 h1, shape_inf1, Option.bind_some, shl23, cl, cls, one, infw, sgn, if_true]
    repeat' split
    all_goals first | rfl | (exfalso; omega)
  · have e1 : shp 2 = (52, 2047, 9223372036854775808) := rfl
    rw [e1]
    simp only [word_shape_class.f, andNot63 h0 h1, shape_inf2, Option.bind_some, shl52, cl, cls, one, infw, sgn]
    simp only [show (¬ ((2 : Int) = 1)) by decide, if_false]
    repeat' split
    all_goals first | rfl | (exfalso; omega)
theorem split_good (k : Nat) {f w : Int} (h : Gd f w) : word_Split.f (k + 2) f w = some (decide (w ≥ sgn f), w % sgn f / one f, w % one f, 0) := by
  unfold word_Split.f
  rw [open_one k f w h.u, h.err]
  rcases h with ⟨rfl, h0, h1⟩ | ⟨rfl, h0, h1⟩
  · have e1 : shp 1 = (23, 255, 2147483648) := rfl
    have e2 : IntKind.u64.wrap (8388608 - 1) = 8388607 := by decide +kernel
    have e3 : shr .u64 (w % 2147483648) 23 = w % 2147483648 / 8388608 := rfl
    rw [e1]
    simp only [Option.bind_some, if_true, word_shape_split.f, andNot31 h0 h1, and31 h0 h1, shl23, e2, e3, sgn, one]
    rw [and23 (by omega) (by omega)]
    have e4 : wrap64 (w % 2147483648 / 8388608) = w % 2147483648 / 8388608 := by unfold wrap64; omega
    have e5 : w % 2147483648 % 8388608 = w % 8388608 := by omega
    rw [e4, e5]
    by_cases c : w ≥ 2147483648 <;> simp [c]
  · have e1 : shp 2 = (52, 2047, 9223372036854775808) := rfl
    have e2 : IntKind.u64.wrap (4503599627370496 - 1) = 4503599627370495 := by decide +kernel
    have e3 : shr .u64 (w % 9223372036854775808) 52 = w % 9223372036854775808 / 4503599627370496 := rfl
    rw [e1]
    simp only [Option.bind_some, if_true, word_shape_split.f, andNot63 h0 h1, and63 h0 h1, shl52, e2, e3, sgn, one]
    rw [and52 (by omega) (by omega)]
    have e4 : wrap64 (w % 9223372036854775808 / 4503599627370496) = w % 9223372036854775808 / 4503599627370496 := by unfold wrap64; omega
    have e5 : w % 9223372036854775808 % 4503599627370496 = w % 4503599627370496 := by omega
    rw [e4, e5]
    by_cases c : w ≥ 9223372036854775808 <;> simp [c]
theorem good_word (k : Nat) {f w : Int} (hu : U w) : word_Good.f (k + 2) f w = some (err f w) := by
  unfold word_Good.f
  rw [open_one k f w hu]
  simp only [Option.bind_some]
theorem sgn_cases (f : Int) : sgn f = 2147483648 ∨ sgn f = 9223372036854775808 := by unfold sgn; split <;> simp
def most (f : Int) : Int := if f = 1 then 255 else 2047
def Fit (f e fr : Int) : Prop := 0 ≤ e ∧ e ≤ most f ∧ fr < one f
def jw (f : Int) (b : Bool) (e fr : Int) : Int := if b then e * one f + fr + sgn f else e * one f + fr
theorem open_nil' (k : Nat) (f : Int) : word_open.f (k + 1) f ([] : List Int) = some ((shp f).1, (shp f).2.1, (shp f).2.2, if f = 1 ∨ f = 2 then 0 else 4) := open_nil k f
theorem div_zero_iff {x P : Int} (hP : 0 < P) (h0 : 0 ≤ x) : x / P = 0 ↔ x < P := by
  constructor
  · intro h
    by_cases c : x < P
    · exact c
    · have : 1 ≤ x / P := (Int.le_ediv_iff_mul_le hP).2 (by omega)
      omega
  · intro h; exact Int.ediv_eq_zero_of_lt h0 h
theorem shape_join {f : Int} (hf : f = 1 ∨ f = 2) {b : Bool} {e fr : Int} (h : Fit f e fr) (h0 : 0 ≤ fr) :
    word_shape_join.f (shp f).1 (shp f).2.1 (shp f).2.2 b e fr = some (jw f b e fr) := by
  obtain ⟨a1, a2, a3⟩ := h
  unfold word_shape_join.f jw
  rcases hf with rfl | rfl
  · have e1 : shp 1 = (23, 255, 2147483648) := rfl
    have a4 : e ≤ 255 := a2
    have a5 : fr < 8388608 := a3
    have e2 : shl .u64 (IntKind.u64.wrap e) 23 = e * 8388608 := by
      have : shl .u64 (IntKind.u64.wrap e) 23 = IntKind.u64.wrap (IntKind.u64.wrap e * 8388608) := rfl
      rw [this, wrapu64, wrapu64]; omega
    rw [e1]
    simp only [e2, one, sgn, if_true]
    rw [join23 (by omega) (by omega) h0 (by omega), if_pos (by decide), or31 (by omega) (by omega)]
    cases b <;> rfl
  · have e1 : shp 2 = (52, 2047, 9223372036854775808) := rfl
    have a4 : e ≤ 2047 := a2
    have a5 : fr < 4503599627370496 := a3
    have e2 : shl .u64 (IntKind.u64.wrap e) 52 = e * 4503599627370496 := by
      have : shl .u64 (IntKind.u64.wrap e) 52 = IntKind.u64.wrap (IntKind.u64.wrap e * 4503599627370496) := rfl
      rw [this, wrapu64, wrapu64]; omega
    rw [e1]
    simp only [e2, one, sgn, show (¬ ((2 : Int) = 1)) by decide, if_false]
    rw [join52 (by omega) (by omega) h0 (by omega), if_pos (by decide), or63 (by omega) (by omega)]
    cases b <;> rfl
theorem join_good (k : Nat) {f : Int} (hf : f = 1 ∨ f = 2) {b : Bool} {e fr : Int} (h : Fit f e fr) (h0 : 0 ≤ fr) : word_Join.f (k + 1) f b e fr = some (jw f b e fr, 0) := by
  unfold word_Join.f
  rw [open_nil' k f]
  have hj := shape_join hf (b := b) h h0
  obtain ⟨a1, a2, a3⟩ := h
  have c1 : (shp f).2.1 = most f := by rcases hf with rfl | rfl <;> rfl
  have c2 : 0 ≤ (shp f).1 := by rcases hf with rfl | rfl <;> decide
  have c3 : shr .u64 fr (shp f).1 = 0 := by
    rcases hf with rfl | rfl
    · exact (div_zero_iff (P := 8388608) (by decide) h0).2 a3
    · exact (div_zero_iff (P := 4503599627370496) (by decide) h0).2 a3
  simp only [Option.bind_some, if_pos hf, if_true]
  rw [if_neg (by omega), if_neg (by omega), if_pos c2, if_pos c3, hj]
  rfl
theorem join_misfit (k : Nat) {f : Int} (hf : f = 1 ∨ f = 2) {b : Bool} {e fr : Int} (h : ¬ Fit f e fr) (h0 : 0 ≤ fr) : word_Join.f (k + 1) f b e fr = some (0, 2) := by
  unfold word_Join.f
  rw [open_nil' k f]
  have c1 : (shp f).2.1 = most f := by rcases hf with rfl | rfl <;> rfl
  have c2 : 0 ≤ (shp f).1 := by rcases hf with rfl | rfl <;> decide
  have c3 : shr .u64 fr (shp f).1 = 0 ↔ fr < one f := by
    rcases hf with rfl | rfl
    · exact div_zero_iff (P := 8388608) (by decide) h0
    · exact div_zero_iff (P := 4503599627370496) (by decide) h0
  simp only [Option.bind_some, if_pos hf, if_true]
  by_cases d1 : e < 0
  · rw [if_pos d1]
  · rw [if_neg d1]
    by_cases d2 : e > most f
    · rw [if_pos (by omega)]
    · rw [if_neg (by omega), if_pos c2, if_neg]
      intro c
      exact h ⟨by omega, by omega, c3.1 c⟩
theorem known03 (k : Nat) : cutplanelaw03_known.f (k + 2) = some true := by
  unfold cutplanelaw03_known.f
  rw [show k + 2 = (k + 1) + 1 from rfl, join_good (k + 1) (f := 1) (.inl rfl) (by unfold Fit most one; decide) (by decide), split_good k (f := 2) (.inr ⟨rfl, by decide, by decide⟩)]
  decide +kernel
end Go.Proofs.YthiklmgdmaemgaaDoor.PA
end

section
namespace Go.Proofs.YthiklmgdmaemgaaDoor.PA
open Go.RowKit Go.Proofs.YthiklmgdmaemgaaDoorW.PrintWords Go.Proofs.YthiklmgdmaemgaaDoorW.PrintLast Go.Proofs.YthiklmgdmaemgaaDoorW.PrintMore Go.Proofs.YthiklmgdmaemgaaDoor.Wd
set_option linter.unusedSimpArgs false
set_option linter.unusedVariables false
theorem infw_lt (f : Int) : 0 ≤ infw f ∧ infw f < sgn f ∧ infw f < nanw f ∧ nanw f < sgn f ∧ one f < infw f ∧ 0 < one f := by unfold infw sgn nanw one; split <;> decide
end Go.Proofs.YthiklmgdmaemgaaDoor.PA
end

section
namespace Go.Proofs.YthiklmgdmaemgaaDoor.PA
open Go.RowKit Go.Proofs.YthiklmgdmaemgaaDoorW.PrintWords Go.Proofs.YthiklmgdmaemgaaDoorW.PrintLast Go.Proofs.YthiklmgdmaemgaaDoorW.PrintMore Go.Proofs.YthiklmgdmaemgaaDoor.Wd
set_option linter.unusedSimpArgs false
set_option linter.unusedVariables false
theorem size_pos (f w : Int) : 0 ≤ w % sgn f ∧ w % sgn f < sgn f := by
  rcases sgn_cases f with h | h <;> rw [h] <;> omega
/-- a word lies below twice the sign -/
theorem gd_lt {f w : Int} (h : Gd f w) : 0 ≤ w ∧ w < 2 * sgn f ∧ (f = 1 ∨ f = 2) := by
  unfold sgn
  rcases h with ⟨rfl, h0, h1⟩ | ⟨rfl, h0, h1⟩
  · exact ⟨h0, by simp only [if_true]; omega, .inl rfl⟩
  · exact ⟨h0, by simp only [show (¬ ((2 : Int) = 1)) by decide, if_false]; omega, .inr rfl⟩
theorem size_lo {f w : Int} (h : Gd f w) : (w < sgn f ∧ w % sgn f = w) ∨ (sgn f ≤ w ∧ w % sgn f = w - sgn f) := by
  have := gd_lt h
  rcases sgn_cases f with e | e <;> rw [e] at this ⊢ <;> omega
end Go.Proofs.YthiklmgdmaemgaaDoor.PA
end

section
namespace Go.Proofs.YthiklmgdmaemgaaDoor.PA
open Go.RowKit Go.Proofs.YthiklmgdmaemgaaDoorW.PrintWords Go.Proofs.YthiklmgdmaemgaaDoorW.PrintLast Go.Proofs.YthiklmgdmaemgaaDoorW.PrintMore Go.Proofs.YthiklmgdmaemgaaDoor.Wd
set_option linter.unusedSimpArgs false
set_option linter.unusedVariables false
/-- how many least units a size is -/
def magn (P s : Nat) : Nat := if s / P = 0 then s % P else 2 ^ (s / P - 1) * (P + s % P)
theorem magn_zero {P : Nat} (hP : 0 < P) : magn P 0 = 0 := by
  unfold magn; simp
def lowe (f : Int) : Int := if f = 1 then -149 else -1074
theorem one_cases (f : Int) : (one f = 8388608 ∧ sgn f = 2147483648 ∧ lowe f = -149 ∧ (if f = 1 then (23 : Int) else 52) = 23) ∨ (one f = 4503599627370496 ∧ sgn f = 9223372036854775808 ∧ lowe f = -1074 ∧ (if f = 1 then (23 : Int) else 52) = 52) := by
  unfold one sgn lowe
  by_cases h : f = 1
  · left; simp [h]
  · right; simp [h]
theorem one_toNat (f : Int) : (((one f).toNat : Nat) : Int) = one f ∧ 0 < (one f).toNat := by
  rcases one_cases f with ⟨h, _⟩ | ⟨h, _⟩ <;> rw [h] <;> decide
end Go.Proofs.YthiklmgdmaemgaaDoor.PA
end

section
namespace Go.Proofs.YthiklmgdmaemgaaDoor.PA
open Go.RowKit Go.Proofs.YthiklmgdmaemgaaDoorW.PrintWords Go.Proofs.YthiklmgdmaemgaaDoorW.PrintLast Go.Proofs.YthiklmgdmaemgaaDoorW.PrintMore Go.Proofs.YthiklmgdmaemgaaDoor.Wd
set_option linter.unusedSimpArgs false
set_option linter.unusedVariables false
theorem trim_loop {l : List Int} (hd : Dg l) (hl : Sh l) : ∀ (i k : Nat), i ≤ l.length → i < k → nat_trim.l0 k (l.take i) = some (dg (vn (l.take i))) := by
  unfold Sh at hl
  intro i
  induction i with
  | zero =>
    intro k _ hk
    obtain ⟨k, rfl⟩ : ∃ m, k = m + 1 := ⟨k - 1, by omega⟩
    simp [nat_trim.l0, vn, dg_zero]
  | succ i ih =>
    intro k hi hk
    obtain ⟨k, rfl⟩ : ∃ m, k = m + 1 := ⟨k - 1, by omega⟩
    have hlen : (l.take (i + 1)).length = i + 1 := by rw [List.length_take]; omega
    have w1 : wrap64 (((l.take (i + 1)).length : Int) - 1) = (i : Int) := by rw [hlen]; unfold wrap64; omega
    have hlt : i < (l.take (i + 1)).length := by omega
    have hg : (l.take (i + 1))[i] = l[i] := by rw [List.getElem_take]
    rw [nat_trim.l0, w1, hlen, if_pos (by omega), if_pos (by omega), if_pos (by omega), rd_at _ i hlt, hg]
    by_cases z : l[i] = 0
    · rw [if_pos z, if_pos (by omega), Int.toNat_natCast, List.take_take, Nat.min_eq_left (by omega), ih k (by omega) (by omega), vn_take_zero (by omega) z]
    · rw [if_neg z]
      congr 1
      exact eq_dg (dg_take hd _) (nm_take (by omega) z)
theorem trim_val {l : List Int} (hd : Dg l) (hl : Sh l) (k : Nat) (hk : l.length < k) : nat_trim.f k l = some (dg (vn l)) := by
  have h := trim_loop hd hl l.length k (Nat.le_refl _) hk
  rw [List.take_length] at h
  exact h
theorem nat_of_val {n : Int} (h0 : 0 ≤ n) (h1 : n < 18446744073709551616) (k : Nat) (hk : 2 < k) : nat_Of.f k n = some (dg n.toNat) := by
  unfold nat_Of.f
  have hd : Dg [n % 4294967296, n / 4294967296 % 4294967296] := by
    intro d hm
    simp only [List.mem_cons, List.not_mem_nil, or_false] at hm
    rcases hm with rfl | rfl <;> constructor <;> omega
  rw [trim_val hd (by unfold Sh; simp) k hk]
  have e : vn [n % 4294967296, n / 4294967296 % 4294967296] = n.toNat := by simp only [vn]; omega
  rw [e]; rfl
theorem may_val {N : Nat} (hl : (dg N).length ≤ 4096) : nat_May.f (dg N) = some true := by
  unfold nat_May.f
  rw [if_pos (by omega)]
  by_cases z : (dg N).length = 0
  · rw [if_pos (by omega)]
  · have hN : N ≠ 0 := fun h => z (by rw [h, dg_zero]; rfl)
    have w1 : wrap64 (((dg N).length : Int) - 1) = (((dg N).length - 1 : Nat) : Int) := by unfold wrap64; omega
    have hlo := dg_lo hN
    have hhi := dg_hi N
    have hlt : (dg N).length - 1 < (dg N).length := by omega
    rw [if_neg (by omega), w1, if_pos (by omega), if_pos (by omega), rd_dg hlt]
    have e : N / 4294967296 ^ ((dg N).length - 1) ≠ 0 := by
      have := Nat.div_pos hlo (Nat.pos_of_ne_zero (by simp))
      omega
    have e2 : N / 4294967296 ^ ((dg N).length - 1) < 4294967296 := by
      rw [Nat.div_lt_iff_lt_mul (Nat.pos_of_ne_zero (by simp))]
      have : 4294967296 ^ (dg N).length = 4294967296 * 4294967296 ^ ((dg N).length - 1) := by rw [← Nat.pow_succ', Nat.succ_eq_add_one]; congr 1; omega
      omega
    rw [Nat.mod_eq_of_lt e2]
    congr 1
    simp only [bne_iff_ne, ne_eq]
    omega
theorem tz_val {d : Nat} (h : d < 4294967296) : bits_TrailingZeros32.f (d : Int) = some ((Go.Lib.ctz 32 d : Nat) : Int) := by
  unfold bits_TrailingZeros32.f
  rw [if_pos (by omega), Int.toNat_natCast]
theorem two_pow_odd {t t' m m' : Nat} (hm : m % 2 = 1) (hm' : m' % 2 = 1) (h : 2 ^ t * m = 2 ^ t' * m') : t = t' := by
  have := tzn_mul hm t
  have h2 := tzn_mul hm' t'
  rw [h] at this
  omega
theorem ctz_val {t m d : Nat} (hm : m % 2 = 1) (h : d = 2 ^ t * m) (hd : d < 4294967296) : Go.Lib.ctz 32 d = t := by
  have h0 : d ≠ 0 := by rw [h]; exact Nat.ne_of_gt (Nat.mul_pos (Nat.two_pow_pos _) (by omega))
  unfold Go.Lib.ctz
  rw [if_neg h0]
  obtain ⟨q, hq, _⟩ := Go.Lib.ctzFrom_spec 32 d (by omega) hd
  rw [h] at hq
  exact (two_pow_odd hm (by omega) hq).symm ▸ by rw [h]
/-- the low noughts of a number of at most two digits -/
theorem low_val {t m : Nat} (hm : m % 2 = 1) (hN : 2 ^ t * m < 18446744073709551616) (k : Nat) : nat_Low.f (k + 4) (dg (2 ^ t * m)) = some (t : Int) := by
  have h0 : 2 ^ t * m ≠ 0 := Nat.ne_of_gt (Nat.mul_pos (Nat.two_pow_pos _) (by omega))
  have hl : (dg (2 ^ t * m)).length ≤ 2 := dg_length_le (by omega)
  have hp := dg_len_pos h0
  have w1 : wrap64 (0 + 1) = 1 := by decide +kernel
  have e32 : wrap64 (32 * 0) = 0 := by decide +kernel
  have e33 : wrap64 (32 * 1) = 32 := by decide +kernel
  unfold nat_Low.f
  rw [may_val (by omega)]
  simp only [Option.bind_some, if_true]
  have hr0 : rd (dg (2 ^ t * m)) 0 = ((2 ^ t * m % 4294967296 : Nat) : Int) := by
    have := rd_dg (n := 2 ^ t * m) (i := 0) hp
    simpa using this
  rw [nat_Low.l0, if_pos (by omega), if_pos (by omega), if_pos (by omega), hr0]
  by_cases z : 2 ^ t * m % 4294967296 = 0
  · have ht : 32 ≤ t := by
      have := low_digit (t := t) (m := m) (q := 0) hm (by omega) (by simpa using z)
      omega
    have hl2 : (dg (2 ^ t * m)).length = 2 := by
      have : ¬ (dg (2 ^ t * m)).length ≤ 1 := by
        intro h
        have h1 := dg_hi (2 ^ t * m)
        have h2 : 4294967296 ^ (dg (2 ^ t * m)).length ≤ 4294967296 ^ 1 := Nat.pow_le_pow_right (by decide) h
        omega
      omega
    have e : 2 ^ t * m / 4294967296 = 2 ^ (t - 32) * m := by
      have : 2 ^ t = 4294967296 * 2 ^ (t - 32) := by rw [show (4294967296 : Nat) = 2 ^ 32 from rfl, ← Nat.pow_add]; congr 1; omega
      rw [this, Nat.mul_assoc, Nat.mul_div_cancel_left _ (by decide)]
    have hlt : 2 ^ (t - 32) * m < 4294967296 := by omega
    have hr1 : rd (dg (2 ^ t * m)) 1 = ((2 ^ (t - 32) * m : Nat) : Int) := by
      have := rd_dg (n := 2 ^ t * m) (i := 1) (by omega)
      rw [show (4294967296 : Nat) ^ 1 = 4294967296 from rfl, e, Nat.mod_eq_of_lt hlt] at this
      exact this
    have hne : 2 ^ (t - 32) * m ≠ 0 := Nat.ne_of_gt (Nat.mul_pos (Nat.two_pow_pos _) (by omega))
    rw [if_pos (by omega), w1, nat_Low.l0, if_pos (by omega), if_pos (by omega), if_pos (by omega), hr1, if_neg (by omega), tz_val hlt, ctz_val hm rfl hlt]
    simp only [Option.bind_some, e33]
    congr 1
    have : t < 64 := by
      have h1 : 2 ^ t * 1 ≤ 2 ^ t * m := Nat.mul_le_mul_left _ (by omega)
      have : 2 ^ t < 2 ^ 64 := by omega
      exact (Nat.pow_lt_pow_iff_right (by decide)).1 this
    unfold wrap64
    omega
  · have ht : t < 32 := by
      apply Nat.lt_of_not_le
      intro h
      apply z
      have : 2 ^ t = 4294967296 * 2 ^ (t - 32) := by rw [show (4294967296 : Nat) = 2 ^ 32 from rfl, ← Nat.pow_add]; congr 1; omega
      rw [this, Nat.mul_assoc]
      exact Nat.mul_mod_right _ _
    have e : 2 ^ t * m % 4294967296 = 2 ^ t * (m % 2 ^ (32 - t)) := by
      rw [show (4294967296 : Nat) = 2 ^ t * 2 ^ (32 - t) by rw [← Nat.pow_add, show t + (32 - t) = 32 by omega], Nat.mul_mod_mul_left]
    have hodd : m % 2 ^ (32 - t) % 2 = 1 := by
      rw [Nat.mod_mod_of_dvd _ (by rw [show 32 - t = (32 - t - 1) + 1 by omega, Nat.pow_succ]; exact Nat.dvd_mul_left _ _)]
      exact hm
    have hlt : 2 ^ t * m % 4294967296 < 4294967296 := Nat.mod_lt _ (by decide)
    rw [if_neg (by omega), tz_val hlt, ctz_val hodd e hlt]
    simp only [Option.bind_some, e32]
    congr 1
    unfold wrap64
    omega
theorem wraps_u32 (n : Int) (h₀ : 0 ≤ n) (h₁ : n < 2 ^ 32) : IntKind.u32.wrap n = n := by
  have e : IntKind.u32.wrap n = n % 4294967296 := by simp [IntKind.wrap, IntKind.signed, IntKind.bits]
  rw [e]; omega
theorem lt_cast {y : Nat} (h : y < 4294967296) : (y : Int) < 4294967296 := by omega
theorem or_low32 {y x i : Nat} (hy : y < 2 ^ i) (hx : x % 2 ^ i = 0) (hx1 : x < 4294967296) (hy1 : y < 4294967296) : Go.bits .or .u32 (y : Int) (x : Int) = ((y + x : Nat) : Int) := by
  have h := bits_join_low .u32 32 (by decide) wraps_u32 i (y : Int) (x : Int) (by omega) (by exact_mod_cast hy) (by omega) (by omega) (by exact_mod_cast hx) (by omega)
  rw [h]; omega
theorem shr32 {y s : Nat} (hs : s < 32) : shr .u32 (y : Int) (s : Int) = ((y / 2 ^ s : Nat) : Int) := by
  unfold shr
  have e : min ((s : Int)).toNat IntKind.u32.bits = s := by have : IntKind.u32.bits = 32 := rfl; omega
  rw [e]; push_cast; rfl
theorem dg1 {n : Nat} (h0 : n ≠ 0) (h : n < 4294967296) : dg n = [(n : Int)] := by
  rw [dg_pos h0, Nat.div_eq_of_lt h, dg_zero, Nat.mod_eq_of_lt h]
theorem dg2 {n : Nat} (h0 : ¬ n < 4294967296) (h : n < 18446744073709551616) : dg n = [((n % 4294967296 : Nat) : Int), ((n / 4294967296 : Nat) : Int)] := by
  rw [dg_pos (by omega), dg1 (by omega) (by omega)]
/-- one digit, shifted down -/
theorem down_one {d s : Nat} (hs : s < 32) (hd : d < 4294967296) (k : Nat) : nat_down.l0 (k + 5) [(d : Int)] (s : Int) [0] [(d : Int)] 1 0 = some (dg (d / 2 ^ s)) := by
  have l1 : (([(d : Int)] : List Int).length : Int) = 1 := rfl
  have l0 : (([(0 : Int)] : List Int).length : Int) = 1 := rfl
  have r0 : rd [(d : Int)] 0 = d := rfl
  have w1 : wrap64 (0 + 1) = 1 := by decide +kernel
  have hq : d / 2 ^ s < 4294967296 := Nat.lt_of_le_of_lt (Nat.div_le_self _ _) hd
  rw [nat_down.l0, if_pos (by decide), if_pos (by decide), l1, l0, if_pos (by decide), if_pos (by omega), if_pos (by decide), r0, shr32 hs]
  simp only [Option.bind_some, w1, Int.lt_irrefl, if_false]
  have e : ([(0 : Int)] : List Int).set (0 : Int).toNat ((d / 2 ^ s : Nat) : Int) = [((d / 2 ^ s : Nat) : Int)] := rfl
  rw [e, nat_down.l0, if_neg (by decide), trim_val (dg_one (Int.natCast_nonneg _) (lt_cast hq)) (by unfold Sh; simp) _ (by simp)]
  simp only [Option.bind_some, vn]
  congr 2
/-- two digits, shifted down by less than one -/
theorem down_two {lo hi s : Nat} (hs : s < 32) (hl : lo < 4294967296) (hh : hi < 4294967296) (k : Nat) : nat_down.l0 (k + 8) [(lo : Int), (hi : Int)] (s : Int) [0, 0] [(lo : Int), (hi : Int)] 2 0 = some (dg ((lo + 4294967296 * hi) / 2 ^ s)) := by
  have l1 : (([(lo : Int), (hi : Int)] : List Int).length : Int) = 2 := rfl
  have l2 : ∀ x y : Int, (([x, y] : List Int).length : Int) = 2 := fun _ _ => rfl
  have r0 : rd [(lo : Int), (hi : Int)] 0 = lo := rfl
  have r1 : rd [(lo : Int), (hi : Int)] 1 = hi := rfl
  have r2 : ∀ x y : Int, rd [x, y] 0 = x := fun _ _ => rfl
  have w1 : wrap64 (0 + 1) = 1 := by decide +kernel
  have w2 : wrap64 (1 + 1) = 2 := by decide +kernel
  have w3 : wrap64 (32 - (s : Int)) = ((32 - s : Nat) : Int) := by unfold wrap64; omega
  have hq : lo / 2 ^ s < 2 ^ (32 - s) := by
    rw [Nat.div_lt_iff_lt_mul (Nat.two_pow_pos s), ← Nat.pow_add, show 32 - s + s = 32 by omega]; exact hl
  have hq2 : lo / 2 ^ s < 4294967296 := Nat.lt_of_le_of_lt (Nat.div_le_self _ _) hl
  have hq3 : hi / 2 ^ s < 4294967296 := Nat.lt_of_le_of_lt (Nat.div_le_self _ _) hh
  have s0 : ∀ x y z : Int, ([x, y] : List Int).set (0 : Int).toNat z = [z, y] := fun _ _ _ => rfl
  have s1 : ∀ x y z : Int, ([x, y] : List Int).set (1 : Int).toNat z = [x, z] := fun _ _ _ => rfl
  have hx : hi * 2 ^ (32 - s) % 4294967296 % 2 ^ (32 - s) = 0 := by
    rw [Nat.mod_mod_of_dvd _ ⟨2 ^ s, by rw [← Nat.pow_add, show 32 - s + s = 32 by omega]⟩]
    exact Nat.mul_mod_left _ _
  have hor := or_low32 hq hx (Nat.mod_lt _ (by decide)) hq2
  rw [nat_down.l0, if_pos (by decide), if_pos (by decide), l1, l2, if_pos (by decide), if_pos (by omega), if_pos (by decide), r0, shr32 hs]
  simp only [Option.bind_some, w1, s0, l1]
  rw [if_pos (by decide), if_pos (by decide), w3, if_pos (by omega), r2, r1, u64_of (by omega), shl_nat (by omega) hh, cast_mod, hor, nat_down.l0, if_pos (by decide), if_pos (by decide), l1, l2, if_pos (by decide), if_pos (by omega), if_pos (by decide), r1, shr32 hs]
  simp only [Option.bind_some, w2, s1, l1, Int.lt_irrefl, if_false]
  have hlo : lo / 2 ^ s + hi * 2 ^ (32 - s) % 4294967296 < 4294967296 := by
    have a1 : hi * 2 ^ (32 - s) % 4294967296 + 2 ^ (32 - s) ≤ 4294967296 := by
      have hd : 2 ^ (32 - s) ∣ hi * 2 ^ (32 - s) % 4294967296 := Nat.dvd_of_mod_eq_zero hx
      have hd2 : 2 ^ (32 - s) ∣ 4294967296 := ⟨2 ^ s, by rw [← Nat.pow_add, show 32 - s + s = 32 by omega]⟩
      have hlt : hi * 2 ^ (32 - s) % 4294967296 < 4294967296 := Nat.mod_lt _ (by decide)
      obtain ⟨x, hx⟩ := hd
      obtain ⟨y, hy⟩ := hd2
      rw [hx] at hlt ⊢
      generalize 2 ^ (32 - s) = P at *
      rw [hy] at hlt
      have : x < y := Nat.lt_of_mul_lt_mul_left hlt
      have h2 : P * (x + 1) ≤ P * y := Nat.mul_le_mul_left _ this
      rw [Nat.mul_add, Nat.mul_one] at h2
      rw [hy]; exact h2
    omega
  rw [nat_down.l0, if_neg (by decide), trim_val (by
    intro d hm
    simp only [List.mem_cons, List.not_mem_nil, or_false] at hm
    rcases hm with rfl | rfl
    · exact ⟨Int.natCast_nonneg _, lt_cast hlo⟩
    · exact ⟨Int.natCast_nonneg _, lt_cast hq3⟩) (by unfold Sh; simp) _ (by simp)]
  simp only [Option.bind_some, vn]
  have e : (lo + 4294967296 * hi) / 2 ^ s = lo / 2 ^ s + 2 ^ (32 - s) * hi := div_step hs
  have key : ((lo / 2 ^ s + hi * 2 ^ (32 - s) % 4294967296 : Nat) : Int).toNat + 4294967296 * (((hi / 2 ^ s : Nat) : Int).toNat + 4294967296 * 0) = (lo + 4294967296 * hi) / 2 ^ s := by
    rw [e, Int.toNat_natCast, Int.toNat_natCast]
    have h1 : 2 ^ (32 - s) * hi / 4294967296 = hi / 2 ^ s := by
      have : (4294967296 : Nat) = 2 ^ (32 - s) * 2 ^ s := by rw [← Nat.pow_add, show 32 - s + s = 32 by omega]
      rw [this, Nat.mul_div_mul_left _ _ (Nat.two_pow_pos _)]
    have h2 := Nat.div_add_mod (2 ^ (32 - s) * hi) 4294967296
    rw [h1] at h2
    rw [Nat.mul_comm hi]
    generalize 2 ^ (32 - s) * hi = z at *
    generalize hi / 2 ^ s = v at *
    omega
  rw [key]
theorem down_val {N t : Nat} (h0 : N ≠ 0) (hN : N < 18446744073709551616) (ht : t < 64) (htop : t < 32 * (dg N).length) (k : Nat) : nat_down.f (k + 8) (dg N) (t : Int) = some (dg (N / 2 ^ t)) := by
  have hT : Int.tdiv (t : Int) 32 = ((t / 32 : Nat) : Int) := by rw [Int.tdiv_eq_ediv_of_nonneg (by omega)]; omega
  have hM : Int.tmod (t : Int) 32 = ((t % 32 : Nat) : Int) := by rw [Int.tmod_eq_emod_of_nonneg (by omega)]; omega
  have w1 : wrap64 ((t / 32 : Nat) : Int) = ((t / 32 : Nat) : Int) := by unfold wrap64; omega
  have hs : t % 32 < 32 := Nat.mod_lt _ (by decide)
  unfold nat_down.f
  rw [hT, hM, w1, if_neg (by omega), if_pos (by omega), if_pos (by omega), Int.toNat_natCast]
  by_cases c : N < 4294967296
  · rw [dg1 h0 c] at *
    have z : t / 32 = 0 := by simp at htop; omega
    have e : t % 32 = t := by omega
    rw [z, e]
    simp only [List.drop_zero, List.length_singleton]
    rw [if_pos (by decide), if_pos (by decide)]
    exact down_one (by omega) c (k + 3)
  · rw [dg2 c hN] at *
    by_cases z : t / 32 = 0
    · have e : t % 32 = t := by omega
      rw [z, e]
      simp only [List.drop_zero]
      have l2 : ∀ x y : Int, (([x, y] : List Int).length : Int) = 2 := fun _ _ => rfl
      rw [l2, if_pos (by decide), if_pos (by decide)]
      have h := down_two (s := t) (lo := N % 4294967296) (hi := N / 4294967296) (by omega) (Nat.mod_lt _ (by decide)) (by omega) k
      rw [show N % 4294967296 + 4294967296 * (N / 4294967296) = N by omega] at h
      exact h
    · have z1 : t / 32 = 1 := by omega
      rw [z1]
      simp only [List.drop_succ_cons, List.drop_zero, List.length_singleton]
      rw [if_pos (by decide), if_pos (by decide)]
      have h := down_one (s := t % 32) (d := N / 4294967296) hs (by omega) (k + 3)
      have e : N / 4294967296 / 2 ^ (t % 32) = N / 2 ^ t := by
        rw [Nat.div_div_eq_div_mul, show (4294967296 : Nat) = 2 ^ 32 from rfl, ← Nat.pow_add]
        congr 2; omega
      rw [e] at h
      exact h
/-- nothing shifted up -/
theorem up_loop0 {l : List Int} (hd : Dg l) (hl : l.length < 1000) : ∀ (d i k : Nat) (out : List Int), l.length - i = d → i ≤ l.length → out = l.take i → 2 * d + l.length + 3 < k → nat_up.l0 k out 0 0 l (l.length : Int) (i : Int) = some (dg (vn l)) := by
  intro d
  induction d with
  | zero =>
    intro i k out h1 h2 ho hk
    obtain ⟨k, rfl⟩ : ∃ m, k = m + 1 := ⟨k - 1, by omega⟩
    have hi : i = l.length := by omega
    subst hi
    rw [List.take_length] at ho
    subst ho
    rw [nat_up.l0, if_neg (by omega), if_pos (by omega), trim_val (dg_append hd (dg_one (by decide) (by decide))) (by unfold Sh; simp; omega) k (by simp; omega)]
    simp only [Option.bind_some]
    rw [vn_append]
    simp only [vn, Int.toNat_zero, Nat.mul_zero, Nat.add_zero]
  | succ d ih =>
    intro i k out h1 h2 ho hk
    obtain ⟨k, rfl⟩ : ∃ m, k = m + 1 := ⟨k - 1, by omega⟩
    have hlt : i < l.length := by omega
    have hm := dg_mem hd hlt
    have w1 : wrap64 ((i : Int) + 1) = ((i + 1 : Nat) : Int) := by unfold wrap64; omega
    have w2 : wrap64 (32 - 0) = 32 := by decide +kernel
    have hr := rd_at l i hlt
    obtain ⟨y, hy⟩ : ∃ y : Nat, l[i] = (y : Int) := ⟨l[i].toNat, by omega⟩
    have hsl : shl .u32 (y : Int) 0 = (y : Int) := by
      unfold shl
      have e : min ((0 : Int)).toNat IntKind.u32.bits = 0 := by simp
      rw [e]
      simp only [Int.pow_zero, Int.mul_one]
      exact wraps_u32 _ (by omega) (by omega)
    have hor : Go.bits .or .u32 (y : Int) 0 = (y : Int) := by
      have := or_low32 (y := y) (x := 0) (i := 32) (by omega) (by simp) (by omega) (by omega)
      simpa using this
    have hsr : shr .u64 (IntKind.u64.wrap (y : Int)) 32 % 4294967296 = 0 := by
      have := shr_nat (y := y) (s := 32) (by omega)
      rw [u64_of (by omega)]
      rw [show ((32 : Nat) : Int) = 32 from rfl] at this
      rw [this, Nat.div_eq_of_lt (by omega)]; rfl
    have hlo : out.length = i := by rw [ho, List.length_take]; omega
    rw [nat_up.l0, if_pos (by omega), if_pos (by omega), if_pos (by omega), if_pos (by decide), if_pos (by omega), w2, if_pos (by decide), w1, hr, hy, hsl, hor, hsr]
    exact ih (i + 1) k _ (by omega) (by omega) (by rw [ho, ← hy, List.take_succ_eq_append_getElem hlt]) (by omega)
theorem up_val0 {N : Nat} (hl : (dg N).length ≤ 2) (k : Nat) : nat_up.f (k + 12) (dg N) 0 = some (dg N) := by
  unfold nat_up.f
  by_cases z : (dg N).length = 0
  · have := List.length_eq_zero_iff.1 z
    rw [if_pos (by omega), this]
  · have t0 : Int.tdiv 0 32 = 0 := by decide
    have m0 : Int.tmod 0 32 = 0 := by decide
    have w0 : wrap64 0 = 0 := by decide +kernel
    have w1 : wrap64 (wrap64 (0 + ((dg N).length : Int)) + 1) = ((dg N).length : Int) + 1 := by unfold wrap64; omega
    rw [if_neg (by omega), t0, m0, w0, w1, if_pos (by decide), if_pos (by omega), if_pos (by omega)]
    have h := up_loop0 (dg_dg N) (by omega) (dg N).length 0 (k + 12) [] (by omega) (by omega) (by simp) (by omega)
    rw [vn_dg] at h
    exact h
theorem len32_some {d : Nat} (h : d < 4294967296) : ∃ n : Int, bits_Len32.f (d : Int) = some n ∧ 0 ≤ n ∧ n ≤ 300 := by
  unfold bits_Len32.f
  have hw : ∀ x y : Int, 0 ≤ x → x ≤ 255 → 0 ≤ y → y ≤ 30 → 0 ≤ wrap64 (y + wrap64 x) ∧ wrap64 (y + wrap64 x) ≤ 300 := by
    intro x y h0 h1 h2 h3
    unfold wrap64; omega
  repeat' split
  all_goals first
    | exact ⟨_, rfl, hw _ _ (bt_range _ _).1 (bt_range _ _).2 (by decide) (by decide)⟩
    | (exfalso; omega)
theorem len_some {N : Nat} (h0 : N ≠ 0) (hN : N < 18446744073709551616) : ∃ n : Int, nat_Len.f (dg N) = some n ∧ 0 ≤ n ∧ n ≤ 400 := by
  have hl : (dg N).length ≤ 2 := dg_length_le (by omega)
  have hp := dg_len_pos h0
  have w1 : wrap64 (((dg N).length : Int) - 1) = (((dg N).length - 1 : Nat) : Int) := by unfold wrap64; omega
  have hlt : (dg N).length - 1 < (dg N).length := by omega
  have hd : N / 4294967296 ^ ((dg N).length - 1) % 4294967296 < 4294967296 := Nat.mod_lt _ (by decide)
  obtain ⟨n, hn, n0, n1⟩ := len32_some hd
  unfold nat_Len.f
  rw [may_val (by omega)]
  simp only [Option.bind_some, if_true]
  rw [if_neg (by omega), w1, if_pos (by omega), if_pos (by omega), rd_dg hlt, hn]
  refine ⟨_, rfl, ?_⟩
  unfold wrap64
  omega
/-- a number in its one form -/
theorem make_val {N : Nat} (hN : N < 18446744073709551616) (neg : Bool) {e : Int} (e0 : -10000 < e) (e1 : e < 10000) (k : Nat) : dyad_Make.f (k + 16) neg (dg N) e = some ((fm neg N e).1, (fm neg N e).2.1, (fm neg N e).2.2, 0) := by
  have hl : (dg N).length ≤ 2 := dg_length_le (by omega)
  unfold dyad_Make.f
  rw [may_val (by omega)]
  simp only [Option.bind_some, if_true]
  by_cases h0 : N = 0
  · subst h0
    rw [dg_zero]; rfl
  · have hp := dg_len_pos h0
    obtain ⟨t, m, hNm, hm⟩ := odd_part h0
    subst hNm
    have ht : t < 64 := by
      have h1 : 2 ^ t * 1 ≤ 2 ^ t * m := Nat.mul_le_mul_left _ (by omega)
      have : 2 ^ t < 2 ^ 64 := by omega
      exact (Nat.pow_lt_pow_iff_right (by decide)).1 this
    have w1 : wrap64 (16777216 - (t : Int)) = 16777216 - t := by unfold wrap64; omega
    have w2 : wrap64 (-16777216 - (t : Int)) = -16777216 - t := by unfold wrap64; omega
    have w3 : wrap64 (e + (t : Int)) = e + t := by unfold wrap64; omega
    have w4 : wrap64 (-(t : Int)) = -(t : Int) := by unfold wrap64; omega
    have w5 : wrap64 (-(-(t : Int))) = (t : Int) := by unfold wrap64; omega
    rw [if_neg (by omega), low_val hm hN (k + 12)]
    simp only [Option.bind_some]
    rw [w1, w2, w3, w4, if_neg (by omega), if_neg (by omega), fm_mk hm]
    unfold nat_Shift.f
    rw [may_val (by omega)]
    simp only [Option.bind_some, if_true]
    rw [if_neg (by omega), if_neg (by omega)]
    by_cases t0 : t = 0
    · subst t0
      obtain ⟨n, hn, n0, n1⟩ := len_some h0 hN
      have w6 : wrap64 (131072 - n) = 131072 - n := by unfold wrap64; omega
      have z : (-((0 : Nat) : Int)) = 0 := rfl
      rw [z, if_neg (by omega), hn]
      simp only [Option.bind_some]
      rw [w6, if_neg (by omega), up_val0 hl (k + 4)]
      simp only [Option.bind_some]
      rw [Nat.pow_zero, Nat.one_mul]
    · rw [if_pos (by omega), w5, down_val h0 hN ht (tz_lt hm) (k + 8)]
      simp only [Option.bind_some]
      rw [low_val hm hN (k + 12)]
      simp only [Option.bind_some]
      rw [Nat.mul_div_cancel_left _ (Nat.two_pow_pos _)]
end Go.Proofs.YthiklmgdmaemgaaDoor.PA
end

section
namespace Go.Proofs.YthiklmgdmaemgaaDoor.PA
open Go.RowKit Go.Proofs.YthiklmgdmaemgaaDoorW.PrintWords Go.Proofs.YthiklmgdmaemgaaDoorW.PrintLast Go.Proofs.YthiklmgdmaemgaaDoorW.PrintMore Go.Proofs.YthiklmgdmaemgaaDoor.Wd
set_option linter.unusedSimpArgs false
set_option linter.unusedVariables false
theorem fin_good (k : Nat) {f w : Int} (h : Gd f w) : word_finite.f (k + 2) f w = some ((shp f).1, (shp f).2.1, (shp f).2.2, if cl f w ≥ 4 then 7 else 0) := by
  unfold word_finite.f
  rw [open_one k f w h.u, h.err]
  simp only [Option.bind_some, if_true, shape_class h]
  split <;> rfl
theorem split_shape {f w : Int} (h : Gd f w) : word_shape_split.f (shp f).1 (shp f).2.1 (shp f).2.2 w = some (decide (w ≥ sgn f), w % sgn f / one f, w % one f) := by
  have e := split_good 0 h
  unfold word_Split.f at e
  rw [open_one 0 f w h.u, h.err] at e
  simp only [Option.bind_some, if_true] at e
  obtain ⟨x, hx, e⟩ := Option.bind_eq_some_iff.mp e
  rw [hx]
  obtain ⟨x1, x2, x3⟩ := x
  simp only [Option.some.injEq, Prod.mk.injEq, and_true] at e
  obtain ⟨rfl, rfl, rfl⟩ := e
  rfl
theorem low_shape {f : Int} (hf : f = 1 ∨ f = 2) : word_shape_low.f (shp f).1 (shp f).2.1 (shp f).2.2 = some (lowe f) := by
  rcases hf with rfl | rfl <;> decide +kernel
theorem shl_one {f : Int} (hf : f = 1 ∨ f = 2) : 0 ≤ (shp f).1 ∧ shl .u64 1 (shp f).1 = (((one f).toNat : Nat) : Int) ∧ ∃ i, (one f).toNat = 2 ^ i := by
  rcases hf with rfl | rfl
  · exact ⟨by decide, by decide +kernel, 23, by decide⟩
  · exact ⟨by decide, by decide +kernel, 52, by decide⟩
theorem val_core {f w : Int} (h : Gd f w) : ∃ E F : Nat, w % sgn f / one f = (E : Int) ∧ w % one f = (F : Int) ∧ (w % sgn f).toNat / (one f).toNat = E ∧ (w % sgn f).toNat % (one f).toNat = F ∧ F < (one f).toNat ∧ E < 2200 ∧ (one f).toNat ≤ 4503599627370496 := by
  have hs := size_pos f w
  have ho := one_toNat f
  have hl : (one f).toNat ≤ 4503599627370496 := by rcases one_cases f with ⟨a, _⟩ | ⟨a, _⟩ <;> rw [a] <;> decide
  have eS : w % one f = w % sgn f % one f := by
    rcases one_cases f with ⟨a, b, _⟩ | ⟨a, b, _⟩ <;> rw [a, b] <;> omega
  have hE : w % sgn f / one f < 2200 := by
    rcases one_cases f with ⟨a, b, _⟩ | ⟨a, b, _⟩ <;> rw [a, b] at * <;> omega
  rw [eS]
  generalize w % sgn f = s at *
  have e1 : s / one f = ((s.toNat / (one f).toNat : Nat) : Int) := by
    rw [Int.natCast_ediv, ho.1, Int.toNat_of_nonneg hs.1]
  have e2 : s % one f = ((s.toNat % (one f).toNat : Nat) : Int) := by
    rw [Int.natCast_emod, ho.1, Int.toNat_of_nonneg hs.1]
  exact ⟨_, _, e1, e2, rfl, rfl, Nat.mod_lt _ ho.2, by omega, hl⟩
theorem low_b (f : Int) : -1100 < lowe f ∧ lowe f < 0 := by unfold lowe; split <;> decide
theorem val_good {f w : Int} (h : Gd f w) (h4 : cl f w < 4) (k : Nat) : word_Value.f (k + 20) f w = some ((fm (decide (w ≥ sgn f)) (magn (one f).toNat (w % sgn f).toNat) (lowe f)).1, (fm (decide (w ≥ sgn f)) (magn (one f).toNat (w % sgn f).toNat) (lowe f)).2.1, (fm (decide (w ≥ sgn f)) (magn (one f).toNat (w % sgn f).toNat) (lowe f)).2.2, 0) := by
  have hf := (gd_lt h).2.2
  obtain ⟨s0, s1, i, hi⟩ := shl_one hf
  obtain ⟨E, F, e1, e2, e3, e4, hF, hE, ho⟩ := val_core h
  have hb := low_b f
  unfold word_Value.f
  rw [show k + 20 = (k + 18) + 2 from rfl, fin_good (k + 18) h, if_neg (show ¬ cl f w ≥ 4 by omega)]
  simp only [Option.bind_some, if_true, split_shape h, low_shape hf]
  rw [if_pos s0, s1, e1, e2]
  unfold magn
  rw [e3, e4]
  by_cases z : E = 0
  · subst z
    have w1 : wrap64 (wrap64 (mx ((0 : Nat) : Int) 1 - 1) + lowe f) = lowe f := by
      have : mx ((0 : Nat) : Int) 1 = 1 := by decide
      rw [this]; unfold wrap64; omega
    rw [if_neg (by decide), if_pos rfl, nat_of_val (by omega) (by omega) _ (by omega), w1]
    simp only [Option.bind_some, Int.toNat_natCast]
    rw [show k + 18 + 2 = (k + 4) + 16 from rfl, make_val (by omega) _ (by omega) (by omega)]
    rfl
  · have w1 : wrap64 (wrap64 (mx (E : Int) 1 - 1) + lowe f) = lowe f + ((E - 1 : Nat) : Int) := by
      have : mx (E : Int) 1 = (E : Int) := by unfold mx; split <;> omega
      rw [this]; unfold wrap64; omega
    have hor : Go.bits .or .u64 (F : Int) (((one f).toNat : Nat) : Int) = ((F + (one f).toNat : Nat) : Int) := or_low (i := i) (by omega) (by rw [hi]; exact Nat.mod_self _) (by omega) (by omega)
    rw [if_pos (by omega), if_neg z, hor, nat_of_val (by omega) (by omega) _ (by omega), w1]
    simp only [Option.bind_some, Int.toNat_natCast]
    rw [show k + 18 + 2 = (k + 4) + 16 from rfl, make_val (by omega) _ (by omega) (by omega), fm_shift, Nat.add_comm F]
    rfl
end Go.Proofs.YthiklmgdmaemgaaDoor.PA
end

section
namespace Go.Proofs.YthiklmgdmaemgaaDoor.PA
open Go.RowKit Go.Proofs.YthiklmgdmaemgaaDoorW.PrintWords Go.Proofs.YthiklmgdmaemgaaDoorW.PrintLast Go.Proofs.YthiklmgdmaemgaaDoorW.PrintMore Go.Proofs.YthiklmgdmaemgaaDoor.Wd
set_option linter.unusedSimpArgs false
set_option linter.unusedVariables false
set_option maxRecDepth 100000 in
theorem tab_bl : ∀ i : Nat, i < 256 → wrap64 (bt (⟨#[0, 1, 2, 2, 3, 3, 3, 3, 4, 4, 4, 4, 4, 4, 4, 4, 5, 5, 5, 5, 5, 5, 5, 5, 5, 5, 5, 5, 5, 5, 5, 5, 6, 6, 6, 6, 6, 6, 6, 6, 6, 6, 6, 6, 6, 6, 6, 6, 6, 6, 6, 6, 6, 6, 6, 6, 6, 6, 6, 6, 6, 6, 6, 6, 7, 7, 7, 7, 7, 7, 7, 7, 7, 7, 7, 7, 7, 7, 7, 7, 7, 7, 7, 7, 7, 7, 7, 7, 7, 7, 7, 7, 7, 7, 7, 7, 7, 7, 7, 7, 7, 7, 7, 7, 7, 7, 7, 7, 7, 7, 7, 7, 7, 7, 7, 7, 7, 7, 7, 7, 7, 7, 7, 7, 7, 7, 7, 7, 8, 8, 8, 8, 8, 8, 8, 8, 8, 8, 8, 8, 8, 8, 8, 8, 8, 8, 8, 8, 8, 8, 8, 8, 8, 8, 8, 8, 8, 8, 8, 8, 8, 8, 8, 8, 8, 8, 8, 8, 8, 8, 8, 8, 8, 8, 8, 8, 8, 8, 8, 8, 8, 8, 8, 8, 8, 8, 8, 8, 8, 8, 8, 8, 8, 8, 8, 8, 8, 8, 8, 8, 8, 8, 8, 8, 8, 8, 8, 8, 8, 8, 8, 8, 8, 8, 8, 8, 8, 8, 8, 8, 8, 8, 8, 8, 8, 8, 8, 8, 8, 8, 8, 8, 8, 8, 8, 8, 8, 8, 8, 8, 8, 8, 8, 8, 8, 8, 8, 8, 8, 8, 8, 8, 8, 8, 8, 8]⟩ : ByteArray) (i : Int)) = (bl i : Int) := by decide +kernel
theorem ws {x : Int} (h0 : -1000000000 ≤ x) (h1 : x ≤ 1000000000) : wrap64 x = x := by unfold wrap64; omega
theorem bl_div {x s : Nat} (h : x / 2 ^ s ≠ 0) : bl x = bl (x / 2 ^ s) + s := by
  have hp := bl_pos h
  have h0 := bl_lo h
  have h1 := bl_hi (x / 2 ^ s)
  refine bl_eq (by omega) ?_ ?_
  · have e : bl (x / 2 ^ s) + s - 1 = (bl (x / 2 ^ s) - 1) + s := by omega
    rw [e, Nat.pow_add]
    exact Nat.le_trans (Nat.mul_le_mul_right _ h0) (Nat.div_mul_le_self _ _)
  · rw [Nat.pow_add]
    exact (Nat.div_lt_iff_lt_mul (Nat.two_pow_pos s)).1 h1
theorem len64_j (k : Nat) {y b : Nat} (hy : y < 4294967296) (hb : b ≤ 32) : bits_Len64.j0 (k + 1) (y : Int) (b : Int) = some (((b + bl y : Nat)) : Int) := by
  have h8 : ∀ i : Nat, i < 256 → bl i ≤ 8 := fun i hi => bl_le hi
  rw [bits_Len64.j0]
  by_cases c1 : 65536 ≤ y
  · rw [if_pos (by omega)]
    by_cases c2 : 256 ≤ y / 65536
    · have e : ((y : Int) / 65536 / 256) % 256 = ((y / 65536 / 256 : Nat) : Int) := by omega
      have d : y / 65536 / 256 = y / 2 ^ 24 := by rw [Nat.div_div_eq_div_mul]
      have h1 := bl_div (x := y) (s := 24) (by rw [← d]; omega)
      rw [← d] at h1
      have h2 := h8 (y / 65536 / 256) (by omega)
      rw [if_pos (by omega), e, if_pos (by omega), if_pos (by omega), tab_bl _ (by omega)]
      rw [ws (x := (b : Int) + 16) (by omega) (by omega), ws (x := (b : Int) + 16 + 8) (by omega) (by omega), ws (by omega) (by omega)]
      congr 1; omega
    · have e : ((y : Int) / 65536) % 256 = ((y / 65536 : Nat) : Int) := by omega
      have h1 := bl_div (x := y) (s := 16) (by show y / 65536 ≠ 0; omega)
      rw [show y / 2 ^ 16 = y / 65536 from rfl] at h1
      have h2 := h8 (y / 65536) (by omega)
      rw [if_neg (by omega), e, if_pos (by omega), if_pos (by omega), tab_bl _ (by omega)]
      rw [ws (x := (b : Int) + 16) (by omega) (by omega), ws (by omega) (by omega)]
      congr 1; omega
  · rw [if_neg (by omega)]
    by_cases c2 : 256 ≤ y
    · have e : ((y : Int) / 256) % 256 = ((y / 256 : Nat) : Int) := by omega
      have h1 := bl_div (x := y) (s := 8) (by show y / 256 ≠ 0; omega)
      rw [show y / 2 ^ 8 = y / 256 from rfl] at h1
      have h2 := h8 (y / 256) (by omega)
      rw [if_pos (by omega), e, if_pos (by omega), if_pos (by omega), tab_bl _ (by omega)]
      rw [ws (x := (b : Int) + 8) (by omega) (by omega), ws (by omega) (by omega)]
      congr 1; omega
    · have e : (y : Int) % 256 = (y : Int) := by omega
      have h2 := h8 y (by omega)
      rw [if_neg (by omega), e, if_pos (by omega), if_pos (by omega), tab_bl _ (by omega)]
      rw [ws (by omega) (by omega)]
      congr 1
theorem len64 (k : Nat) {x : Nat} (h : x < 18446744073709551616) : bits_Len64.f (k + 1) (x : Int) = some (bl x : Int) := by
  unfold bits_Len64.f
  by_cases c : 4294967296 ≤ x
  · have e : (x : Int) / 4294967296 = ((x / 4294967296 : Nat) : Int) := by omega
    have h1 := bl_div (x := x) (s := 32) (by show x / 4294967296 ≠ 0; omega)
    rw [show x / 2 ^ 32 = x / 4294967296 from rfl] at h1
    rw [if_pos (by omega), e, show (32 : Int) = ((32 : Nat) : Int) from rfl, len64_j k (by omega) (by decide), h1, Nat.add_comm]
  · rw [if_neg (by omega), show (0 : Int) = ((0 : Nat) : Int) from rfl, len64_j k (by omega) (by decide), Nat.zero_add]
theorem num_val {N : Nat} (hN : N < 18446744073709551616) (k : Nat) : nat_Num.f (k + 8) (dg N) = some ((N : Int), true) := by
  have hl : (dg N).length ≤ 2 := dg_length_le (by omega)
  have e0 : wrap64 (32 * 0) = 0 := by decide +kernel
  have e1 : wrap64 (32 * 1) = 32 := by decide +kernel
  have w1 : wrap64 (0 + 1) = 1 := by decide +kernel
  have w2 : wrap64 (1 + 1) = 2 := by decide +kernel
  have or0 : ∀ y : Nat, y < 18446744073709551616 → Go.bits .or .u64 (0 : Int) (y : Int) = (y : Int) := by
    intro y hy
    have := or_low (y := 0) (x := y) (i := 0) (by decide) (Nat.mod_one y) hy (by decide)
    rw [show (0 : Int) = ((0 : Nat) : Int) from rfl, this, Nat.zero_add]
  unfold nat_Num.f
  rw [may_val (by omega)]
  simp only [Option.bind_some, if_true]
  rw [decide_eq_false (by omega), nat_Num.j0, if_neg (by decide)]
  by_cases z : N = 0
  · subst z
    rw [dg_zero, nat_Num.l0, if_neg (by decide)]; rfl
  by_cases c : N < 4294967296
  · rw [dg1 z c]
    have l1 : (([(N : Int)] : List Int).length : Int) = 1 := rfl
    have r0 : rd [(N : Int)] 0 = N := rfl
    have s0 := shl_nat (y := N) (s := 0) (by decide) c
    rw [show ((0 : Nat) : Int) = 0 from rfl, Nat.pow_zero, Nat.mul_one] at s0
    rw [l1, nat_Num.l0, if_pos (by decide), l1, if_pos (by decide), if_pos (by decide), e0, if_pos (by decide), r0, u64_of (by omega), s0, or0 N hN, w1, nat_Num.l0, if_neg (by decide)]
  · rw [dg2 c hN]
    have hlo : N % 4294967296 < 4294967296 := Nat.mod_lt _ (by decide)
    have hhi : N / 4294967296 < 4294967296 := by omega
    have eN : N % 4294967296 + N / 4294967296 * 2 ^ 32 = N := by omega
    generalize N % 4294967296 = lo at *
    generalize N / 4294967296 = hi at *
    have l1 : (([(lo : Int), (hi : Int)] : List Int).length : Int) = 2 := rfl
    have r0 : rd [(lo : Int), (hi : Int)] 0 = lo := rfl
    have r1 : rd [(lo : Int), (hi : Int)] 1 = hi := rfl
    have s0 := shl_nat (y := lo) (s := 0) (by decide) hlo
    rw [show ((0 : Nat) : Int) = 0 from rfl, Nat.pow_zero, Nat.mul_one] at s0
    have s1 := shl_nat (y := hi) (s := 32) (by decide) hhi
    rw [show ((32 : Nat) : Int) = 32 from rfl] at s1
    have o1 := or_low (y := lo) (x := hi * 2 ^ 32) (i := 32) hlo mul_mod_pow (by omega) (by omega)
    rw [l1, nat_Num.l0, if_pos (by decide), l1, if_pos (by decide), if_pos (by decide), e0, if_pos (by decide), r0, u64_of (by omega), s0, or0 lo (by omega), w1, nat_Num.l0, if_pos (by decide), l1, if_pos (by decide), if_pos (by decide), e1, if_pos (by decide), r1, u64_of (by omega), s1, o1, w2, nat_Num.l0, if_neg (by decide), eN]
theorem shl_gen {y s : Nat} (hs : s ≤ 64) (h : y * 2 ^ s < 18446744073709551616) : shl .u64 (y : Int) (s : Int) = ((y * 2 ^ s : Nat) : Int) := by
  unfold shl
  have e : min ((s : Int)).toNat IntKind.u64.bits = s := by have : IntKind.u64.bits = 64 := rfl; omega
  rw [e, wrapu64]
  have e2 : (y : Int) * 2 ^ s = ((y * 2 ^ s : Nat) : Int) := by push_cast; rfl
  rw [e2]
  generalize y * 2 ^ s = z at *
  omega
theorem may_fm {neg : Bool} {t m : Nat} {e : Int} (hm : m % 2 = 1) (hl : (dg m).length ≤ 4096) (e0 : -16777216 ≤ e) (e1 : e ≤ 16777216) : dyad_May.f neg (dg m) e = some true := by
  have hp := dg_len_pos (n := m) (by omega)
  have r0 : rd (dg m) 0 = ((m % 4294967296 : Nat) : Int) := by
    have := rd_dg (n := m) (i := 0) hp
    simpa using this
  have a1 : Go.bits .and .u32 ((m % 4294967296 : Nat) : Int) 1 = 1 := by
    rw [and1 (by omega) (by omega)]; omega
  unfold dyad_May.f dyad_inside.f
  rw [may_val hl]
  simp only [Option.bind_some, if_true]
  rw [if_neg (by omega), if_pos (by omega), r0, if_pos a1, if_pos e0, decide_eq_true e1]
  rfl
theorem join0 {f : Int} (hf : f = 1 ∨ f = 2) {neg : Bool} {s : Nat} (h : (s : Int) < sgn f) : word_shape_join.f (shp f).1 (shp f).2.1 (shp f).2.2 neg 0 (s : Int) = some ((s : Int) + if neg then sgn f else 0) := by
  have hs : s < 18446744073709551616 := by rcases sgn_cases f with e | e <;> rw [e] at h <;> omega
  have o0 : Go.bits .or .u64 (0 : Int) (s : Int) = (s : Int) := by
    have := or_low (y := 0) (x := s) (i := 0) (by decide) (Nat.mod_one s) hs (by decide)
    rw [show (0 : Int) = ((0 : Nat) : Int) from rfl, this, Nat.zero_add]
  unfold word_shape_join.f
  rcases hf with rfl | rfl
  · have e1 : shp 1 = (23, 255, 2147483648) := rfl
    have e2 : shl .u64 (IntKind.u64.wrap 0) 23 = 0 := by decide +kernel
    have e3 : sgn 1 = 2147483648 := rfl
    rw [e3] at h ⊢
    rw [e1]
    simp only [e2, o0]
    rw [if_pos (by decide), or31 (by omega) h]
    cases neg <;> simp
  · have e1 : shp 2 = (52, 2047, 9223372036854775808) := rfl
    have e2 : shl .u64 (IntKind.u64.wrap 0) 52 = 0 := by decide +kernel
    have e3 : sgn 2 = 9223372036854775808 := rfl
    rw [e3] at h ⊢
    rw [e1]
    simp only [e2, o0]
    rw [if_pos (by decide), or63 (by omega) h]
    cases neg <;> simp
/-- the numbers of a format, told alike -/
theorem forms {f : Int} (hf : f = 1 ∨ f = 2) : ∃ p q : Nat, (shp f).1 = (p : Int) ∧ (shp f).2.1 = ((2 * q + 1 : Nat) : Int) ∧ (one f).toNat = 2 ^ p ∧ lowe f = 1 - (q : Int) - (p : Int) ∧ p ≤ 52 ∧ q ≤ 1023 ∧ sgn f = 2 ^ p * (2 * q + 2) := by
  rcases hf with rfl | rfl
  · exact ⟨23, 127, rfl, rfl, by decide, by decide, by decide, by decide, by decide⟩
  · exact ⟨52, 1023, rfl, rfl, by decide, by decide, by decide, by decide, by decide⟩
theorem of_core (k : Nat) {f : Int} (hf : f = 1 ∨ f = 2) {neg : Bool} {E M : Nat} (h0 : M ≠ 0) (hM : M < 2 * (one f).toNat) (hE : E = 0 ∨ (one f).toNat ≤ M) (hs : ((E * (one f).toNat + M : Nat) : Int) < sgn f - (one f).toNat) :
    word_Of.f (k + 20) f (fm neg (2 ^ E * M) (lowe f)).1 (fm neg (2 ^ E * M) (lowe f)).2.1 (fm neg (2 ^ E * M) (lowe f)).2.2 = some (((E * (one f).toNat + M : Nat) : Int) + (if neg then sgn f else 0), 0) := by
  obtain ⟨p, q, p1, p2, p3, p4, p5, p6, p7⟩ := forms hf
  have hj : ∀ {n : Nat}, (n : Int) < sgn f → word_shape_join.f (shp f).1 (shp f).2.1 (shp f).2.2 neg 0 (n : Int) = some ((n : Int) + if neg then sgn f else 0) := fun h => join0 hf h
  have hlow := low_shape hf
  rw [p3] at hM hE hs ⊢
  have hP : 2 ^ p ≤ 2 ^ 52 := Nat.pow_le_pow_right (by decide) p5
  have hblM : bl M ≤ p + 1 := bl_le (by rw [Nat.pow_succ]; omega)
  have hbE : E = 0 ∨ bl M = p + 1 := by
    rcases hE with h | h
    · exact .inl h
    · exact .inr (bl_eq (by omega) h (by rw [Nat.pow_succ]; omega))
  have hEq : E + 1 ≤ 2 * q := by
    rcases hE with h | h
    · have : 0 < q := by rcases hf with rfl | rfl <;> (unfold lowe at p4; simp at p4; omega)
      omega
    · have h1 : ((2 ^ p * (E + 1) : Nat) : Int) < ((2 ^ p * (2 * q + 1) : Nat) : Int) := by
        have e1 : sgn f = ((2 ^ p * (2 * q + 2) : Nat) : Int) := by rw [p7]; push_cast; rfl
        have e2 : 2 ^ p * (2 * q + 2) = 2 ^ p * (2 * q + 1) + 2 ^ p := by rw [show 2 * q + 2 = (2 * q + 1) + 1 from rfl, Nat.mul_succ]
        have e3 : 2 ^ p * (E + 1) = E * 2 ^ p + 2 ^ p := by rw [Nat.mul_succ, Nat.mul_comm]
        rw [e1] at hs
        omega
      have h2 : 2 ^ p * (E + 1) < 2 ^ p * (2 * q + 1) := by exact_mod_cast h1
      have := Nat.lt_of_mul_lt_mul_left h2
      omega
  obtain ⟨j, m, rfl, hm⟩ := odd_part h0
  have hmM : m ≤ 2 ^ j * m := Nat.le_mul_of_pos_left _ (Nat.two_pow_pos _)
  have hbl : bl (2 ^ j * m) = bl m + j := by rw [Nat.mul_comm]; exact bl_shift (by omega) j
  have hbm := bl_pos (n := m) (by omega)
  have hm64 : m < 18446744073709551616 := by omega
  have e : 2 ^ E * (2 ^ j * m) = 2 ^ (E + j) * m := by rw [← Nat.mul_assoc, ← Nat.pow_add]
  rw [e, fm_mk hm]
  have hsum : E * 2 ^ p + 2 ^ j * m < 18446744073709551616 := by rcases sgn_cases f with e | e <;> rw [e] at hs <;> omega
  unfold word_Of.f
  rw [show k + 20 = (k + 19) + 1 from rfl, open_nil (k + 19) f, if_pos hf]
  simp only [Option.bind_some, if_true]
  rw [may_fm (t := 0) hm (by have := dg_length_le (n := m) (k := 2) (by omega); omega) (by omega) (by omega)]
  simp only [Option.bind_some, if_true]
  rw [show k + 19 + 1 = (k + 12) + 8 from rfl, num_val hm64]
  simp only [Option.bind_some, if_true]
  rw [show k + 12 + 8 = (k + 19) + 1 from rfl, len64 (k + 19) hm64]
  simp only [Option.bind_some, hlow]
  have t1 : wrap64 ((shp f).1 + 1) = ((p + 1 : Nat) : Int) := by rw [p1, ws (by omega) (by omega)]; omega
  have t2 : wrap64 (lowe f + ((E + j : Nat) : Int) + (bl m : Int)) = lowe f + (E : Int) + (j : Int) + (bl m : Int) := by rw [ws (by omega) (by omega)]; omega
  have t3 : wrap64 (wrap64 (Int.tdiv (shp f).2.1 2) + 1) = (q : Int) + 1 := by
    have : Int.tdiv ((2 * q + 1 : Nat) : Int) 2 = (q : Int) := by
      rw [Int.tdiv_eq_ediv_of_nonneg (by omega)]; omega
    rw [p2, this, ws (x := (q : Int)) (by omega) (by omega), ws (by omega) (by omega)]
  have t4 : mx (wrap64 (wrap64 ((lowe f + (E : Int) + (j : Int) + (bl m : Int)) - (shp f).1) - 1)) (lowe f) = lowe f + (E : Int) := by
    have e1 : wrap64 (wrap64 ((lowe f + (E : Int) + (j : Int) + (bl m : Int)) - (shp f).1) - 1) = lowe f + (E : Int) + ((j : Int) + (bl m : Int)) - (p : Int) - 1 := by
      rw [p1, ws (x := lowe f + (E : Int) + (j : Int) + (bl m : Int) - (p : Int)) (by omega) (by omega), ws (by omega) (by omega)]; omega
    rw [e1]
    unfold mx
    split <;> omega
  have t5 : wrap64 (lowe f + ((E + j : Nat) : Int) - (lowe f + (E : Int))) = (j : Int) := by rw [ws (by omega) (by omega)]; omega
  have t6 : IntKind.u64.wrap (wrap64 (lowe f + (E : Int) - lowe f)) = (E : Int) := by rw [ws (by omega) (by omega), wrapu64]; omega
  have hmj : m * 2 ^ j = 2 ^ j * m := Nat.mul_comm _ _
  have t7 : shl .u64 (E : Int) (shp f).1 = ((E * 2 ^ p : Nat) : Int) := by rw [p1]; exact shl_gen (by omega) (by omega)
  have t8 : shl .u64 (m : Int) (j : Int) = ((2 ^ j * m : Nat) : Int) := by rw [shl_gen (by omega) (by omega), hmj]
  have t9 : IntKind.u64.wrap (((E * 2 ^ p : Nat) : Int) + ((2 ^ j * m : Nat) : Int)) = ((E * 2 ^ p + 2 ^ j * m : Nat) : Int) := by
    rw [← Int.natCast_add]; exact u64_of hsum
  rw [t1, t2, t3, t4, t5, t6, t7, t8, t9, if_neg (by omega), if_neg (by omega), if_neg (by omega), if_neg (by omega), if_pos (by omega), if_pos (by omega), hj (by omega)]
  rfl
theorem of_val (k : Nat) {f w : Int} (h : Gd f w) (h4 : cl f w < 4) : word_Of.f (k + 20) f (fm (decide (w ≥ sgn f)) (magn (one f).toNat (w % sgn f).toNat) (lowe f)).1 (fm (decide (w ≥ sgn f)) (magn (one f).toNat (w % sgn f).toNat) (lowe f)).2.1 (fm (decide (w ≥ sgn f)) (magn (one f).toNat (w % sgn f).toNat) (lowe f)).2.2 = some (if w % sgn f = 0 then 0 else w, 0) := by
  have hf := (gd_lt h).2.2
  have hz := size_lo h
  have hs := size_pos f w
  have hc : w % sgn f < infw f := by
    have hi := infw_lt f
    unfold cl cls at h4
    split at h4
    · omega
    · split at h4
      · omega
      · split at h4
        · assumption
        · split at h4 <;> omega
  have hi2 : infw f = sgn f - one f := by rcases hf with rfl | rfl <;> rfl
  have ho := one_toNat f
  have hd := Nat.div_add_mod (w % sgn f).toNat (one f).toNat
  have hm := Nat.mod_lt (w % sgn f).toNat ho.2
  by_cases z : w % sgn f = 0
  · rw [if_pos z, z, show (0 : Int).toNat = 0 from rfl, magn_zero ho.2, fm_zero]
    unfold word_Of.f
    rw [show k + 20 = (k + 19) + 1 from rfl, open_nil (k + 19) f, if_pos hf]
    simp only [Option.bind_some, if_true]
    have m0 : dyad_May.f false [] 0 = some true := by decide +kernel
    have n0 := num_val (N := 0) (by decide) (k + 12)
    have l0 := len64 (k + 19) (x := 0) (by decide)
    rw [dg_zero] at n0
    rw [bl_zero] at l0
    rw [m0]
    simp only [Option.bind_some, if_true]
    rw [show k + 19 + 1 = (k + 12) + 8 from rfl, n0]
    simp only [Option.bind_some, if_true]
    rw [show k + 12 + 8 = (k + 19) + 1 from rfl, l0]
    simp only [Option.bind_some]
    have t1 : ¬ (((0 : Nat) : Int) > wrap64 ((shp f).1 + 1)) := by rcases hf with rfl | rfl <;> decide +kernel
    rw [if_neg t1, if_pos (show ((0 : Nat) : Int) = 0 from rfl)]
  · rw [if_neg z]
    have fin : ∀ s : Nat, (s : Int) = w % sgn f → ((s : Int) + if decide (w ≥ sgn f) = true then sgn f else 0) = w := by
      intro s e
      rw [e]
      by_cases g : w ≥ sgn f
      · rw [decide_eq_true g, if_pos rfl]; omega
      · rw [decide_eq_false g, if_neg (by decide)]; omega
    have es : ((w % sgn f).toNat : Int) = w % sgn f := Int.toNat_of_nonneg hs.1
    unfold magn
    generalize hE : (w % sgn f).toNat / (one f).toNat = E at *
    generalize hF : (w % sgn f).toNat % (one f).toNat = F at *
    by_cases c : E = 0
    · subst c
      rw [Nat.mul_zero, Nat.zero_add] at hd
      have r := of_core k hf (neg := decide (w ≥ sgn f)) (E := 0) (M := F) (by omega) (by omega) (.inl rfl) (by rw [Nat.zero_mul, Nat.zero_add]; omega)
      rw [Nat.pow_zero, Nat.one_mul, Nat.zero_mul, Nat.zero_add] at r
      rw [if_pos rfl, r, fin F (by omega)]
    · have e1 : (E - 1) * (one f).toNat + ((one f).toNat + F) = (w % sgn f).toNat := by
        have : (one f).toNat * E = (E - 1) * (one f).toNat + (one f).toNat := by
          rw [← Nat.succ_mul, Nat.mul_comm]; congr 1; omega
        omega
      have r := of_core k hf (neg := decide (w ≥ sgn f)) (E := E - 1) (M := (one f).toNat + F) (by omega) (by omega) (.inr (by omega)) (by rw [e1]; omega)
      rw [if_neg c, r, e1, fin _ es]
end Go.Proofs.YthiklmgdmaemgaaDoor.PA
end

section
namespace Go.Proofs.YthiklmgdmaemgaaDoor.Pure
open Go.RowKit Go.Proofs.YthiklmgdmaemgaaDoor.PA Go.Proofs.YthiklmgdmaemgaaDoorW.PrintWords Go.Proofs.YthiklmgdmaemgaaDoorW.PrintLast Go.Proofs.YthiklmgdmaemgaaDoor.Wd
set_option linter.unusedSimpArgs false
set_option linter.unusedVariables false
theorem zero_neg (k : Nat) {f : Int} (hf : f = 1 ∨ f = 2) : word_Zero.f (k + 1) f true = some (sgn f, 0) := by
  unfold word_Zero.f word_named.f word_Zero_1.f
  rw [open_nil k f, if_pos hf]
  rcases hf with rfl | rfl <;> decide +kernel
theorem val_none {f w : Int} (g : Gd f w) (h : cl f w ≥ 4) (k : Nat) : word_Value.f (k + 20) f w = some (false, [], 0, 7) := by
  unfold word_Value.f
  rw [show k + 20 = (k + 18) + 2 from rfl, fin_good (k + 18) g, if_pos h]
  rfl
theorem known_k {k : Nat} (hk : 2 ≤ k) : cutplanelaw03_known.f k = some true := by
  obtain ⟨j, rfl⟩ : ∃ j, k = j + 2 := ⟨k - 2, by omega⟩
  exact known03 j
theorem tail {f w : Int} (h : Gd f w) (k : Nat) :
    ((word_Value.f (k + 20) f w).bind fun bt705 => (if bt705.2.2.2 = 0 then ((word_Of.f (k + 20) f bt705.1 bt705.2.1 bt705.2.2.1).bind fun bt712 => ((word_Zero.f (k + 20) f true).bind fun bt714 => (if w = bt714.1 then (if bt712.2 = 0 then (if bt712.1 = 0 then ((cutplanelaw03_known.f (k + 20)).bind fun t716 => (some t716)) else (none)) else (none)) else (if bt712.2 = 0 then (if bt712.1 = w then ((cutplanelaw03_known.f (k + 20)).bind fun t717 => (some t717)) else (none)) else (none))))) else (if bt705.2.2.2 = 7 then ((cutplanelaw03_known.f (k + 20)).bind fun t718 => (some t718)) else (none)))) = some true := by
  have hz := size_lo h
  by_cases h4 : cl f w < 4
  · rw [val_good h h4 k]
    simp only [Option.bind_some, if_true]
    rw [of_val k h h4, zero_neg (k + 19) (gd_lt h).2.2, known_k (by omega)]
    simp only [Option.bind_some, if_true]
    by_cases c : w = sgn f
    · rw [if_pos c, if_pos (show w % sgn f = 0 by omega), if_pos rfl]
    · rw [if_neg c]
      by_cases z : w % sgn f = 0
      · rw [if_pos z, if_pos (by omega)]
      · rw [if_neg z, if_pos rfl]
  · rw [val_none h (by omega) k, known_k (by omega)]
    simp only [Option.bind_some]
    rw [if_neg (by decide), if_pos trivial]
theorem fit_of {f w : Int} (h : Gd f w) : Fit f (w % sgn f / one f) (w % one f) ∧ 0 ≤ w % one f ∧ jw f (decide (w ≥ sgn f)) (w % sgn f / one f) (w % one f) = w := by
  have hg := gd_lt h
  unfold Fit jw most
  rcases hg.2.2 with rfl | rfl
  · have e1 : sgn 1 = 2147483648 := rfl
    have e2 : one 1 = 8388608 := rfl
    have hg1 := hg.1
    have hg2 := hg.2.1
    rw [e1] at hg2
    rw [e1, e2]
    refine ⟨⟨by omega, by rw [if_pos rfl]; omega, by omega⟩, by omega, ?_⟩
    by_cases g : w ≥ 2147483648
    · rw [decide_eq_true g, if_pos rfl]; omega
    · rw [decide_eq_false g, if_neg (by decide)]; omega
  · have e1 : sgn 2 = 9223372036854775808 := rfl
    have e2 : one 2 = 4503599627370496 := rfl
    have hg1 := hg.1
    have hg2 := hg.2.1
    rw [e1] at hg2
    rw [e1, e2]
    refine ⟨⟨by omega, by rw [if_neg (by decide)]; omega, by omega⟩, by omega, ?_⟩
    by_cases g : w ≥ 9223372036854775808
    · rw [decide_eq_true g, if_pos rfl]; omega
    · rw [decide_eq_false g, if_neg (by decide)]; omega
theorem of_fit {f e fr : Int} (hf : f = 1 ∨ f = 2) (b : Bool) (h : Fit f e fr) (h0 : 0 ≤ fr) : Gd f (jw f b e fr) ∧ decide (jw f b e fr ≥ sgn f) = b ∧ jw f b e fr % sgn f / one f = e ∧ jw f b e fr % one f = fr := by
  unfold Fit most at h
  unfold jw
  rcases hf with rfl | rfl
  · have e1 : sgn 1 = 2147483648 := rfl
    have e2 : one 1 = 8388608 := rfl
    rw [if_pos rfl] at h
    rw [e2] at h
    rw [e1, e2]
    cases b
    · rw [if_neg (by decide)]
      exact ⟨.inl ⟨rfl, by omega, by omega⟩, decide_eq_false (by omega), by omega, by omega⟩
    · rw [if_pos rfl]
      exact ⟨.inl ⟨rfl, by omega, by omega⟩, decide_eq_true (by omega), by omega, by omega⟩
  · have e1 : sgn 2 = 9223372036854775808 := rfl
    have e2 : one 2 = 4503599627370496 := rfl
    rw [if_neg (by decide)] at h
    rw [e2] at h
    rw [e1, e2]
    cases b
    · rw [if_neg (by decide)]
      exact ⟨.inr ⟨rfl, by omega, by omega⟩, decide_eq_false (by omega), by omega, by omega⟩
    · rw [if_pos rfl]
      exact ⟨.inr ⟨rfl, by omega, by omega⟩, decide_eq_true (by omega), by omega, by omega⟩
theorem WordBack : cutplanelaw03_WordBack.Pure := by
  intro f w b e fr _ hw _ hx
  have hu := u_of hw
  have h0 := (u_of hx).1
  refine ⟨10 + 20, ?_⟩
  unfold cutplanelaw03_WordBack.f
  rw [show (10 + 20 : Nat) = 28 + 2 from rfl, good_word 28 hu]
  by_cases he : err f w = 0
  · have h := gd_of he hu
    have hf := (gd_lt h).2.2
    obtain ⟨f1, f2, f3⟩ := fit_of h
    have T := tail h 10
    rw [show (10 + 20 : Nat) = 28 + 2 from rfl] at T
    rw [he, split_good 28 h]
    simp only [Option.bind_some, if_true]
    rw [show (28 + 2 : Nat) = 29 + 1 from rfl, join_good 29 hf f1 f2, f3] at *
    simp only [Option.bind_some, if_true]
    by_cases c : Fit f e fr
    · obtain ⟨g1, g2, g3, g4⟩ := of_fit hf b c h0
      rw [join_good 29 hf c h0]
      simp only [Option.bind_some, if_true]
      rw [show (29 + 1 : Nat) = 28 + 2 from rfl, split_good 28 g1, g2, g3, g4] at *
      simp only [Option.bind_some, if_true]
      rw [if_neg (by simp)]
      exact T
    · rw [join_misfit 29 hf c h0]
      simp only [Option.bind_some]
      rw [if_neg (by decide)]
      exact T
  · simp only [Option.bind_some]
    rw [if_neg he, known_k (by omega)]
    rfl
end Go.Proofs.YthiklmgdmaemgaaDoor.Pure
end
