/- Steps of Go functions that the law RankSorts uses, told as plain Lean functions, each with the proof that its call comes to what it tells; words on memory; plain facts. No condition beyond those that each text names. -/
import Derived.Laws.BitsAllLaws
import Derived.Laws.BitsLemmas
import Derived.Test.YtnjdaoeebhbmfaaProg
import Derived.Below
import Derived.Deep.Draws
import Derived.Deep.AppendLies
import Derived.Maps.AppendAt
import Derived.OwnWalk
import Derived.Laws.BytesArg
import Derived.Laws.MakeOwn
import Derived.Laws.OwnMore
import Derived.Deep.OwnRows
import Derived.Tactics
import Derived.Lib.ConvBytes
import Derived.Laws.Slices
import Derived.WalkKit
import Derived.KernelRfl
import Derived.RowKit3
import Derived.Deep.LoopGhost
import Derived.Deep.QuietTactic
import Derived.BigQuiet
import Derived.WideLaws
import Derived.Deep.DeepCutAuto
import Derived.Deep.CutBlock
import Derived.Deep.RegionHeld3
import Derived.Laws.Rows
import Derived.Lib.AppendStr
import Derived.ArgAppend
import Derived.Laws.IdiomCopy
import Derived.OrdersHeld
import Derived.RowKit
import Derived.Laws.StructEq
import Derived.Lib.EndianBits
import Derived.Test.YtnjdaoeebhbmfaaSRankSorts0
import Derived.Test.YtnjdaoeebhbmfaaSRankSorts1
import Derived.Test.YtnjdaoeebhbmfaaSRankSorts3
import Derived.Test.YtnjdaoeebhbmfaaSRankSorts6
import Derived.Test.YtnjdaoeebhbmfaaSRankSorts7
import Derived.Test.YtnjdaoeebhbmfaaSRankSorts8
import Derived.Test.YtnjdaoeebhbmfaaSRankSorts9
import Derived.Test.YtnjdaoeebhbmfaaSRankSorts10
import Derived.Test.YtnjdaoeebhbmfaaSRankSorts11
import Derived.Test.YtnjdaoeebhbmfaaSRankSorts12
import Derived.Test.YtnjdaoeebhbmfaaSRankSorts13
import Derived.Test.YtnjdaoeebhbmfaaSRankSorts17
section
namespace Go.Proofs.Ytnjdaoeebhbmfaa.Wd
open Go
/-- what a list of digits stands for -/
def vn : List Int → Nat
  | [] => 0
  | d :: t => d.toNat + 4294967296 * vn t
def Dg (l : List Int) : Prop := ∀ d ∈ l, 0 ≤ d ∧ d < 4294967296
/-- a number's digits, none of them nought at the high end -/
def dg (n : Nat) : List Int := if h : n = 0 then [] else ((n % 4294967296 : Nat) : Int) :: dg (n / 4294967296)
  termination_by n
  decreasing_by omega
theorem dg_zero : dg 0 = [] := by rw [dg]; simp
theorem dg_pos {n : Nat} (h : n ≠ 0) : dg n = ((n % 4294967296 : Nat) : Int) :: dg (n / 4294967296) := by rw [dg]; simp [h]
theorem vn_dg (n : Nat) : vn (dg n) = n := by
  induction n using Nat.strongRecOn with
  | _ n ih =>
    by_cases h : n = 0
    · subst h; rw [dg_zero]; rfl
    · rw [dg_pos h, vn, ih (n / 4294967296) (by omega)]
      have : (((n % 4294967296 : Nat) : Int)).toNat = n % 4294967296 := by omega
      rw [this]; omega
theorem dg_dg (n : Nat) : Dg (dg n) := by
  induction n using Nat.strongRecOn with
  | _ n ih =>
    by_cases h : n = 0
    · subst h; rw [dg_zero]; intro d hd; cases hd
    · rw [dg_pos h]
      intro d hd
      rcases List.mem_cons.1 hd with rfl | hd
      · omega
      · exact ih (n / 4294967296) (by omega) d hd
theorem dg_nil {n : Nat} : dg n = [] ↔ n = 0 := by
  constructor
  · intro h; have := vn_dg n; rw [h] at this; exact this.symm
  · rintro rfl; exact dg_zero
def Nm (l : List Int) : Prop := ∀ h : l ≠ [], l.getLast h ≠ 0
theorem vn_pos {l : List Int} (hd : Dg l) (hn : Nm l) (h : l ≠ []) : vn l ≠ 0 := by
  induction l with
  | nil => exact absurd rfl h
  | cons d t ih =>
    have hd0 := hd d (List.mem_cons_self ..)
    by_cases ht : t = []
    · subst ht
      have := hn h
      simp only [List.getLast_singleton] at this
      simp only [vn]; omega
    · have := ih (fun x hx => hd x (List.mem_cons_of_mem _ hx)) (fun h' => by have := hn h; rwa [List.getLast_cons h'] at this) ht
      simp only [vn]; omega
theorem eq_dg {l : List Int} (hd : Dg l) (hn : Nm l) : l = dg (vn l) := by
  induction l with
  | nil => simp only [vn]; exact dg_zero.symm
  | cons d t ih =>
    have hd0 := hd d (List.mem_cons_self ..)
    have hdt : Dg t := fun x hx => hd x (List.mem_cons_of_mem _ hx)
    have hnt : Nm t := fun h' => by have := hn (List.cons_ne_nil d t); rwa [List.getLast_cons h'] at this
    have hp := vn_pos hd hn (List.cons_ne_nil d t)
    rw [dg_pos hp]
    simp only [vn] at hp ⊢
    have e1 : (d.toNat + 4294967296 * vn t) % 4294967296 = d.toNat := by omega
    have e2 : (d.toNat + 4294967296 * vn t) / 4294967296 = vn t := by omega
    rw [e1, e2, ← ih hdt hnt]
    congr 1; omega
theorem vn_append (l m : List Int) : vn (l ++ m) = vn l + 4294967296 ^ l.length * vn m := by
  induction l with
  | nil => simp [vn]
  | cons d t ih =>
    simp only [List.cons_append, vn, ih, List.length_cons, Nat.pow_succ]
    rw [Nat.mul_add, ← Nat.mul_assoc, Nat.mul_comm 4294967296 (4294967296 ^ t.length)]
    omega
theorem vn_lt {l : List Int} (hd : Dg l) : vn l < 4294967296 ^ l.length := by
  induction l with
  | nil => simp [vn]
  | cons d t ih =>
    have hd0 := hd d (List.mem_cons_self ..)
    have := ih (fun x hx => hd x (List.mem_cons_of_mem _ hx))
    simp only [vn, List.length_cons, Nat.pow_succ]
    omega
theorem dg_length_le {n k : Nat} (h : n < 4294967296 ^ k) : (dg n).length ≤ k := by
  induction k generalizing n with
  | zero => have : n = 0 := by simpa using h
            subst this; rw [dg_zero]; simp
  | succ k ih =>
    by_cases h0 : n = 0
    · subst h0; rw [dg_zero]; simp
    · rw [dg_pos h0, List.length_cons]
      have : n / 4294967296 < 4294967296 ^ k := by rw [Nat.div_lt_iff_lt_mul (by decide)]; rwa [Nat.pow_succ] at h
      have := ih this
      omega
theorem dg_lo {n : Nat} (h : n ≠ 0) : 4294967296 ^ ((dg n).length - 1) ≤ n := by
  by_cases c : 4294967296 ^ ((dg n).length - 1) ≤ n
  · exact c
  · have := dg_length_le (n := n) (k := (dg n).length - 1) (by omega)
    have : (dg n) ≠ [] := fun z => h (dg_nil.1 z)
    have := List.length_pos_iff.2 this
    omega
theorem dg_hi (n : Nat) : n < 4294967296 ^ (dg n).length := by have := vn_lt (dg_dg n); rwa [vn_dg] at this
theorem dg_len_pos {n : Nat} (h : n ≠ 0) : 0 < (dg n).length := List.length_pos_iff.2 fun z => h (dg_nil.1 z)
theorem dg_get (n i : Nat) (h : i < (dg n).length) : (dg n)[i] = ((n / 4294967296 ^ i % 4294967296 : Nat) : Int) := by
  induction i generalizing n with
  | zero =>
    have h0 : n ≠ 0 := fun z => by subst z; rw [dg_zero] at h; simp at h
    simp only [dg_pos h0, List.getElem_cons_zero, Nat.pow_zero, Nat.div_one]
  | succ i ih =>
    have h0 : n ≠ 0 := fun z => by subst z; rw [dg_zero] at h; simp at h
    have h' : i < (dg (n / 4294967296)).length := by rw [dg_pos h0, List.length_cons] at h; omega
    have e := ih (n / 4294967296) h'
    simp only [dg_pos h0, List.getElem_cons_succ, e, Nat.div_div_eq_div_mul, Nat.pow_succ, Nat.mul_comm]
theorem vn_take_zero {l : List Int} {i : Nat} (h : i < l.length) (hz : l[i] = 0) : vn (l.take (i + 1)) = vn (l.take i) := by
  rw [List.take_succ_eq_append_getElem h, vn_append, hz]; simp [vn]
theorem dg_take {l : List Int} (hd : Dg l) (i : Nat) : Dg (l.take i) := fun d hm => hd d (List.mem_of_mem_take hm)
theorem dg_drop {l : List Int} (hd : Dg l) (i : Nat) : Dg (l.drop i) := fun d hm => hd d (List.mem_of_mem_drop hm)
theorem nm_take {l : List Int} {i : Nat} (h : i < l.length) (hz : l[i] ≠ 0) : Nm (l.take (i + 1)) := by
  intro hh
  have e : l.take (i + 1) = l.take i ++ [l[i]] := List.take_succ_eq_append_getElem h
  simp only [e, List.getLast_concat]
  exact hz
/-- how many bits a number has -/
def bl (n : Nat) : Nat := if n = 0 then 0 else n.log2 + 1
theorem bl_zero : bl 0 = 0 := rfl
theorem bl_lo {n : Nat} (h : n ≠ 0) : 2 ^ (bl n - 1) ≤ n := by
  unfold bl; rw [if_neg h]; exact Nat.log2_self_le h
theorem bl_hi (n : Nat) : n < 2 ^ bl n := by
  unfold bl; split
  · omega
  · exact Nat.lt_log2_self
theorem bl_pos {n : Nat} (h : n ≠ 0) : 0 < bl n := by unfold bl; rw [if_neg h]; omega
theorem bl_eq {n b : Nat} (h0 : 0 < b) (h1 : 2 ^ (b - 1) ≤ n) (h2 : n < 2 ^ b) : bl n = b := by
  have hn : n ≠ 0 := by have := Nat.two_pow_pos (b - 1); omega
  have a := bl_lo hn
  have c := bl_hi n
  have p := bl_pos hn
  by_cases l : bl n < b
  · have : 2 ^ bl n ≤ 2 ^ (b - 1) := Nat.pow_le_pow_right (by decide) (by omega)
    omega
  · by_cases g : b < bl n
    · have : 2 ^ b ≤ 2 ^ (bl n - 1) := Nat.pow_le_pow_right (by decide) (by omega)
      omega
    · omega
theorem bl_half {n : Nat} (h : n ≠ 0) : bl n = bl (n / 2) + 1 := by
  by_cases h1 : n / 2 = 0
  · have : n = 1 := by omega
    subst this; rfl
  · have a := bl_lo h1
    have c := bl_hi (n / 2)
    have p := bl_pos h1
    apply bl_eq (by omega)
    · have : 2 ^ (bl (n / 2) + 1 - 1) = 2 ^ (bl (n / 2) - 1) * 2 := by rw [← Nat.pow_succ]; congr 1; omega
      omega
    · rw [Nat.pow_succ]; omega
theorem pow32 (i : Nat) : 4294967296 ^ i = 2 ^ (32 * i) := by rw [Nat.pow_mul]
theorem bl_shift {n : Nat} (h : n ≠ 0) (s : Nat) : bl (n * 2 ^ s) = bl n + s := by
  have a := bl_lo h
  have c := bl_hi n
  have p := bl_pos h
  apply bl_eq (by omega)
  · have : 2 ^ (bl n + s - 1) = 2 ^ (bl n - 1) * 2 ^ s := by rw [← Nat.pow_add]; congr 1; omega
    rw [this]; exact Nat.mul_le_mul_right _ a
  · rw [Nat.pow_add]; exact Nat.mul_lt_mul_of_pos_right c (Nat.two_pow_pos s)
/-- every number but nought is an odd one times a power of two -/
theorem odd_part {n : Nat} (h : n ≠ 0) : ∃ t m, n = 2 ^ t * m ∧ m % 2 = 1 := by
  induction n using Nat.strongRecOn with
  | _ n ih =>
    by_cases o : n % 2 = 1
    · exact ⟨0, n, by simp, o⟩
    · obtain ⟨t, m, e, hm⟩ := ih (n / 2) (by omega) (by omega)
      refine ⟨t + 1, m, ?_, hm⟩
      rw [Nat.pow_succ, Nat.mul_right_comm, ← e]; omega
end Go.Proofs.Ytnjdaoeebhbmfaa.Wd
end

section
namespace Go.Proofs.Ytnjdaoeebhbmfaa.PA
open Go.RowKit Go.Proofs.YtnjdaoeebhbmfaaW.PrintWords Go.Proofs.YtnjdaoeebhbmfaaW.PrintLast Go.Proofs.YtnjdaoeebhbmfaaW.PrintMore Go.Proofs.Ytnjdaoeebhbmfaa.Wd
set_option linter.unusedSimpArgs false
set_option linter.unusedVariables false
theorem rd_at (l : List Int) (i : Nat) (h : i < l.length) : rd l (i : Int) = l[i] := by
  unfold rd
  simp [h]
theorem rd_dg {n i : Nat} (h : i < (dg n).length) : rd (dg n) (i : Int) = ((n / 4294967296 ^ i % 4294967296 : Nat) : Int) := by
  rw [rd_at _ i h, dg_get n i h]
/-- a list of digits is short enough for every count -/
def Sh (l : List Int) : Prop := l.length < 1099511627776
theorem ref_Trim_loop {l : List Int} (hd : Dg l) (hl : Sh l) (i : Nat) : ∀ k, i ≤ l.length → i < k → cutplaneref01_Trim.l0 k l (i : Int) = some (dg (vn (l.take i))) := by
  unfold Sh at hl
  induction i with
  | zero =>
    intro k hi hk
    obtain ⟨k, rfl⟩ : ∃ m, k = m + 1 := ⟨k - 1, by omega⟩
    simp only [cutplaneref01_Trim.l0]
    rw [if_neg (by omega), if_pos (by omega), if_pos (by omega)]
    simp [vn, dg_zero]
  | succ i ih =>
    intro k hi hk
    obtain ⟨k, rfl⟩ : ∃ m, k = m + 1 := ⟨k - 1, by omega⟩
    have w1 : wrap64 (((i + 1 : Nat) : Int) - 1) = (i : Int) := by unfold wrap64; omega
    have hlt : i < l.length := by omega
    simp only [cutplaneref01_Trim.l0]
    rw [if_pos (by omega), w1, if_pos (by omega), if_pos (by omega), rd_at l i hlt]
    by_cases z : l[i] = 0
    · rw [if_pos z, ih k (by omega) (by omega), vn_take_zero hlt z]
    · rw [if_neg z, if_pos (by omega), if_pos (by omega)]
      have e : (((i + 1 : Nat) : Int)).toNat = i + 1 := by omega
      rw [e]
      exact congrArg some (eq_dg (dg_take hd _) (nm_take hlt z))
theorem ref_Trim {l : List Int} (hd : Dg l) (hl : Sh l) (k : Nat) (hk : l.length < k) : cutplaneref01_Trim.f k l = some (dg (vn l)) := by
  unfold cutplaneref01_Trim.f
  rw [ref_Trim_loop hd hl l.length k (by omega) hk, List.take_length]
theorem ref_Of {n : Int} (h0 : 0 ≤ n) (h1 : n < 18446744073709551616) (k : Nat) (hk : 2 < k) : cutplaneref01_Of.f k n = some (dg n.toNat) := by
  unfold cutplaneref01_Of.f
  rw [ref_Trim (l := [n % 4294967296, n / 4294967296 % 4294967296]) (by intro d hd; simp at hd; rcases hd with rfl | rfl <;> omega) (by unfold Sh; simp) k hk]
  simp only [Option.bind_some, vn]
  congr 2; omega
theorem ref_Len_loop (x : Nat) : ∀ (k : Nat) (a : Int), 0 ≤ a → a + bl x < 4611686018427387904 → bl x < k → cutplaneref01_Len.l0 k a (x : Int) = some (a + bl x) := by
  induction x using Nat.strongRecOn with
  | _ x ih =>
    intro k a h0 h1 hk
    obtain ⟨k, rfl⟩ : ∃ m, k = m + 1 := ⟨k - 1, by omega⟩
    simp only [cutplaneref01_Len.l0]
    by_cases z : x = 0
    · subst z; rw [if_neg (by omega), bl_zero]; simp
    · have e := bl_half z
      have w1 : wrap64 (a + 1) = a + 1 := by unfold wrap64; omega
      have w2 : (x : Int) / 2 = ((x / 2 : Nat) : Int) := by omega
      rw [if_pos (by omega), w1, w2, ih (x / 2) (by omega) k (a + 1) (by omega) (by omega) (by omega), e]
      congr 1; omega
theorem bl_le {n k : Nat} (h : n < 2 ^ k) : bl n ≤ k := by
  by_cases z : n = 0
  · subst z; simp [bl_zero]
  · by_cases c : bl n ≤ k
    · exact c
    · have := bl_lo z
      have : 2 ^ k ≤ 2 ^ (bl n - 1) := Nat.pow_le_pow_right (by decide) (by omega)
      omega
theorem bl_top {n : Nat} (h : n ≠ 0) : bl n = 32 * ((dg n).length - 1) + bl (n / 4294967296 ^ ((dg n).length - 1)) := by
  have hl := dg_len_pos h
  have a := dg_lo h
  have c := dg_hi n
  generalize hL : (dg n).length - 1 = L at *
  have hL1 : (dg n).length = L + 1 := by omega
  rw [hL1] at c
  have hP : 0 < 4294967296 ^ L := Nat.pos_of_ne_zero (by simp)
  have g1 : 4294967296 ^ L * (n / 4294967296 ^ L) ≤ n := Nat.mul_div_le _ _
  have g2 : n < 4294967296 ^ L * (n / 4294967296 ^ L + 1) := Nat.lt_mul_div_succ _ hP
  generalize n / 4294967296 ^ L = q at *
  have q0 : q ≠ 0 := by
    rintro rfl
    rw [Nat.zero_add, Nat.mul_one] at g2
    omega
  have b0 := bl_lo q0
  have b1 := bl_hi q
  have bp := bl_pos q0
  apply bl_eq (by omega)
  · have e : 2 ^ (32 * L + bl q - 1) = 4294967296 ^ L * 2 ^ (bl q - 1) := by
      rw [pow32, ← Nat.pow_add]
      have : 32 * L + bl q - 1 = 32 * L + (bl q - 1) := by omega
      rw [this]
    rw [e]
    exact Nat.le_trans (Nat.mul_le_mul_left _ b0) g1
  · rw [Nat.pow_add, ← pow32]
    exact Nat.lt_of_lt_of_le g2 (Nat.mul_le_mul_left _ b1)
theorem ref_Len {n : Nat} (hl : Sh (dg n)) (k : Nat) (hk : 33 < k) : cutplaneref01_Len.f k (dg n) = some (bl n : Int) := by
  unfold Sh at hl
  unfold cutplaneref01_Len.f
  by_cases z : n = 0
  · subst z; rw [dg_zero]; simp [bl_zero]
  · have hp := dg_len_pos z
    have w1 : wrap64 (((dg n).length : Int) - 1) = (((dg n).length - 1 : Nat) : Int) := by unfold wrap64; omega
    have w2 : wrap64 (32 * (((dg n).length - 1 : Nat) : Int)) = 32 * (((dg n).length - 1 : Nat) : Int) := by unfold wrap64; omega
    have hP : 0 < 4294967296 ^ ((dg n).length - 1) := Nat.pos_of_ne_zero (by simp)
    have hq : n / 4294967296 ^ ((dg n).length - 1) < 4294967296 := by
      rw [Nat.div_lt_iff_lt_mul hP, Nat.mul_comm, ← Nat.pow_succ]
      have := dg_hi n
      have e : ((dg n).length - 1).succ = (dg n).length := by omega
      rw [e]; exact this
    have hb : bl (n / 4294967296 ^ ((dg n).length - 1)) ≤ 32 := bl_le (by omega)
    rw [if_neg (by omega), w1, if_pos (by omega), if_pos (by omega), w2, rd_dg (by omega), Nat.mod_eq_of_lt hq, ref_Len_loop _ k _ (by omega) (by omega) (by omega)]
    have := bl_top z
    congr 1; omega
theorem and1 {y : Int} (h0 : 0 ≤ y) (h1 : y < 4294967296) : Go.bits .and .u32 y 1 = y % 2 := by
  have w : ∀ n : Int, 0 ≤ n → n < 2 ^ 32 → IntKind.u32.wrap n = n := by intro n a b; rw [IntKind.wrap_u32]; omega
  exact bits_mask .u32 32 (by decide) w 1 (by decide) y h0 (by omega)
theorem bit_of (n i : Nat) : n / 4294967296 ^ (i / 32) % 4294967296 / 2 ^ (i % 32) % 2 = n / 2 ^ i % 2 := by
  have hr : i % 32 < 32 := Nat.mod_lt _ (by decide)
  have hi : 32 * (i / 32) + i % 32 = i := Nat.div_add_mod i 32
  have hp : 2 ^ (i % 32) * 2 ^ (32 - i % 32) = 4294967296 := by
    rw [← Nat.pow_add]
    have : i % 32 + (32 - i % 32) = 32 := by omega
    rw [this]
  have h2 : 2 ^ (32 - i % 32) = 2 * 2 ^ (32 - i % 32 - 1) := by
    rw [← Nat.pow_succ']
    have : (32 - i % 32 - 1).succ = 32 - i % 32 := by omega
    rw [this]
  have key : ∀ m : Nat, m % 4294967296 / 2 ^ (i % 32) % 2 = m / 2 ^ (i % 32) % 2 := by
    intro m
    rw [← hp, Nat.mod_mul_right_div_self, h2, Nat.mod_mul_right_mod]
  rw [key, Nat.div_div_eq_div_mul, pow32, ← Nat.pow_add, hi]
theorem ref_Bit {n : Nat} (hl : Sh (dg n)) {i : Nat} (hi : i < 32 * (dg n).length) : cutplaneref01_Bit.f (dg n) (i : Int) = some ((n / 2 ^ i % 2 : Nat) : Int) := by
  unfold Sh at hl
  unfold cutplaneref01_Bit.f
  have e1 : Int.tdiv (i : Int) 32 = ((i / 32 : Nat) : Int) := by rw [Int.tdiv_eq_ediv_of_nonneg (by omega)]; omega
  have e2 : Int.tmod (i : Int) 32 = ((i % 32 : Nat) : Int) := by rw [Int.tmod_eq_emod_of_nonneg (by omega)]; omega
  have w1 : wrap64 ((i / 32 : Nat) : Int) = ((i / 32 : Nat) : Int) := by unfold wrap64; omega
  rw [if_neg (by omega), e1, w1, if_neg (by omega), if_pos (by omega), if_pos (by omega), e2, if_pos (by omega), rd_dg (by omega)]
  have e3 : shr .u32 ((n / 4294967296 ^ (i / 32) % 4294967296 : Nat) : Int) ((i % 32 : Nat) : Int) = ((n / 4294967296 ^ (i / 32) % 4294967296 / 2 ^ (i % 32) : Nat) : Int) := by
    unfold shr
    have : min (((i % 32 : Nat) : Int)).toNat IntKind.u32.bits = i % 32 := by
      have : IntKind.u32.bits = 32 := rfl
      omega
    rw [this]; simp
  have hlt : n / 4294967296 ^ (i / 32) % 4294967296 / 2 ^ (i % 32) < 4294967296 := Nat.lt_of_le_of_lt (Nat.div_le_self _ _) (Nat.mod_lt _ (by decide))
  have e4 : n / 4294967296 ^ (i / 32) % 4294967296 / 2 ^ (i % 32) % 2 = n / 2 ^ i % 2 := bit_of n i
  rw [e3]
  generalize n / 4294967296 ^ (i / 32) % 4294967296 / 2 ^ (i % 32) = y at *
  rw [and1 (by omega) (by omega), ← e4]
  congr 1
theorem odd_tz {t m : Nat} (hm : m % 2 = 1) {i : Nat} (hi : i < t) : 2 ^ t * m / 2 ^ i % 2 = 0 := by
  have : 2 ^ t * m = 2 ^ i * (2 * (2 ^ (t - i - 1) * m)) := by
    rw [← Nat.mul_assoc, ← Nat.mul_assoc, ← Nat.pow_succ, ← Nat.pow_add]
    have : i.succ + (t - i - 1) = t := by omega
    rw [this]
  rw [this, Nat.mul_div_cancel_left _ (Nat.two_pow_pos i)]
  omega
theorem odd_at {t m : Nat} (hm : m % 2 = 1) : 2 ^ t * m / 2 ^ t % 2 = 1 := by
  rw [Nat.mul_div_cancel_left _ (Nat.two_pow_pos t)]; exact hm
theorem low_digit {t m q : Nat} (hm : m % 2 = 1) (hq : 32 * q ≤ t) (hz : 2 ^ t * m / 4294967296 ^ q % 4294967296 = 0) : 32 * q + 32 ≤ t := by
  by_cases c : 32 * q + 32 ≤ t
  · exact c
  · exfalso
    have e : 2 ^ t * m = 4294967296 ^ q * (2 ^ (t - 32 * q) * m) := by
      rw [pow32, ← Nat.mul_assoc, ← Nat.pow_add]
      have : 32 * q + (t - 32 * q) = t := by omega
      rw [this]
    rw [e, Nat.mul_div_cancel_left _ (Nat.pos_of_ne_zero (by simp))] at hz
    have hp : (4294967296 : Nat) = 2 ^ (t - 32 * q) * 2 ^ (32 - (t - 32 * q)) := by
      rw [← Nat.pow_add]
      have : t - 32 * q + (32 - (t - 32 * q)) = 32 := by omega
      rw [this]
    rw [hp, Nat.mul_mod_mul_left] at hz
    have h2 : 2 ^ (32 - (t - 32 * q)) = 2 * 2 ^ (32 - (t - 32 * q) - 1) := by
      rw [← Nat.pow_succ']
      have : (32 - (t - 32 * q) - 1).succ = 32 - (t - 32 * q) := by omega
      rw [this]
    have h3 : m % 2 ^ (32 - (t - 32 * q)) = 0 := by
      rcases Nat.mul_eq_zero.1 hz with h | h
      · exact absurd h (Nat.pos_iff_ne_zero.1 (Nat.two_pow_pos _))
      · exact h
    rw [h2] at h3
    have := Nat.mod_mul_right_mod m 2 (2 ^ (32 - (t - 32 * q) - 1))
    rw [h3] at this
    omega
theorem tz_lt {t m : Nat} (hm : m % 2 = 1) : t < 32 * (dg (2 ^ t * m)).length := by
  have h := dg_hi (2 ^ t * m)
  rw [pow32] at h
  have h1 : 2 ^ t ≤ 2 ^ t * m := Nat.le_mul_of_pos_right _ (by omega)
  have h2 : 2 ^ t < 2 ^ (32 * (dg (2 ^ t * m)).length) := by omega
  exact (Nat.pow_lt_pow_iff_right (by decide)).1 h2
theorem idx_ok {i L : Nat} (h : i < 32 * L) : (0 : Int) ≤ ((i / 32 : Nat) : Int) ∧ ((i / 32 : Nat) : Int) < (L : Int) := by omega
theorem low_loop {l : List Int} {L t : Nat} (hL : l.length = L) (hl : L < 1099511627776) (ht : t < 32 * L) (hb0 : ∀ i : Nat, i < t → cutplaneref01_Bit.f l (i : Int) = some 0) (hb1 : cutplaneref01_Bit.f l (t : Int) = some 1)
    (hq : ∀ q : Nat, 32 * q ≤ t → rd l (q : Int) = 0 → 32 * q + 32 ≤ t) (d : Nat) : ∀ (k i : Nat), i ≤ t → t - i = d → 2 * d + 2 < k → (i % 32 = 0 ∨ rd l ((i / 32 : Nat) : Int) ≠ 0) →
    cutplaneref01_Low.l0 k l (i : Int) = some (t : Int) := by
  induction d using Nat.strongRecOn with
  | _ d ih =>
    intro k i hi hd hk hz
    obtain ⟨k, rfl⟩ : ∃ j, k = j + 2 := ⟨k - 2, by omega⟩
    have w1 : wrap64 (32 * (l.length : Int)) = 32 * (L : Int) := by unfold wrap64; omega
    have e1 : Int.tdiv (i : Int) 32 = ((i / 32 : Nat) : Int) := by rw [Int.tdiv_eq_ediv_of_nonneg (by omega)]; omega
    have w2 : wrap64 ((i / 32 : Nat) : Int) = ((i / 32 : Nat) : Int) := by unfold wrap64; omega
    have hix := idx_ok (Nat.lt_of_le_of_lt hi ht)
    rw [← hL] at hix
    rw [cutplaneref01_Low.l0, w1, if_pos (by omega)]
    by_cases c : i = t
    · subst c
      clear e1 w2
      rw [hb1, Option.bind_some, cutplaneref01_Low.j1, w1, if_neg (by decide), if_neg (by omega)]
    · rw [hb0 i (by omega), Option.bind_some, cutplaneref01_Low.j1, if_pos (by decide), e1, w2, if_pos hix.1, if_pos hix.2]
      clear e1 w2 w1 hix
      by_cases z : rd l ((i / 32 : Nat) : Int) = 0
      · have hi0 : i % 32 = 0 := by
          rcases hz with h | h
          · exact h
          · exact absurd z h
        have := hq (i / 32) (by omega) z
        have w3 : wrap64 ((i : Int) + 32) = ((i + 32 : Nat) : Int) := by unfold wrap64; omega
        rw [if_pos z, w3]
        exact ih (t - (i + 32)) (by omega) k (i + 32) (by omega) rfl (by omega) (.inl (by omega))
      · have w3 : wrap64 ((i : Int) + 1) = ((i + 1 : Nat) : Int) := by unfold wrap64; omega
        rw [if_neg z, w3]
        refine ih (t - (i + 1)) (by omega) k (i + 1) (by omega) rfl (by omega) ?_
        by_cases r : (i + 1) % 32 = 0
        · exact .inl r
        · right
          have : (i + 1) / 32 = i / 32 := by omega
          rw [this]; exact z
theorem ref_Low_loop {t m : Nat} (hm : m % 2 = 1) (hl : Sh (dg (2 ^ t * m))) (k : Nat) (hk : 2 * t + 2 < k) :
    cutplaneref01_Low.l0 k (dg (2 ^ t * m)) 0 = some (t : Int) := by
  have hlt := tz_lt (t := t) hm
  refine low_loop (L := (dg (2 ^ t * m)).length) rfl hl hlt (fun i hi => ?_) ?_ (fun q hq hz => ?_) t k 0 (Nat.zero_le _) rfl hk (.inl rfl)
  · rw [ref_Bit hl (by omega), odd_tz hm hi]; rfl
  · rw [ref_Bit hl hlt, odd_at hm]; rfl
  · rw [rd_dg (by omega)] at hz
    exact low_digit hm hq (Int.natCast_eq_zero.1 hz)
theorem ref_Low {t m : Nat} (hm : m % 2 = 1) (hl : Sh (dg (2 ^ t * m))) (k : Nat) (hk : 2 * t + 2 < k) : cutplaneref01_Low.f k (dg (2 ^ t * m)) = some (t : Int) := by
  unfold cutplaneref01_Low.f
  exact ref_Low_loop hm hl k hk
def dn (s : Nat) : List Int → List Int
  | [] => []
  | [d] => [((d.toNat / 2 ^ s : Nat) : Int)]
  | d :: d' :: t => (((d.toNat / 2 ^ s + d'.toNat * 2 ^ (32 - s)) % 4294967296 : Nat) : Int) :: dn s (d' :: t)
theorem div_step {a V s : Nat} (hs : s < 32) : (a + 4294967296 * V) / 2 ^ s = a / 2 ^ s + 2 ^ (32 - s) * V := by
  have hp : (4294967296 : Nat) = 2 ^ s * 2 ^ (32 - s) := by
    rw [← Nat.pow_add]
    have : s + (32 - s) = 32 := by omega
    rw [this]
  rw [hp, Nat.mul_assoc, Nat.add_mul_div_left _ _ (Nat.two_pow_pos s)]
theorem vn_dn {s : Nat} (hs : s < 32) {l : List Int} (hd : Dg l) : vn (dn s l) = vn l / 2 ^ s := by
  induction l with
  | nil => simp [dn, vn]
  | cons d t ih =>
    have hd0 := hd d (List.mem_cons_self ..)
    have hdt : Dg t := fun x hx => hd x (List.mem_cons_of_mem _ hx)
    cases t with
    | nil =>
      simp only [dn, vn, Nat.mul_zero, Nat.add_zero]
      exact Int.toNat_natCast _
    | cons d' t =>
      have e := ih hdt
      have hd1 := hd d' (List.mem_cons_of_mem _ (List.mem_cons_self ..))
      rw [show vn (d :: d' :: t) = d.toNat + 4294967296 * vn (d' :: t) from rfl, div_step hs]
      show (((d.toNat / 2 ^ s + d'.toNat * 2 ^ (32 - s)) % 4294967296 : Nat) : Int).toNat + 4294967296 * vn (dn s (d' :: t)) = _
      rw [e]
      have ha : d.toNat / 2 ^ s < 2 ^ (32 - s) := by
        rw [Nat.div_lt_iff_lt_mul (Nat.two_pow_pos s), ← Nat.pow_add]
        have : 32 - s + s = 32 := by omega
        rw [this]; omega
      have hp : (4294967296 : Nat) = 2 ^ s * 2 ^ (32 - s) := by
        rw [← Nat.pow_add]
        have : s + (32 - s) = 32 := by omega
        rw [this]
      have hv : vn (d' :: t) % 2 ^ s = d'.toNat % 2 ^ s := by
        show (d'.toNat + 4294967296 * vn t) % 2 ^ s = _
        rw [hp, Nat.mul_assoc, Nat.add_mul_mod_self_left]
      have hm : (d.toNat / 2 ^ s + d'.toNat * 2 ^ (32 - s)) % 4294967296 = d.toNat / 2 ^ s + d'.toNat % 2 ^ s * 2 ^ (32 - s) := by
        have e2 : d'.toNat * 2 ^ (32 - s) = d'.toNat % 2 ^ s * 2 ^ (32 - s) + 4294967296 * (d'.toNat / 2 ^ s) := by
          have := Nat.div_add_mod d'.toNat (2 ^ s)
          calc d'.toNat * 2 ^ (32 - s) = (2 ^ s * (d'.toNat / 2 ^ s) + d'.toNat % 2 ^ s) * 2 ^ (32 - s) := by rw [this]
            _ = 2 ^ s * (d'.toNat / 2 ^ s) * 2 ^ (32 - s) + d'.toNat % 2 ^ s * 2 ^ (32 - s) := Nat.add_mul _ _ _
            _ = d'.toNat % 2 ^ s * 2 ^ (32 - s) + 4294967296 * (d'.toNat / 2 ^ s) := by rw [Nat.mul_right_comm, ← hp, Nat.add_comm]
        rw [e2, ← Nat.add_assoc, Nat.add_mul_mod_self_left]
        apply Nat.mod_eq_of_lt
        have h1 : d'.toNat % 2 ^ s < 2 ^ s := Nat.mod_lt _ (Nat.two_pow_pos s)
        have h2 : (d'.toNat % 2 ^ s + 1) * 2 ^ (32 - s) ≤ 2 ^ s * 2 ^ (32 - s) := Nat.mul_le_mul_right _ h1
        rw [Nat.add_mul, Nat.one_mul, ← hp] at h2
        omega
      rw [hm]
      have h3 := Nat.div_add_mod (vn (d' :: t)) (2 ^ s)
      rw [hv] at h3
      have h4 : 2 ^ (32 - s) * vn (d' :: t) = 4294967296 * (vn (d' :: t) / 2 ^ s) + d'.toNat % 2 ^ s * 2 ^ (32 - s) := by
        calc 2 ^ (32 - s) * vn (d' :: t) = 2 ^ (32 - s) * (2 ^ s * (vn (d' :: t) / 2 ^ s) + d'.toNat % 2 ^ s) := by rw [h3]
          _ = 2 ^ (32 - s) * (2 ^ s * (vn (d' :: t) / 2 ^ s)) + 2 ^ (32 - s) * (d'.toNat % 2 ^ s) := Nat.mul_add _ _ _
          _ = 4294967296 * (vn (d' :: t) / 2 ^ s) + d'.toNat % 2 ^ s * 2 ^ (32 - s) := by rw [← Nat.mul_assoc, Nat.mul_comm (2 ^ (32 - s)) (2 ^ s), ← hp, Nat.mul_comm (2 ^ (32 - s)) (d'.toNat % 2 ^ s)]
      rw [h4]
      omega
end Go.Proofs.Ytnjdaoeebhbmfaa.PA
end

section
namespace Go.Proofs.Ytnjdaoeebhbmfaa.PA
open Go.RowKit Go.Proofs.YtnjdaoeebhbmfaaW.PrintWords Go.Proofs.YtnjdaoeebhbmfaaW.PrintLast Go.Proofs.YtnjdaoeebhbmfaaW.PrintMore Go.Proofs.Ytnjdaoeebhbmfaa.Wd
set_option linter.unusedSimpArgs false
set_option linter.unusedVariables false
theorem dg_mem {l : List Int} (hd : Dg l) {i : Nat} (h : i < l.length) : 0 ≤ l[i] ∧ l[i] < 4294967296 := hd _ (List.getElem_mem h)
theorem dg_append {l m : List Int} (hl : Dg l) (hm : Dg m) : Dg (l ++ m) := by
  intro d h
  rcases List.mem_append.1 h with h | h
  · exact hl d h
  · exact hm d h
theorem dg_one {y : Int} (h0 : 0 ≤ y) (h1 : y < 4294967296) : Dg [y] := by
  intro d h
  rw [List.mem_singleton.1 h]; exact ⟨h0, h1⟩
theorem dg_nil' : Dg [] := fun d h => by cases h
theorem vn_drop {l : List Int} {i : Nat} (h : i < l.length) : vn (l.drop i) = l[i].toNat + 4294967296 * vn (l.drop (i + 1)) := by
  rw [List.drop_eq_getElem_cons h]; rfl
theorem vn_nil_of {l : List Int} {i : Nat} (h : l.length ≤ i) : vn (l.drop i) = 0 := by rw [List.drop_eq_nil_of_le h]; rfl
/-- the digit of a place, or nought -/
def at0 (l : List Int) (i : Nat) : Nat := if h : i < l.length then l[i].toNat else 0
theorem vn_at0 (l : List Int) (i : Nat) : vn (l.drop i) = at0 l i + 4294967296 * vn (l.drop (i + 1)) := by
  unfold at0
  by_cases h : i < l.length
  · rw [dif_pos h, vn_drop h]
  · rw [dif_neg h, vn_nil_of (by omega), vn_nil_of (by omega)]
theorem at0_lt {l : List Int} (hd : Dg l) (i : Nat) : at0 l i < 4294967296 := by
  unfold at0
  split
  · rename_i h; have := dg_mem hd h; omega
  · omega
theorem rd_at0 {l : List Int} (hd : Dg l) {i : Nat} (h : i < l.length) : rd l (i : Int) = (at0 l i : Int) := by
  have := dg_mem hd h
  rw [rd_at l i h]; unfold at0; rw [dif_pos h]; omega
theorem vn_push (l : List Int) (y : Nat) : vn (l ++ [(y : Int)]) = vn l + 4294967296 ^ l.length * y := by
  rw [vn_append]; simp [vn]
theorem len_push (l : List Int) (y : Int) : (l ++ [y]).length = l.length + 1 := by simp
theorem cast_mod (a : Nat) : (a : Int) % 4294967296 = ((a % 4294967296 : Nat) : Int) := by omega
theorem cast_div (a : Nat) : (a : Int) / 4294967296 = ((a / 4294967296 : Nat) : Int) := by omega
theorem mod_small {y : Nat} (h : y < 4294967296) : (y : Int) % 4294967296 = (y : Int) := by omega
theorem u64_of {y : Nat} (h : y < 18446744073709551616) : IntKind.u64.wrap (y : Int) = (y : Int) := by rw [wrapu64]; omega
theorem or_low {y x i : Nat} (hy : y < 2 ^ i) (hx : x % 2 ^ i = 0) (hx1 : x < 18446744073709551616) (hy1 : y < 18446744073709551616) : Go.bits .or .u64 (y : Int) (x : Int) = ((y + x : Nat) : Int) := by
  have h := bits_join_low .u64 64 (by decide) wraps_u64 i (y : Int) (x : Int) (by omega) (by exact_mod_cast hy) (by omega) (by omega) (by exact_mod_cast hx) (by omega)
  rw [h]; omega
theorem shl_nat {y s : Nat} (hs : s ≤ 32) (hy : y < 4294967296) : shl .u64 (y : Int) (s : Int) = ((y * 2 ^ s : Nat) : Int) := by
  unfold shl
  have e : min ((s : Int)).toNat IntKind.u64.bits = s := by have : IntKind.u64.bits = 64 := rfl; omega
  have h1 : 2 ^ s ≤ 2 ^ 32 := Nat.pow_le_pow_right (by decide) hs
  have h2 : y * 2 ^ s ≤ 4294967295 * 2 ^ 32 := Nat.mul_le_mul (by omega) h1
  rw [e, wrapu64]
  have e2 : (y : Int) * 2 ^ s = ((y * 2 ^ s : Nat) : Int) := by push_cast; rfl
  rw [e2]
  generalize y * 2 ^ s = z at *
  omega
theorem shr_nat {y s : Nat} (hs : s ≤ 32) : shr .u64 (y : Int) (s : Int) = ((y / 2 ^ s : Nat) : Int) := by
  unfold shr
  have e : min ((s : Int)).toNat IntKind.u64.bits = s := by have : IntKind.u64.bits = 64 := rfl; omega
  rw [e]; push_cast; rfl
theorem mul_mod_pow {y s : Nat} : y * 2 ^ s % 2 ^ s = 0 := Nat.mul_mod_left _ _
theorem down_loop {l : List Int} (hd : Dg l) (hl : Sh l) {s : Nat} (hs : s < 32) (lost : Bool) (d : Nat) : ∀ (k i : Nat) (out : List Int), i ≤ l.length → l.length - i = d → Dg out → out.length + d < 1099511627776 → out.length + 2 * d + 1 < k →
    cutplaneref01_Down.l0 k l lost out (s : Int) (i : Int) = some (dg (vn (out ++ dn s (l.drop i))), lost) := by
  unfold Sh at hl
  induction d with
  | zero =>
    intro k i out hi hd' ho hlen hk
    obtain ⟨k, rfl⟩ : ∃ m, k = m + 1 := ⟨k - 1, by omega⟩
    rw [cutplaneref01_Down.l0, if_neg (by omega), ref_Trim ho (by unfold Sh; omega) k (by omega), List.drop_eq_nil_of_le (by omega)]
    simp [dn]
  | succ d ih =>
    intro k i out hi hd' ho hlen hk
    obtain ⟨k, rfl⟩ : ∃ m, k = m + 1 := ⟨k - 1, by omega⟩
    have hlt : i < l.length := by omega
    have hm := dg_mem hd hlt
    have w1 : wrap64 ((i : Int) + 1) = ((i + 1 : Nat) : Int) := by unfold wrap64; omega
    have w2 : wrap64 (32 - (s : Int)) = ((32 - s : Nat) : Int) := by unfold wrap64; omega
    have hr := rd_at0 hd hlt
    have ha := at0_lt hd i
    have hdp : l.drop i = (at0 l i : Int) :: l.drop (i + 1) := by
      rw [List.drop_eq_getElem_cons hlt]; congr 1; unfold at0; rw [dif_pos hlt]; omega
    have hq : at0 l i / 2 ^ s < 4294967296 := Nat.lt_of_le_of_lt (Nat.div_le_self _ _) ha
    rw [cutplaneref01_Down.l0, if_pos (by omega), if_pos (by omega), if_pos (by omega), w1, w2, hr, u64_of (by omega), shr_nat (by omega)]
    by_cases c : i + 1 < l.length
    · have hb := at0_lt hd (i + 1)
      have hm2 := dg_mem hd c
      have hr2 := rd_at0 hd c
      have hdp2 : l.drop (i + 1) = (at0 l (i + 1) : Int) :: l.drop (i + 2) := by
        rw [List.drop_eq_getElem_cons c]; congr 1; unfold at0; rw [dif_pos c]; omega
      have hy : at0 l i / 2 ^ s < 2 ^ (32 - s) := by
        rw [Nat.div_lt_iff_lt_mul (Nat.two_pow_pos s), ← Nat.pow_add]
        have : 32 - s + s = 32 := by omega
        rw [this]; exact ha
      have h2 : at0 l (i + 1) * 2 ^ (32 - s) < 18446744073709551616 := by
        have h1 : 2 ^ (32 - s) ≤ 2 ^ 32 := Nat.pow_le_pow_right (by decide) (by omega)
        have := Nat.mul_le_mul (Nat.le_of_lt hb) h1
        have h3 : at0 l (i + 1) * 2 ^ (32 - s) < 4294967296 * 2 ^ 32 := Nat.mul_lt_mul_of_lt_of_le hb h1 (Nat.two_pow_pos _)
        omega
      rw [if_pos (by omega), if_pos (by omega), if_pos (by omega), hr2, u64_of (by omega), shl_nat (by omega) hb, or_low hy mul_mod_pow h2 (by omega), if_pos (by omega)]
      have e1 : ((at0 l i / 2 ^ s + at0 l (i + 1) * 2 ^ (32 - s) : Nat) : Int) % 4294967296 = (((at0 l i / 2 ^ s + at0 l (i + 1) * 2 ^ (32 - s)) % 4294967296 : Nat) : Int) := cast_mod _
      rw [e1, ih k (i + 1) _ (by omega) (by omega) (dg_append ho (dg_one (by omega) (by omega))) (by rw [len_push]; omega) (by rw [len_push]; omega), hdp, hdp2]
      simp only [dn, Int.toNat_natCast, List.append_assoc, List.singleton_append]
    · have e1 : ((at0 l i / 2 ^ s : Nat) : Int) % 4294967296 = ((at0 l i / 2 ^ s : Nat) : Int) := mod_small hq
      rw [if_neg (by omega), if_pos (by omega), e1, ih k (i + 1) _ (by omega) (by omega) (dg_append ho (dg_one (by omega) (by omega))) (by rw [len_push]; omega) (by rw [len_push]; omega), hdp, List.drop_eq_nil_of_le (show l.length ≤ i + 1 by omega)]
      simp only [dn, Int.toNat_natCast, List.append_assoc, List.singleton_append, List.append_nil]
theorem vn_drop_div {l : List Int} (hd : Dg l) (i : Nat) : vn (l.drop i) = vn l / 4294967296 ^ i := by
  by_cases h : i ≤ l.length
  · have e := vn_append (l.take i) (l.drop i)
    rw [List.take_append_drop, List.length_take, Nat.min_eq_left h] at e
    have hl := vn_lt (dg_take hd i)
    rw [List.length_take, Nat.min_eq_left h] at hl
    rw [e, Nat.add_mul_div_left _ _ (Nat.pos_of_ne_zero (by simp)), Nat.div_eq_of_lt hl]; omega
  · have hl := vn_lt hd
    have : 4294967296 ^ l.length ≤ 4294967296 ^ i := Nat.pow_le_pow_right (by decide) (by omega)
    rw [vn_nil_of (by omega), Nat.div_eq_of_lt (by omega)]
theorem bl_gt {t m : Nat} (hm : m % 2 = 1) : t < bl (2 ^ t * m) := by
  have h := bl_hi (2 ^ t * m)
  have h1 : 2 ^ t ≤ 2 ^ t * m := Nat.le_mul_of_pos_right _ (by omega)
  exact (Nat.pow_lt_pow_iff_right (by decide)).1 (Nat.lt_of_le_of_lt h1 h)
theorem len_of {X : Nat} : bl X ≤ 32 * (dg X).length := by
  apply bl_le
  rw [← pow32]; exact dg_hi _
theorem down_core {X t n k : Nat} (hX : X ≠ 0) (ht : t < bl X) (hl : Sh (dg X)) (hn : n < 1099511627776) (hlow : cutplaneref01_Low.f k (dg X) = some (t : Int)) (hk : 2 * (dg X).length + 40 < k) :
    cutplaneref01_Down.f k (dg X) (n : Int) = some (dg (X / 2 ^ n), decide (t < n)) := by
  have hp := dg_len_pos hX
  unfold cutplaneref01_Down.f
  rw [ref_Len hl k (by omega)]
  simp only [Option.bind_some]
  by_cases c : bl X ≤ n
  · have h2 := bl_hi X
    have h3 : 2 ^ bl X ≤ 2 ^ n := Nat.pow_le_pow_right (by decide) c
    rw [if_pos (by omega), Nat.div_eq_of_lt (Nat.lt_of_lt_of_le h2 h3), dg_zero, decide_eq_true (show ((dg X).length : Int) > 0 by omega), decide_eq_true (show t < n by omega)]
  · have e1 : Int.tdiv (n : Int) 32 = ((n / 32 : Nat) : Int) := by rw [Int.tdiv_eq_ediv_of_nonneg (by omega)]; omega
    have e2 : Int.tmod (n : Int) 32 = ((n % 32 : Nat) : Int) := by rw [Int.tmod_eq_emod_of_nonneg (by omega)]; omega
    have w1 : wrap64 ((n / 32 : Nat) : Int) = ((n / 32 : Nat) : Int) := by unfold wrap64; omega
    have e3 : decide ((n : Int) > (t : Int)) = decide (t < n) := by by_cases z : t < n <;> simp [z]
    have hlen := len_of (X := X)
    have hq : n / 32 ≤ (dg X).length := by clear e1 e2; omega
    rw [if_neg (by omega), hlow]
    simp only [Option.bind_some]
    rw [e1, e2, w1, e3]
    clear e1 e2 w1
    have hl' := hl
    unfold Sh at hl'
    have h32 : n % 32 < 32 := Nat.mod_lt _ (by decide)
    have e4 : vn ([] ++ dn (n % 32) ((dg X).drop (n / 32))) = X / 2 ^ n := by
      rw [List.nil_append, vn_dn h32 (dg_drop (dg_dg _) _), vn_drop_div (dg_dg _), vn_dg, Nat.div_div_eq_div_mul, pow32, ← Nat.pow_add]
      have : 32 * (n / 32) + n % 32 = n := Nat.div_add_mod n 32
      rw [this]
    have g1 : ([] : List Int).length + ((dg X).length - n / 32) < 1099511627776 := by rw [List.length_nil]; omega
    have g2 : ([] : List Int).length + 2 * ((dg X).length - n / 32) + 1 < k := by rw [List.length_nil]; omega
    rw [down_loop (dg_dg _) hl h32 _ _ k (n / 32) [] hq rfl dg_nil' g1 g2, e4]
theorem two_ne {t m : Nat} (hm : m % 2 = 1) : 2 ^ t * m ≠ 0 := by
  intro z
  rcases Nat.mul_eq_zero.1 z with z | z
  · exact absurd z (Nat.pos_iff_ne_zero.1 (Nat.two_pow_pos _))
  · omega
/-- the whole part, and whether something fell off -/
theorem ref_Down1 {t m : Nat} (hm : m % 2 = 1) (hl : Sh (dg (2 ^ t * m))) {n : Nat} (hn : n < 1099511627776) (k : Nat) (hk : 2 * t + 2 * (dg (2 ^ t * m)).length + 40 < k) :
    cutplaneref01_Down.f k (dg (2 ^ t * m)) (n : Int) = some (dg (2 ^ t * m / 2 ^ n), decide (t < n)) :=
  down_core (two_ne hm) (bl_gt hm) hl hn (ref_Low hm hl k (by omega)) (by omega)
theorem up_loop {l : List Int} (hd : Dg l) (hl : Sh l) {s : Nat} (hs : s < 32) (d : Nat) : ∀ (k i : Nat) (out : List Int) (last : Nat), i ≤ l.length → l.length - i = d → Dg out → out.length + d < 1099511627775 → out.length + 2 * d + 3 < k → last < 2 ^ s →
    cutplaneref01_Up.l0 k l out (s : Int) (last : Int) (i : Int) = some (dg (vn out + 4294967296 ^ out.length * (last + 2 ^ s * vn (l.drop i)))) := by
  unfold Sh at hl
  have hs32 : 2 ^ s ≤ 2147483648 := by
    have : 2 ^ s ≤ 2 ^ 31 := Nat.pow_le_pow_right (by decide) (by omega)
    exact this
  induction d with
  | zero =>
    intro k i out last hi hd' ho hlen hk hlast
    obtain ⟨k, rfl⟩ : ∃ m, k = m + 1 := ⟨k - 1, by omega⟩
    have hl32 : last < 4294967296 := Nat.lt_of_lt_of_le hlast (Nat.le_trans hs32 (by decide))
    rw [cutplaneref01_Up.l0, if_neg (by omega), if_pos (by omega), mod_small hl32, ref_Trim (dg_append ho (dg_one (by omega) (by omega))) (by unfold Sh; rw [len_push]; omega) k (by rw [len_push]; omega), vn_push, vn_nil_of (by omega)]
    simp
  | succ d ih =>
    intro k i out last hi hd' ho hlen hk hlast
    obtain ⟨k, rfl⟩ : ∃ m, k = m + 1 := ⟨k - 1, by omega⟩
    have hlt : i < l.length := by omega
    have w1 : wrap64 ((i : Int) + 1) = ((i + 1 : Nat) : Int) := by unfold wrap64; omega
    have ha := at0_lt hd i
    have hl32 : last < 4294967296 := Nat.lt_of_lt_of_le hlast (Nat.le_trans hs32 (by decide))
    have h2 : at0 l i * 2 ^ s ≤ 4294967295 * 2 ^ s := Nat.mul_le_mul_right _ (by omega)
    have e1 : ((last + at0 l i * 2 ^ s : Nat) : Int) % 4294967296 = (((last + at0 l i * 2 ^ s) % 4294967296 : Nat) : Int) := cast_mod _
    have e2 : ((last + at0 l i * 2 ^ s : Nat) : Int) / 4294967296 = (((last + at0 l i * 2 ^ s) / 4294967296 : Nat) : Int) := cast_div _
    rw [cutplaneref01_Up.l0, if_pos (by omega), if_pos (by omega), if_pos (by omega), if_pos (by omega), w1, rd_at0 hd hlt, u64_of (by omega), shl_nat (by omega) ha, or_low hlast mul_mod_pow (by omega) (by omega), e1, e2]
    have h3 : (last + at0 l i * 2 ^ s) / 4294967296 < 2 ^ s := by omega
    rw [ih k (i + 1) _ _ (by omega) (by omega) (dg_append ho (dg_one (by omega) (by omega))) (by rw [len_push]; omega) (by rw [len_push]; omega) h3, vn_push, len_push, Nat.pow_succ, vn_at0 l i]
    congr 2
    have h4 := Nat.div_add_mod (last + at0 l i * 2 ^ s) 4294967296
    generalize (last + at0 l i * 2 ^ s) / 4294967296 = q at *
    generalize (last + at0 l i * 2 ^ s) % 4294967296 = r at *
    generalize vn (l.drop (i + 1)) = V
    generalize 4294967296 ^ out.length = B
    rw [Nat.add_assoc, Nat.mul_assoc, ← Nat.mul_add]
    congr 2
    rw [Nat.mul_add, Nat.mul_add, Nat.mul_comm (2 ^ s) (at0 l i), ← Nat.add_assoc, ← Nat.add_assoc, ← h4, Nat.add_comm r]
    congr 1
    rw [← Nat.mul_assoc, ← Nat.mul_assoc, Nat.mul_comm 4294967296 (2 ^ s)]
theorem vn_zeros (q : Nat) : vn (List.replicate q (0 : Int)) = 0 := by
  induction q with
  | zero => rfl
  | succ q ih => rw [List.replicate_succ, vn, ih]; rfl
theorem ref_Up1 {X n : Nat} (hl : Sh (dg X)) (hn : n < 1099511627776) (hln : (dg X).length + n / 32 < 1099511627775) (k : Nat) (hk : n / 32 + 2 * (dg X).length + 3 < k) :
    cutplaneref01_Up.f k (dg X) (n : Int) = some (dg (X * 2 ^ n)) := by
  unfold cutplaneref01_Up.f
  by_cases z : X = 0
  · subst z
    rw [Nat.zero_mul, dg_zero]; simp
  · have hp := dg_len_pos z
    have e1 : Int.tdiv (n : Int) 32 = ((n / 32 : Nat) : Int) := by rw [Int.tdiv_eq_ediv_of_nonneg (by omega)]; omega
    have e2 : Int.tmod (n : Int) 32 = ((n % 32 : Nat) : Int) := by rw [Int.tmod_eq_emod_of_nonneg (by omega)]; omega
    have w1 : wrap64 ((n / 32 : Nat) : Int) = ((n / 32 : Nat) : Int) := by unfold wrap64; omega
    rw [if_neg (by omega), e1, e2, w1, Int.toNat_natCast]
    clear e1 e2 w1
    rw [if_pos (by omega), if_pos (by omega)]
    have h32 : n % 32 < 32 := Nat.mod_lt _ (by decide)
    have hz : Dg (List.replicate (n / 32) (0 : Int)) := by
      intro d hd
      rw [List.eq_of_mem_replicate hd]; omega
    have h := up_loop (dg_dg X) hl h32 (dg X).length k 0 (List.replicate (n / 32) 0) 0 (by omega) (by omega) hz (by rw [List.length_replicate]; omega) (by rw [List.length_replicate]; omega) (Nat.two_pow_pos _)
    rw [show ((0 : Nat) : Int) = 0 from rfl] at h
    rw [h, List.drop_zero, vn_dg, vn_zeros, List.length_replicate, pow32, Nat.zero_add, Nat.zero_add, ← Nat.mul_assoc, ← Nat.pow_add]
    have : 32 * (n / 32) + n % 32 = n := Nat.div_add_mod n 32
    rw [this, Nat.mul_comm]
end Go.Proofs.Ytnjdaoeebhbmfaa.PA
end

section
namespace Go.Proofs.Ytnjdaoeebhbmfaa.PA
open Go.RowKit Go.Proofs.YtnjdaoeebhbmfaaW.PrintWords Go.Proofs.YtnjdaoeebhbmfaaW.PrintLast Go.Proofs.YtnjdaoeebhbmfaaW.PrintMore Go.Proofs.Ytnjdaoeebhbmfaa.Wd
set_option linter.unusedSimpArgs false
set_option linter.unusedVariables false
theorem at0_none {l : List Int} {i : Nat} (h : l.length ≤ i) : at0 l i = 0 := by unfold at0; rw [dif_neg (by omega)]
theorem sum_step {V L c A B x r q : Nat} (h : c + A + B = 4294967296 * q + r) {VA VB : Nat} :
    V + L * r + L * 4294967296 * (q + VA + VB) = V + L * (c + (A + 4294967296 * VA) + (B + 4294967296 * VB)) := by
  have e : c + (A + 4294967296 * VA) + (B + 4294967296 * VB) = r + 4294967296 * (q + VA + VB) := by omega
  rw [e]
  generalize q + VA + VB = S
  rw [Nat.mul_add, ← Nat.mul_assoc, ← Nat.add_assoc]
theorem add_loop {a b : List Int} (ha : Dg a) (hb : Dg b) (hla : a.length < 1099511627775) (hlb : b.length < 1099511627775) (d : Nat) : ∀ (k i : Nat) (out : List Int) (c : Nat), max a.length b.length - i = d → i ≤ max a.length b.length → Dg out → out.length = i → out.length + 4 * d + 6 < k → c ≤ 1 →
    cutplaneref01_Add.l0 k a b out (c : Int) (i : Int) = some (dg (vn out + 4294967296 ^ out.length * (c + vn (a.drop i) + vn (b.drop i)))) := by
  induction d with
  | zero =>
    intro k i out c hd hi ho hlen hk hc
    obtain ⟨k, rfl⟩ : ∃ m, k = m + 1 + 1 := ⟨k - 2, by omega⟩
    rw [cutplaneref01_Add.l0, if_neg (by omega), decide_eq_false (by omega), cutplaneref01_Add.j1, if_neg (by decide), if_pos (by omega), mod_small (by omega), ref_Trim (dg_append ho (dg_one (by omega) (by omega))) (by unfold Sh; rw [len_push]; omega) k (by rw [len_push]; omega), vn_push, vn_nil_of (by omega), vn_nil_of (by omega)]
    simp
  | succ d ih =>
    intro k i out c hd hi ho hlen hk hc
    obtain ⟨k, rfl⟩ : ∃ m, k = m + 1 + 1 := ⟨k - 2, by omega⟩
    have w1 : wrap64 ((i : Int) + 1) = ((i + 1 : Nat) : Int) := by unfold wrap64; omega
    have h1 := at0_lt ha i
    have h2 := at0_lt hb i
    have key : (if out.length < 35184372088832 then cutplaneref01_Add.l0 k a b (out ++ [((c + at0 a i + at0 b i : Nat) : Int) % 4294967296]) (((c + at0 a i + at0 b i : Nat) : Int) / 4294967296) (wrap64 ((i : Int) + 1)) else none) = some (dg (vn out + 4294967296 ^ out.length * (c + vn (a.drop i) + vn (b.drop i)))) := by
      rw [if_pos (by omega), w1, cast_mod, cast_div, ih k (i + 1) _ _ (by omega) (by omega) (dg_append ho (dg_one (by omega) (by omega))) (by rw [len_push]; omega) (by rw [len_push]; omega) (by omega), vn_push, len_push, Nat.pow_succ, vn_at0 a i, vn_at0 b i]
      congr 2
      exact sum_step (x := 0) (by have := Nat.div_add_mod (c + at0 a i + at0 b i) 4294967296; omega)
    by_cases ca : i < a.length
    · rw [cutplaneref01_Add.l0, if_pos (by omega), cutplaneref01_Add.j1, if_pos rfl, if_pos (by omega), if_pos (by omega), rd_at0 ha ca, u64_of (show at0 a i < 18446744073709551616 by omega), ← Int.natCast_add, u64_of (show c + at0 a i < 18446744073709551616 by omega)]
      by_cases cb : i < b.length
      · rw [if_pos (by omega), rd_at0 hb cb, u64_of (show at0 b i < 18446744073709551616 by omega), ← Int.natCast_add, u64_of (show c + at0 a i + at0 b i < 18446744073709551616 by omega)]
        exact key
      · rw [if_neg (by omega)]
        rw [at0_none (l := b) (by omega), Nat.add_zero] at key
        exact key
    · have cb : i < b.length := by omega
      rw [cutplaneref01_Add.l0, if_neg (by omega), decide_eq_true (by omega), cutplaneref01_Add.j1, if_pos rfl, if_neg (by omega), if_pos (by omega), if_pos (by omega), rd_at0 hb cb, u64_of (show at0 b i < 18446744073709551616 by omega), ← Int.natCast_add, u64_of (show c + at0 b i < 18446744073709551616 by omega)]
      rw [at0_none (l := a) (by omega), Nat.add_zero] at key
      exact key
theorem ref_Add {X Y : Nat} (hx : (dg X).length < 1099511627775) (hy : (dg Y).length < 1099511627775) (k : Nat) (hk : 4 * (dg X).length + 4 * (dg Y).length + 6 < k) : cutplaneref01_Add.f k (dg X) (dg Y) = some (dg (X + Y)) := by
  unfold cutplaneref01_Add.f
  have h := add_loop (dg_dg X) (dg_dg Y) hx hy (max (dg X).length (dg Y).length) k 0 [] 0 (by omega) (by omega) dg_nil' rfl (by rw [List.length_nil]; omega) (by omega)
  rw [show ((0 : Nat) : Int) = 0 from rfl] at h
  rw [h, List.drop_zero, List.drop_zero, vn_dg, vn_dg]
  simp [vn]
theorem sub_step {V L c A B r q VA VB : Nat} (h : 4294967296 * q + A = c + B + r) (hle : q + VB ≤ VA) :
    V + L * r + L * 4294967296 * (VA - q - VB) = V + L * ((A + 4294967296 * VA) - c - (B + 4294967296 * VB)) := by
  have e : (A + 4294967296 * VA) - c - (B + 4294967296 * VB) = r + 4294967296 * (VA - q - VB) := by omega
  rw [e, Nat.mul_add, ← Nat.mul_assoc, ← Nat.add_assoc]
theorem sub_q {c A B VA VB q r : Nat} (h : 4294967296 * q + A = c + B + r) (hr : r < 4294967296) (hle : c + (B + 4294967296 * VB) ≤ A + 4294967296 * VA) : q + VB ≤ VA := by omega
theorem sub_loop {a b : List Int} (ha : Dg a) (hb : Dg b) (hla : Sh a) (d : Nat) : ∀ (k i : Nat) (out : List Int) (c : Nat), a.length - i = d → i ≤ a.length → Dg out → out.length = i → out.length + 2 * d + 2 < k → c ≤ 1 → c + vn (b.drop i) ≤ vn (a.drop i) →
    cutplaneref01_Sub.l0 k a b out (c : Int) (i : Int) = some (dg (vn out + 4294967296 ^ out.length * (vn (a.drop i) - c - vn (b.drop i)))) := by
  unfold Sh at hla
  induction d with
  | zero =>
    intro k i out c hd hi ho hlen hk hc hle
    obtain ⟨k, rfl⟩ : ∃ m, k = m + 1 := ⟨k - 1, by omega⟩
    rw [vn_nil_of (l := a) (by omega)] at hle ⊢
    rw [cutplaneref01_Sub.l0, if_neg (by omega), ref_Trim ho (by unfold Sh; omega) k (by omega)]
    simp
  | succ d ih =>
    intro k i out c hd hi ho hlen hk hc hle
    obtain ⟨k, rfl⟩ : ∃ m, k = m + 1 := ⟨k - 1, by omega⟩
    have w1 : wrap64 ((i : Int) + 1) = ((i + 1 : Nat) : Int) := by unfold wrap64; omega
    have h1 := at0_lt ha i
    have h2 := at0_lt hb i
    have ca : i < a.length := by clear hle; omega
    have hi1 : i + 1 ≤ a.length := ca
    rw [vn_at0 a i, vn_at0 b i] at hle
    have key : ∀ (q r : Nat), 4294967296 * q + at0 a i = c + at0 b i + r → r < 4294967296 → q ≤ 1 →
        (if out.length < 35184372088832 then cutplaneref01_Sub.l0 k a b (out ++ [(r : Int) % 4294967296]) (q : Int) (wrap64 ((i : Int) + 1)) else none) = some (dg (vn out + 4294967296 ^ out.length * (vn (a.drop i) - c - vn (b.drop i)))) := by
      intro q r hy hr hq1
      have hq : q + vn (b.drop (i + 1)) ≤ vn (a.drop (i + 1)) := sub_q hy hr hle
      clear hle
      have hlen1 : out.length < 35184372088832 := by omega
      have hd1 : a.length - (i + 1) = d := by omega
      rw [if_pos hlen1, w1, mod_small hr, ih k (i + 1) _ _ hd1 (by omega) (dg_append ho (dg_one (by omega) (by omega))) (by rw [len_push]; omega) (by rw [len_push]; omega) hq1 hq, vn_push, len_push, Nat.pow_succ, vn_at0 a i, vn_at0 b i]
      congr 2
      exact sub_step hy hq
    have bor : ∀ (t : Nat), t = c + at0 b i →
      (if ((at0 a i : Nat) : Int) < (t : Int) then (if out.length < 35184372088832 then (cutplaneref01_Sub.l0 k a b (out ++ [(IntKind.u64.wrap ((IntKind.u64.wrap (((at0 a i : Nat) : Int) + 4294967296)) - (t : Int))) % 4294967296]) 1 (wrap64 ((i : Int) + 1))) else (none)) else (if out.length < 35184372088832 then (cutplaneref01_Sub.l0 k a b (out ++ [(IntKind.u64.wrap (((at0 a i : Nat) : Int) - (t : Int))) % 4294967296]) 0 (wrap64 ((i : Int) + 1))) else (none))) = some (dg (vn out + 4294967296 ^ out.length * (vn (a.drop i) - c - vn (b.drop i)))) := by
      intro t ht
      clear ih hle
      by_cases z : at0 a i < c + at0 b i
      · have e1 : IntKind.u64.wrap (((at0 a i : Nat) : Int) + 4294967296) = ((at0 a i : Nat) : Int) + 4294967296 := by rw [wrapu64]; omega
        have e2 : IntKind.u64.wrap (((at0 a i : Nat) : Int) + 4294967296 - (t : Int)) = ((4294967296 + at0 a i - t : Nat) : Int) := by rw [wrapu64]; omega
        rw [if_pos (by omega), e1, e2]
        have := key 1 (4294967296 + at0 a i - t) (by omega) (by omega) (by omega)
        rw [show ((1 : Nat) : Int) = 1 from rfl] at this
        exact this
      · have e2 : IntKind.u64.wrap (((at0 a i : Nat) : Int) - (t : Int)) = ((at0 a i - t : Nat) : Int) := by rw [wrapu64]; omega
        rw [if_neg (by omega), e2]
        have := key 0 (at0 a i - t) (by omega) (by omega) (by omega)
        rw [show ((0 : Nat) : Int) = 0 from rfl] at this
        exact this
    clear key ih hle
    rw [cutplaneref01_Sub.l0, if_pos (by omega), rd_at0 ha ca, u64_of (show at0 a i < 18446744073709551616 by omega)]
    by_cases cb : i < b.length
    · rw [if_pos (by omega), if_pos (by omega), rd_at0 hb cb, u64_of (show at0 b i < 18446744073709551616 by omega), ← Int.natCast_add, u64_of (show c + at0 b i < 18446744073709551616 by omega)]
      exact bor _ rfl
    · rw [if_neg (by omega), if_pos (by omega)]
      exact bor c (by rw [at0_none (by omega)]; rfl)
theorem ref_Sub {X Y : Nat} (hx : Sh (dg X)) (hle : Y ≤ X) (k : Nat) (hk : 2 * (dg X).length + 2 < k) : cutplaneref01_Sub.f k (dg X) (dg Y) = some (dg (X - Y)) := by
  unfold cutplaneref01_Sub.f
  have h := sub_loop (dg_dg X) (dg_dg Y) hx (dg X).length k 0 [] 0 (by omega) (by omega) dg_nil' rfl (by rw [List.length_nil]; omega) (by omega) (by rw [List.drop_zero, List.drop_zero, vn_dg, vn_dg]; omega)
  rw [show ((0 : Nat) : Int) = 0 from rfl] at h
  rw [h, List.drop_zero, List.drop_zero, vn_dg, vn_dg]
  simp [vn]
def cmpn (x y : Nat) : Int := if x < y then -1 else if x > y then 1 else 0
theorem vn_take {l : List Int} {i : Nat} (h : i < l.length) : vn (l.take (i + 1)) = vn (l.take i) + 4294967296 ^ i * at0 l i := by
  rw [List.take_succ_eq_append_getElem h, vn_append, List.length_take, Nat.min_eq_left (by omega)]
  unfold at0; rw [dif_pos h]; simp [vn]
theorem cmp_loop {a b : List Int} (ha : Dg a) (hb : Dg b) (hla : Sh a) (he : a.length = b.length) (i : Nat) : ∀ k, i ≤ a.length → i < k →
    cutplaneref01_Cmp.l0 k a b ((i : Int) - 1) = some (cmpn (vn (a.take i)) (vn (b.take i))) := by
  unfold Sh at hla
  induction i with
  | zero =>
    intro k hi hk
    obtain ⟨k, rfl⟩ : ∃ m, k = m + 1 := ⟨k - 1, by omega⟩
    rw [cutplaneref01_Cmp.l0, if_neg (by omega)]
    simp [vn, cmpn]
  | succ i ih =>
    intro k hi hk
    obtain ⟨k, rfl⟩ : ∃ m, k = m + 1 := ⟨k - 1, by omega⟩
    have ca : i < a.length := by omega
    have cb : i < b.length := by omega
    have e0 : ((i + 1 : Nat) : Int) - 1 = (i : Int) := by omega
    have w1 : wrap64 ((i : Int) - 1) = (i : Int) - 1 := by unfold wrap64; omega
    have l1 := vn_lt (dg_take ha i)
    have l2 := vn_lt (dg_take hb i)
    rw [List.length_take, Nat.min_eq_left (by omega)] at l1 l2
    rw [e0, cutplaneref01_Cmp.l0, if_pos (by omega), if_pos (by omega), if_pos (by omega), if_pos (by omega), rd_at0 ha ca, rd_at0 hb cb, w1, ih k (by omega) (by omega), vn_take ca, vn_take cb]
    generalize at0 a i = x
    generalize at0 b i = y
    generalize vn (a.take i) = p at *
    generalize vn (b.take i) = q at *
    generalize 4294967296 ^ i = B at *
    unfold cmpn
    have lt : ∀ {x y p q : Nat}, p < B → x < y → p + B * x < q + B * y := by
      intro x y p q hp hxy
      have h1 : B * (x + 1) ≤ B * y := Nat.mul_le_mul_left _ hxy
      rw [Nat.mul_add, Nat.mul_one] at h1
      omega
    by_cases c1 : x < y
    · rw [if_pos (by omega), if_pos (lt l1 c1)]
    · by_cases c2 : y < x
      · have := lt (q := p) l2 c2
        rw [if_neg (by omega), if_pos (by omega), if_neg (by omega), if_pos (by omega)]
      · have e : x = y := by omega
        subst e
        rw [if_neg (by omega), if_neg (by omega)]
        by_cases c3 : p < q
        · rw [if_pos c3, if_pos (by omega)]
        · by_cases c4 : p > q
          · rw [if_neg c3, if_pos c4, if_neg (by omega), if_pos (by omega)]
          · rw [if_neg c3, if_neg c4, if_neg (by omega), if_neg (by omega)]
theorem len_lt {X Y : Nat} (h : (dg X).length < (dg Y).length) : X < Y := by
  have h1 := dg_hi X
  have hy : Y ≠ 0 := by rintro rfl; rw [dg_zero] at h; simp at h
  have h2 := dg_lo hy
  have : 4294967296 ^ (dg X).length ≤ 4294967296 ^ ((dg Y).length - 1) := Nat.pow_le_pow_right (by decide) (by omega)
  omega
theorem ref_Cmp1 {X Y : Nat} (hx : Sh (dg X)) (k : Nat) (hk : (dg X).length < k) : cutplaneref01_Cmp.f k (dg X) (dg Y) = some (cmpn X Y) := by
  unfold Sh at hx
  unfold cutplaneref01_Cmp.f
  by_cases c : (dg X).length = (dg Y).length
  · have w1 : wrap64 (((dg X).length : Int) - 1) = ((dg X).length : Int) - 1 := by unfold wrap64; omega
    rw [if_pos (by omega), w1, cmp_loop (dg_dg X) (dg_dg Y) hx c (dg X).length k (by omega) hk, List.take_length, c, List.take_length, vn_dg, vn_dg]
  · rw [if_neg (by omega)]
    unfold cmpn
    by_cases c1 : (dg X).length < (dg Y).length
    · have := len_lt c1
      rw [if_pos (by omega), if_pos this]
    · have := len_lt (X := Y) (Y := X) (by omega)
      rw [if_neg (by omega), if_neg (by omega), if_pos (by omega)]
end Go.Proofs.Ytnjdaoeebhbmfaa.PA
end

section
namespace Go.Proofs.Ytnjdaoeebhbmfaa.PA
open Go.RowKit Go.Proofs.YtnjdaoeebhbmfaaW.PrintWords Go.Proofs.YtnjdaoeebhbmfaaW.PrintLast Go.Proofs.YtnjdaoeebhbmfaaW.PrintMore Go.Proofs.Ytnjdaoeebhbmfaa.Wd
set_option linter.unusedSimpArgs false
set_option linter.unusedVariables false
/-- how many noughts stand below -/
def tzn (n : Nat) : Nat := if h : n = 0 then 0 else if n % 2 = 1 then 0 else tzn (n / 2) + 1
  termination_by n
  decreasing_by omega
theorem tzn_odd {m : Nat} (hm : m % 2 = 1) : tzn m = 0 := by
  rw [tzn, dif_neg (by omega), if_pos hm]
theorem tzn_mul {m : Nat} (hm : m % 2 = 1) (t : Nat) : tzn (2 ^ t * m) = t := by
  induction t with
  | zero => rw [Nat.pow_zero, Nat.one_mul, tzn_odd hm]
  | succ t ih =>
    have e : 2 ^ (t + 1) * m = 2 * (2 ^ t * m) := by rw [Nat.pow_succ, Nat.mul_comm (2 ^ t) 2, Nat.mul_assoc]
    have hne := two_ne (t := t) hm
    rw [e]
    generalize 2 ^ t * m = x at *
    rw [tzn, dif_neg (by omega), if_neg (by omega), Nat.mul_div_cancel_left _ (by decide), ih]
/-- a number of so many units, in the one form -/
def fm (neg : Bool) (N : Nat) (e : Int) : Bool × List Int × Int := if N = 0 then (false, [], 0) else (neg, dg (N / 2 ^ tzn N), e + tzn N)
theorem fm_zero (neg : Bool) (e : Int) : fm neg 0 e = (false, [], 0) := rfl
theorem fm_mk {neg : Bool} {t m : Nat} {e : Int} (hm : m % 2 = 1) : fm neg (2 ^ t * m) e = (neg, dg m, e + t) := by
  unfold fm
  rw [if_neg (two_ne hm), tzn_mul hm, Nat.mul_div_cancel_left _ (Nat.two_pow_pos t)]
theorem fm_shift {neg : Bool} {N j : Nat} {e : Int} : fm neg (2 ^ j * N) e = fm neg N (e + j) := by
  by_cases z : N = 0
  · subst z; rw [Nat.mul_zero, fm_zero, fm_zero]
  · obtain ⟨t, m, rfl, hm⟩ := odd_part z
    rw [fm_mk hm, ← Nat.mul_assoc, ← Nat.pow_add, fm_mk hm]
    congr 2; omega
theorem len_cap {N C : Nat} (h : N < 2 ^ C) : (dg N).length ≤ C / 32 + 1 := by
  apply dg_length_le
  rw [pow32]
  exact Nat.lt_of_lt_of_le h (Nat.pow_le_pow_right (by decide) (by omega))
theorem tz_cap {N C t m : Nat} (h : N < 2 ^ C) (e : N = 2 ^ t * m) (hm : m % 2 = 1) : t < C := by
  have h1 : 2 ^ t ≤ 2 ^ t * m := Nat.le_mul_of_pos_right _ (by omega)
  exact (Nat.pow_lt_pow_iff_right (by decide)).1 (Nat.lt_of_le_of_lt (by rw [e]; exact h1) h)
theorem odd_cap {N C t m : Nat} (h : N < 2 ^ C) (e : N = 2 ^ t * m) : m < 2 ^ C := by
  have h1 : m ≤ 2 ^ t * m := Nat.le_mul_of_pos_left _ (Nat.two_pow_pos t)
  rw [e] at h; omega
theorem ref_Form {neg : Bool} {N C : Nat} {e : Int} (h : N < 2 ^ C) (hC : C ≤ 100000) (e0 : -1099511627776 < e) (e1 : e < 1099511627776) (k : Nat) (hk : 500000 < k) :
    cutplaneref02_Form.f k neg (dg N) e = some (fm neg N e) := by
  unfold cutplaneref02_Form.f
  by_cases z : N = 0
  · subst z; rw [dg_zero]; rfl
  · obtain ⟨t, m, rfl, hm⟩ := odd_part z
    have hl := len_cap h
    have ht := tz_cap h rfl hm
    have hp := dg_len_pos z
    have hs : Sh (dg (2 ^ t * m)) := by unfold Sh; omega
    have w1 : wrap64 (e + (t : Int)) = e + t := by unfold wrap64; omega
    rw [if_neg (by omega), ref_Low hm hs k (by omega)]
    simp only [Option.bind_some]
    rw [ref_Down1 hm hs (by omega) k (by omega), fm_mk hm, w1, Nat.mul_div_cancel_left _ (Nat.two_pow_pos t)]
    rfl
theorem ref_Sign_fm (neg : Bool) (N : Nat) (e : Int) : cutplaneref02_Sign.f (fm neg N e).1 (fm neg N e).2.1 (fm neg N e).2.2 = some (if N = 0 then 0 else if neg then -1 else 1) := by
  unfold cutplaneref02_Sign.f
  by_cases z : N = 0
  · subst z; rw [fm_zero]; rfl
  · obtain ⟨t, m, rfl, hm⟩ := odd_part z
    have hp := dg_len_pos (n := m) (by omega)
    rw [fm_mk hm, if_neg z]
    simp only
    rw [if_neg (by omega)]
    cases neg <;> rfl
theorem ref_Top_fm {neg : Bool} {N C : Nat} {e : Int} (h : N < 2 ^ C) (hC : C ≤ 100000) (e0 : -1099511627776 < e) (e1 : e < 1099511627776) (k : Nat) (hk : 500000 < k) :
    cutplaneref02_Top.f k (fm neg N e).1 (fm neg N e).2.1 (fm neg N e).2.2 = some (if N = 0 then 0 else e + bl N) := by
  unfold cutplaneref02_Top.f
  by_cases z : N = 0
  · subst z; rw [fm_zero]; rfl
  · obtain ⟨t, m, rfl, hm⟩ := odd_part z
    have ht := tz_cap h rfl hm
    have hmc := odd_cap h rfl
    have hl := len_cap hmc
    have hp := dg_len_pos (n := m) (by omega)
    have hb := bl_le hmc
    have hs : Sh (dg m) := by unfold Sh; omega
    rw [fm_mk hm, if_neg z]
    simp only
    rw [if_neg (by omega), ref_Len hs k (by omega)]
    simp only [Option.bind_some]
    have w1 : wrap64 (e + (t : Int) + (bl m : Int)) = e + t + bl m := by unfold wrap64; omega
    have eb := bl_shift (n := m) (by omega) t
    rw [w1, Nat.mul_comm, eb]
    congr 1; omega
theorem ref_Neg_fm (neg : Bool) (N : Nat) (e : Int) : cutplaneref02_Neg.f (fm neg N e).1 (fm neg N e).2.1 (fm neg N e).2.2 = some (fm (!neg) N e) := by
  unfold cutplaneref02_Neg.f
  by_cases z : N = 0
  · subst z; rw [fm_zero, fm_zero]; rfl
  · obtain ⟨t, m, rfl, hm⟩ := odd_part z
    have hp := dg_len_pos (n := m) (by omega)
    rw [fm_mk hm, fm_mk hm]
    simp only
    rw [if_pos (by omega)]
theorem up_cap {m t j C : Nat} (h : 2 ^ t * m < 2 ^ C) (hj : j ≤ t) : 2 ^ (t - j) * m < 2 ^ C := by
  have : 2 ^ (t - j) * m ≤ 2 ^ t * m := Nat.mul_le_mul_right _ (Nat.pow_le_pow_right (by decide) (by omega))
  omega
theorem add_core {na nb : Bool} {tA tB mA mB t C : Nat} {e : Int} (hA : 2 ^ tA * mA < 2 ^ C) (hB : 2 ^ tB * mB < 2 ^ C) (oA : mA % 2 = 1) (oB : mB % 2 = 1) (hC : C < 100000) (e0 : -1000000000000 < e) (e1 : e < 1000000000000) (ta : t ≤ tA) (tb : t ≤ tB) (k : Nat) (hk : 500001 < k) :
    cutplaneref02_Add.j0 k (e + t) na (dg mA) (e + tA) nb (dg mB) (e + tB) = some (if na = nb then fm na (2 ^ (tA - t) * mA + 2 ^ (tB - t) * mB) (e + t) else if 2 ^ (tB - t) * mB ≤ 2 ^ (tA - t) * mA then fm na (2 ^ (tA - t) * mA - 2 ^ (tB - t) * mB) (e + t) else fm nb (2 ^ (tB - t) * mB - 2 ^ (tA - t) * mA) (e + t)) := by
  obtain ⟨k, rfl⟩ : ∃ j, k = j + 1 := ⟨k - 1, by omega⟩
  have cA := tz_cap hA rfl oA
  have cB := tz_cap hB rfl oB
  have lA := len_cap (odd_cap hA rfl)
  have lB := len_cap (odd_cap hB rfl)
  have uA := up_cap hA ta
  have uB := up_cap hB tb
  have l1 := len_cap uA
  have l2 := len_cap uB
  have wA : wrap64 (e + (tA : Int) - (e + (t : Int))) = ((tA - t : Nat) : Int) := by unfold wrap64; omega
  have wB : wrap64 (e + (tB : Int) - (e + (t : Int))) = ((tB - t : Nat) : Int) := by unfold wrap64; omega
  have hsum : 2 ^ (tA - t) * mA + 2 ^ (tB - t) * mB < 2 ^ (C + 1) := by rw [Nat.pow_succ]; omega
  rw [cutplaneref02_Add.j0, wA, wB, ref_Up1 (by unfold Sh; omega) (by omega) (by omega) k (by omega), Option.bind_some, ref_Up1 (by unfold Sh; omega) (by omega) (by omega) k (by omega), Option.bind_some, Nat.mul_comm mA, Nat.mul_comm mB]
  have ft0 : -1099511627776 < e + (t : Int) := by omega
  have ft1 : e + (t : Int) < 1099511627776 := by omega
  generalize 2 ^ (tA - t) * mA = X at *
  generalize 2 ^ (tB - t) * mB = Y at *
  have s1 : Sh (dg X) := by unfold Sh; omega
  have s2 : Sh (dg Y) := by unfold Sh; omega
  by_cases c : na = nb
  · subst c
    rw [if_pos (by simp), if_pos rfl, ref_Add (by omega) (by omega) k (by omega), Option.bind_some, ref_Form hsum (by omega) ft0 ft1 k (by omega)]
    rfl
  · rw [if_neg (by simpa using c), if_neg c, ref_Cmp1 s1 k (by omega), Option.bind_some]
    unfold cmpn
    by_cases c2 : Y ≤ X
    · have hsub : X - Y < 2 ^ C := by omega
      rw [if_pos c2, if_pos (by split <;> (try split) <;> omega), ref_Sub s1 c2 k (by omega), Option.bind_some, ref_Form hsub (by omega) ft0 ft1 k (by omega)]
      rfl
    · have hsub : Y - X < 2 ^ C := by omega
      rw [if_neg c2, if_neg (by rw [if_pos (by omega)]; omega), ref_Sub s2 (by omega) k (by omega), Option.bind_some, ref_Form hsub (by omega) ft0 ft1 k (by omega)]
      rfl
/-- the sum, of numbers of the same unit -/
def addz (na : Bool) (A : Nat) (nb : Bool) (B : Nat) (e : Int) : Bool × List Int × Int :=
  if A = 0 then fm nb B e else if B = 0 then fm na A e else if na = nb then fm na (A + B) e else if B ≤ A then fm na (A - B) e else fm nb (B - A) e
theorem split_pow {t tA m : Nat} (h : t ≤ tA) : 2 ^ tA * m = 2 ^ t * (2 ^ (tA - t) * m) := by
  rw [← Nat.mul_assoc, ← Nat.pow_add]
  have : t + (tA - t) = tA := by omega
  rw [this]
theorem ref_Add_fm {na nb : Bool} {A B C : Nat} {e : Int} (hA : A < 2 ^ C) (hB : B < 2 ^ C) (hC : C < 100000) (e0 : -1000000000000 < e) (e1 : e < 1000000000000) (k : Nat) (hk : 500001 < k) :
    cutplaneref02_Add.f k (fm na A e).1 (fm na A e).2.1 (fm na A e).2.2 (fm nb B e).1 (fm nb B e).2.1 (fm nb B e).2.2 = some (addz na A nb B e) := by
  unfold cutplaneref02_Add.f addz
  by_cases zA : A = 0
  · subst zA; rw [fm_zero]; rfl
  rw [if_neg zA]
  by_cases zB : B = 0
  · subst zB
    obtain ⟨t, m, rfl, hm⟩ := odd_part zA
    have hp := dg_len_pos (n := m) (by omega)
    rw [fm_zero, fm_mk hm]
    simp only
    rw [if_neg (by omega)]; rfl
  rw [if_neg zB]
  obtain ⟨tA, mA, rfl, oA⟩ := odd_part zA
  obtain ⟨tB, mB, rfl, oB⟩ := odd_part zB
  have pA := dg_len_pos (n := mA) (by omega)
  have pB := dg_len_pos (n := mB) (by omega)
  rw [fm_mk oA, fm_mk oB]
  simp only
  rw [if_neg (by omega), if_neg (by omega)]
  have key : ∀ t : Nat, t ≤ tA → t ≤ tB → cutplaneref02_Add.j0 k (e + t) na (dg mA) (e + tA) nb (dg mB) (e + tB) = some (if na = nb then fm na (2 ^ tA * mA + 2 ^ tB * mB) e else if 2 ^ tB * mB ≤ 2 ^ tA * mA then fm na (2 ^ tA * mA - 2 ^ tB * mB) e else fm nb (2 ^ tB * mB - 2 ^ tA * mA) e) := by
    intro t ta tb
    rw [add_core hA hB oA oB hC e0 e1 ta tb k hk, split_pow (m := mA) ta, split_pow (m := mB) tb]
    generalize 2 ^ (tA - t) * mA = X
    generalize 2 ^ (tB - t) * mB = Y
    rw [← Nat.mul_add, ← Nat.mul_sub, ← Nat.mul_sub, fm_shift, fm_shift, fm_shift]
    have : 2 ^ t * Y ≤ 2 ^ t * X ↔ Y ≤ X := Nat.mul_le_mul_left_iff (Nat.two_pow_pos t)
    by_cases c : Y ≤ X
    · rw [if_pos c, if_pos (this.2 c)]
    · rw [if_neg c, if_neg (fun h => c (this.1 h))]
  by_cases c : e + (tB : Int) < e + (tA : Int)
  · rw [if_pos c]; exact key tB (by omega) (by omega)
  · rw [if_neg c]; exact key tA (by omega) (by omega)
theorem ref_Sub_fm {na nb : Bool} {A B C : Nat} {e : Int} (hA : A < 2 ^ C) (hB : B < 2 ^ C) (hC : C < 100000) (e0 : -1000000000000 < e) (e1 : e < 1000000000000) (k : Nat) (hk : 500001 < k) :
    cutplaneref02_Sub.f k (fm na A e).1 (fm na A e).2.1 (fm na A e).2.2 (fm nb B e).1 (fm nb B e).2.1 (fm nb B e).2.2 = some (addz na A (!nb) B e) := by
  unfold cutplaneref02_Sub.f
  rw [ref_Neg_fm, Option.bind_some, ref_Add_fm hA hB hC e0 e1 k hk]
  rfl
/-- a whole number of units -/
def zs (neg : Bool) (N : Nat) : Int := if neg then -(N : Int) else N
def cmpz (x y : Int) : Int := if x < y then -1 else if x > y then 1 else 0
theorem bl_mono {A B : Nat} (h : bl A < bl B) : A < B := by
  have h1 := bl_hi A
  have hB : B ≠ 0 := by rintro rfl; rw [bl_zero] at h; omega
  have h2 := bl_lo hB
  have : 2 ^ bl A ≤ 2 ^ (bl B - 1) := Nat.pow_le_pow_right (by decide) (by omega)
  omega
theorem ref_Cmp_fm {na nb : Bool} {A B C : Nat} {e : Int} (hA : A < 2 ^ C) (hB : B < 2 ^ C) (hC : C < 100000) (e0 : -1000000000000 < e) (e1 : e < 1000000000000) (k : Nat) (hk : 500001 < k) :
    cutplaneref02_Cmp.f k (fm na A e).1 (fm na A e).2.1 (fm na A e).2.2 (fm nb B e).1 (fm nb B e).2.1 (fm nb B e).2.2 = some (cmpz (zs na A) (zs nb B)) := by
  unfold cutplaneref02_Cmp.f
  rw [ref_Sign_fm, Option.bind_some, ref_Sign_fm, Option.bind_some, ref_Top_fm hA (by omega) (by omega) (by omega) k (by omega), ref_Top_fm hB (by omega) (by omega) (by omega) k (by omega), ref_Sub_fm hA hB hC e0 e1 k hk]
  simp only [Option.bind_some]
  by_cases zA : A = 0
  · by_cases zB : B = 0
    · subst zA zB; cases na <;> cases nb <;> rfl
    · rw [if_pos zA, if_neg zB]
      subst zA
      cases nb
      · rw [if_neg (by decide), if_pos (by decide)]
        unfold cmpz zs; cases na <;> simp <;> omega
      · rw [if_neg (by decide), if_neg (by decide)]
        unfold cmpz zs; cases na <;> simp <;> omega
  · by_cases zB : B = 0
    · rw [if_neg zA, if_pos zB]
      subst zB
      cases na
      · rw [if_neg (by decide), if_neg (by decide)]
        unfold cmpz zs; cases nb <;> simp <;> omega
      · rw [if_neg (by decide), if_pos (by decide)]
        unfold cmpz zs; cases nb <;> simp <;> omega
    · rw [if_neg zA, if_neg zB, if_neg zA, if_neg zB]
      by_cases c : na = nb
      · subst c
        rw [if_pos rfl, if_neg (by cases na <;> decide)]
        by_cases cb : bl A = bl B
        · rw [if_pos (by omega)]
          unfold addz
          rw [if_neg zA, if_neg zB, if_neg (by cases na <;> decide)]
          by_cases c2 : B ≤ A
          · rw [if_pos c2, ref_Sign_fm]
            unfold cmpz zs
            by_cases c3 : A - B = 0
            · rw [if_pos c3]; cases na <;> simp <;> (try split) <;> omega
            · rw [if_neg c3]; cases na <;> simp <;> (try split) <;> omega
          · rw [if_neg c2, ref_Sign_fm, if_neg (show ¬ (B - A = 0) by omega)]
            unfold cmpz zs
            cases na <;> simp <;> (try split) <;> omega
        · rw [if_neg (by omega)]
          by_cases c2 : bl A < bl B
          · have := bl_mono c2
            rw [decide_eq_true (show e + (bl A : Int) < e + (bl B : Int) by omega)]
            unfold cmpz zs
            cases na <;> simp <;> (try split) <;> omega
          · have := bl_mono (A := B) (B := A) (by omega)
            rw [decide_eq_false (show ¬ (e + (bl A : Int) < e + (bl B : Int)) by omega)]
            unfold cmpz zs
            cases na <;> simp <;> (try split) <;> omega
      · rw [if_neg (by cases na <;> cases nb <;> simp at c ⊢)]
        unfold cmpz zs
        cases na <;> cases nb <;> simp at c ⊢ <;> (try split) <;> omega
end Go.Proofs.Ytnjdaoeebhbmfaa.PA
end
