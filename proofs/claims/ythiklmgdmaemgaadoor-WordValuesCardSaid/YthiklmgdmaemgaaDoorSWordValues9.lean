/- Steps of Go functions that the law WordValues uses, told as plain Lean functions, each with the proof that its call comes to what it tells; words on memory; plain facts. No condition beyond those that each text names. -/
import Derived.Laws.BitsAllLaws
import Derived.Laws.BitsLemmas
import Derived.Test.YthiklmgdmaemgaaDoorProg
import Derived.WalkMore
import Derived.Shelf.Spec.TrailingZeros
import Derived.Below
import Derived.Deep.Draws
import Derived.Deep.AppendLies
import Derived.Maps.AppendAt
import Derived.OwnWalk
import Derived.Laws.BytesArg
import Derived.Laws.MakeOwn
import Derived.Laws.OwnMore
import Derived.Deep.OwnRows
import Derived.Tactics
import Derived.Lib.ConvBytes
import Derived.Laws.Slices
import Derived.WalkKit
import Derived.KernelRfl
import Derived.RowKit3
import Derived.Deep.LoopGhost
import Derived.Deep.QuietTactic
import Derived.BigQuiet
import Derived.WideLaws
import Derived.Deep.DeepCutAuto
import Derived.Deep.CutBlock
import Derived.Deep.RegionHeld3
import Derived.Laws.Rows
import Derived.Lib.AppendStr
import Derived.ArgAppend
import Derived.Laws.IdiomCopy
import Derived.OrdersHeld
import Derived.RowKit
import Derived.Laws.StructEq
import Derived.Lib.EndianBits
import Derived.OpenShut
import Derived.Test.YthiklmgdmaemgaaDoorSWordValues0
import Derived.Test.YthiklmgdmaemgaaDoorSWordValues1
import Derived.Test.YthiklmgdmaemgaaDoorSWordValues2
import Derived.Test.YthiklmgdmaemgaaDoorSWordValues3
import Derived.Test.YthiklmgdmaemgaaDoorSWordValues4
import Derived.Test.YthiklmgdmaemgaaDoorSWordValues5
import Derived.Test.YthiklmgdmaemgaaDoorSWordValues6
import Derived.Test.YthiklmgdmaemgaaDoorSWordValues7
import Derived.Test.YthiklmgdmaemgaaDoorSWordValues8
section
namespace Go.Proofs.YthiklmgdmaemgaaDoor.PA
open Go.RowKit Go.Proofs.YthiklmgdmaemgaaDoorW.PrintWords Go.Proofs.YthiklmgdmaemgaaDoorW.PrintLast Go.Proofs.YthiklmgdmaemgaaDoorW.PrintMore Go.Proofs.YthiklmgdmaemgaaDoor.Wd
set_option linter.unusedSimpArgs false
set_option linter.unusedVariables false
theorem dg_mem {l : List Int} (hd : Dg l) {i : Nat} (h : i < l.length) : 0 ≤ l[i] ∧ l[i] < 4294967296 := hd _ (List.getElem_mem h)
theorem dg_append {l m : List Int} (hl : Dg l) (hm : Dg m) : Dg (l ++ m) := by
  intro d h
  rcases List.mem_append.1 h with h | h
  · exact hl d h
  · exact hm d h
theorem dg_one {y : Int} (h0 : 0 ≤ y) (h1 : y < 4294967296) : Dg [y] := by
  intro d h
  rw [List.mem_singleton.1 h]; exact ⟨h0, h1⟩
theorem dg_nil' : Dg [] := fun d h => by cases h
theorem vn_drop {l : List Int} {i : Nat} (h : i < l.length) : vn (l.drop i) = l[i].toNat + 4294967296 * vn (l.drop (i + 1)) := by
  rw [List.drop_eq_getElem_cons h]; rfl
theorem vn_nil_of {l : List Int} {i : Nat} (h : l.length ≤ i) : vn (l.drop i) = 0 := by rw [List.drop_eq_nil_of_le h]; rfl
/-- the digit of a place, or nought -/
def at0 (l : List Int) (i : Nat) : Nat := if h : i < l.length then l[i].toNat else 0
theorem vn_at0 (l : List Int) (i : Nat) : vn (l.drop i) = at0 l i + 4294967296 * vn (l.drop (i + 1)) := by
  unfold at0
  by_cases h : i < l.length
  · rw [dif_pos h, vn_drop h]
  · rw [dif_neg h, vn_nil_of (by omega), vn_nil_of (by omega)]
theorem at0_lt {l : List Int} (hd : Dg l) (i : Nat) : at0 l i < 4294967296 := by
  unfold at0
  split
  · rename_i h; have := dg_mem hd h; omega
  · omega
theorem rd_at0 {l : List Int} (hd : Dg l) {i : Nat} (h : i < l.length) : rd l (i : Int) = (at0 l i : Int) := by
  have := dg_mem hd h
  rw [rd_at l i h]; unfold at0; rw [dif_pos h]; omega
theorem vn_push (l : List Int) (y : Nat) : vn (l ++ [(y : Int)]) = vn l + 4294967296 ^ l.length * y := by
  rw [vn_append]; simp [vn]
theorem len_push (l : List Int) (y : Int) : (l ++ [y]).length = l.length + 1 := by simp
theorem cast_mod (a : Nat) : (a : Int) % 4294967296 = ((a % 4294967296 : Nat) : Int) := by omega
theorem cast_div (a : Nat) : (a : Int) / 4294967296 = ((a / 4294967296 : Nat) : Int) := by omega
theorem mod_small {y : Nat} (h : y < 4294967296) : (y : Int) % 4294967296 = (y : Int) := by omega
theorem u64_of {y : Nat} (h : y < 18446744073709551616) : IntKind.u64.wrap (y : Int) = (y : Int) := by rw [wrapu64]; omega
theorem or_low {y x i : Nat} (hy : y < 2 ^ i) (hx : x % 2 ^ i = 0) (hx1 : x < 18446744073709551616) (hy1 : y < 18446744073709551616) : Go.bits .or .u64 (y : Int) (x : Int) = ((y + x : Nat) : Int) := by
  have h := bits_join_low .u64 64 (by decide) wraps_u64 i (y : Int) (x : Int) (by omega) (by exact_mod_cast hy) (by omega) (by omega) (by exact_mod_cast hx) (by omega)
  rw [h]; omega
theorem shl_nat {y s : Nat} (hs : s ≤ 32) (hy : y < 4294967296) : shl .u64 (y : Int) (s : Int) = ((y * 2 ^ s : Nat) : Int) := by
  unfold shl
  have e : min ((s : Int)).toNat IntKind.u64.bits = s := by have : IntKind.u64.bits = 64 := rfl; omega
  have h1 : 2 ^ s ≤ 2 ^ 32 := Nat.pow_le_pow_right (by decide) hs
  have h2 : y * 2 ^ s ≤ 4294967295 * 2 ^ 32 := Nat.mul_le_mul (by omega) h1
  rw [e, wrapu64]
  have e2 : (y : Int) * 2 ^ s = ((y * 2 ^ s : Nat) : Int) := by push_cast; rfl
  rw [e2]
  generalize y * 2 ^ s = z at *
  omega
theorem shr_nat {y s : Nat} (hs : s ≤ 32) : shr .u64 (y : Int) (s : Int) = ((y / 2 ^ s : Nat) : Int) := by
  unfold shr
  have e : min ((s : Int)).toNat IntKind.u64.bits = s := by have : IntKind.u64.bits = 64 := rfl; omega
  rw [e]; push_cast; rfl
theorem mul_mod_pow {y s : Nat} : y * 2 ^ s % 2 ^ s = 0 := Nat.mul_mod_left _ _
theorem down_loop {l : List Int} (hd : Dg l) (hl : Sh l) {s : Nat} (hs : s < 32) (lost : Bool) (d : Nat) : ∀ (k i : Nat) (out : List Int), i ≤ l.length → l.length - i = d → Dg out → out.length + d < 1099511627776 → out.length + 2 * d + 1 < k →
    cutplaneref01_Down.l0 k l lost out (s : Int) (i : Int) = some (dg (vn (out ++ dn s (l.drop i))), lost) := by
  unfold Sh at hl
  induction d with
  | zero =>
    intro k i out hi hd' ho hlen hk
    obtain ⟨k, rfl⟩ : ∃ m, k = m + 1 := ⟨k - 1, by omega⟩
    rw [cutplaneref01_Down.l0, if_neg (by omega), ref_Trim ho (by unfold Sh; omega) k (by omega), List.drop_eq_nil_of_le (by omega)]
    simp [dn]
  | succ d ih =>
    intro k i out hi hd' ho hlen hk
    obtain ⟨k, rfl⟩ : ∃ m, k = m + 1 := ⟨k - 1, by omega⟩
    have hlt : i < l.length := by omega
    have hm := dg_mem hd hlt
    have w1 : wrap64 ((i : Int) + 1) = ((i + 1 : Nat) : Int) := by unfold wrap64; omega
    have w2 : wrap64 (32 - (s : Int)) = ((32 - s : Nat) : Int) := by unfold wrap64; omega
    have hr := rd_at0 hd hlt
    have ha := at0_lt hd i
    have hdp : l.drop i = (at0 l i : Int) :: l.drop (i + 1) := by
      rw [List.drop_eq_getElem_cons hlt]; congr 1; unfold at0; rw [dif_pos hlt]; omega
    have hq : at0 l i / 2 ^ s < 4294967296 := Nat.lt_of_le_of_lt (Nat.div_le_self _ _) ha
    rw [cutplaneref01_Down.l0, if_pos (by omega), if_pos (by omega), if_pos (by omega), w1, w2, hr, u64_of (by omega), shr_nat (by omega)]
    by_cases c : i + 1 < l.length
    · have hb := at0_lt hd (i + 1)
      have hm2 := dg_mem hd c
      have hr2 := rd_at0 hd c
      have hdp2 : l.drop (i + 1) = (at0 l (i + 1) : Int) :: l.drop (i + 2) := by
        rw [List.drop_eq_getElem_cons c]; congr 1; unfold at0; rw [dif_pos c]; omega
      have hy : at0 l i / 2 ^ s < 2 ^ (32 - s) := by
        rw [Nat.div_lt_iff_lt_mul (Nat.two_pow_pos s), ← Nat.pow_add]
        have : 32 - s + s = 32 := by omega
        rw [this]; exact ha
      have h2 : at0 l (i + 1) * 2 ^ (32 - s) < 18446744073709551616 := by
        have h1 : 2 ^ (32 - s) ≤ 2 ^ 32 := Nat.pow_le_pow_right (by decide) (by omega)
        have := Nat.mul_le_mul (Nat.le_of_lt hb) h1
        have h3 : at0 l (i + 1) * 2 ^ (32 - s) < 4294967296 * 2 ^ 32 := Nat.mul_lt_mul_of_lt_of_le hb h1 (Nat.two_pow_pos _)
        omega
      rw [if_pos (by omega), if_pos (by omega), if_pos (by omega), hr2, u64_of (by omega), shl_nat (by omega) hb, or_low hy mul_mod_pow h2 (by omega), if_pos (by omega)]
      have e1 : ((at0 l i / 2 ^ s + at0 l (i + 1) * 2 ^ (32 - s) : Nat) : Int) % 4294967296 = (((at0 l i / 2 ^ s + at0 l (i + 1) * 2 ^ (32 - s)) % 4294967296 : Nat) : Int) := cast_mod _
      rw [e1, ih k (i + 1) _ (by omega) (by omega) (dg_append ho (dg_one (by omega) (by omega))) (by rw [len_push]; omega) (by rw [len_push]; omega), hdp, hdp2]
      simp only [dn, Int.toNat_natCast, List.append_assoc, List.singleton_append]
    · have e1 : ((at0 l i / 2 ^ s : Nat) : Int) % 4294967296 = ((at0 l i / 2 ^ s : Nat) : Int) := mod_small hq
      rw [if_neg (by omega), if_pos (by omega), e1, ih k (i + 1) _ (by omega) (by omega) (dg_append ho (dg_one (by omega) (by omega))) (by rw [len_push]; omega) (by rw [len_push]; omega), hdp, List.drop_eq_nil_of_le (show l.length ≤ i + 1 by omega)]
      simp only [dn, Int.toNat_natCast, List.append_assoc, List.singleton_append, List.append_nil]
theorem vn_drop_div {l : List Int} (hd : Dg l) (i : Nat) : vn (l.drop i) = vn l / 4294967296 ^ i := by
  by_cases h : i ≤ l.length
  · have e := vn_append (l.take i) (l.drop i)
    rw [List.take_append_drop, List.length_take, Nat.min_eq_left h] at e
    have hl := vn_lt (dg_take hd i)
    rw [List.length_take, Nat.min_eq_left h] at hl
    rw [e, Nat.add_mul_div_left _ _ (Nat.pos_of_ne_zero (by simp)), Nat.div_eq_of_lt hl]; omega
  · have hl := vn_lt hd
    have : 4294967296 ^ l.length ≤ 4294967296 ^ i := Nat.pow_le_pow_right (by decide) (by omega)
    rw [vn_nil_of (by omega), Nat.div_eq_of_lt (by omega)]
theorem bl_gt {t m : Nat} (hm : m % 2 = 1) : t < bl (2 ^ t * m) := by
  have h := bl_hi (2 ^ t * m)
  have h1 : 2 ^ t ≤ 2 ^ t * m := Nat.le_mul_of_pos_right _ (by omega)
  exact (Nat.pow_lt_pow_iff_right (by decide)).1 (Nat.lt_of_le_of_lt h1 h)
theorem len_of {X : Nat} : bl X ≤ 32 * (dg X).length := by
  apply bl_le
  rw [← pow32]; exact dg_hi _
theorem down_core {X t n k : Nat} (hX : X ≠ 0) (ht : t < bl X) (hl : Sh (dg X)) (hn : n < 1099511627776) (hlow : cutplaneref01_Low.f k (dg X) = some (t : Int)) (hk : 2 * (dg X).length + 40 < k) :
    cutplaneref01_Down.f k (dg X) (n : Int) = some (dg (X / 2 ^ n), decide (t < n)) := by
  have hp := dg_len_pos hX
  unfold cutplaneref01_Down.f
  rw [ref_Len hl k (by omega)]
  simp only [Option.bind_some]
  by_cases c : bl X ≤ n
  · have h2 := bl_hi X
    have h3 : 2 ^ bl X ≤ 2 ^ n := Nat.pow_le_pow_right (by decide) c
    rw [if_pos (by omega), Nat.div_eq_of_lt (Nat.lt_of_lt_of_le h2 h3), dg_zero, decide_eq_true (show ((dg X).length : Int) > 0 by omega), decide_eq_true (show t < n by omega)]
  · have e1 : Int.tdiv (n : Int) 32 = ((n / 32 : Nat) : Int) := by rw [Int.tdiv_eq_ediv_of_nonneg (by omega)]; omega
    have e2 : Int.tmod (n : Int) 32 = ((n % 32 : Nat) : Int) := by rw [Int.tmod_eq_emod_of_nonneg (by omega)]; omega
    have w1 : wrap64 ((n / 32 : Nat) : Int) = ((n / 32 : Nat) : Int) := by unfold wrap64; omega
    have e3 : decide ((n : Int) > (t : Int)) = decide (t < n) := by by_cases z : t < n <;> simp [z]
    have hlen := len_of (X := X)
    have hq : n / 32 ≤ (dg X).length := by clear e1 e2; omega
    rw [if_neg (by omega), hlow]
    simp only [Option.bind_some]
    rw [e1, e2, w1, e3]
    clear e1 e2 w1
    have hl' := hl
    unfold Sh at hl'
    have h32 : n % 32 < 32 := Nat.mod_lt _ (by decide)
    have e4 : vn ([] ++ dn (n % 32) ((dg X).drop (n / 32))) = X / 2 ^ n := by
      rw [List.nil_append, vn_dn h32 (dg_drop (dg_dg _) _), vn_drop_div (dg_dg _), vn_dg, Nat.div_div_eq_div_mul, pow32, ← Nat.pow_add]
      have : 32 * (n / 32) + n % 32 = n := Nat.div_add_mod n 32
      rw [this]
    have g1 : ([] : List Int).length + ((dg X).length - n / 32) < 1099511627776 := by rw [List.length_nil]; omega
    have g2 : ([] : List Int).length + 2 * ((dg X).length - n / 32) + 1 < k := by rw [List.length_nil]; omega
    rw [down_loop (dg_dg _) hl h32 _ _ k (n / 32) [] hq rfl dg_nil' g1 g2, e4]
theorem two_ne {t m : Nat} (hm : m % 2 = 1) : 2 ^ t * m ≠ 0 := by
  intro z
  rcases Nat.mul_eq_zero.1 z with z | z
  · exact absurd z (Nat.pos_iff_ne_zero.1 (Nat.two_pow_pos _))
  · omega
/-- the whole part, and whether something fell off -/
theorem ref_Down1 {t m : Nat} (hm : m % 2 = 1) (hl : Sh (dg (2 ^ t * m))) {n : Nat} (hn : n < 1099511627776) (k : Nat) (hk : 2 * t + 2 * (dg (2 ^ t * m)).length + 40 < k) :
    cutplaneref01_Down.f k (dg (2 ^ t * m)) (n : Int) = some (dg (2 ^ t * m / 2 ^ n), decide (t < n)) :=
  down_core (two_ne hm) (bl_gt hm) hl hn (ref_Low hm hl k (by omega)) (by omega)
theorem up_loop {l : List Int} (hd : Dg l) (hl : Sh l) {s : Nat} (hs : s < 32) (d : Nat) : ∀ (k i : Nat) (out : List Int) (last : Nat), i ≤ l.length → l.length - i = d → Dg out → out.length + d < 1099511627775 → out.length + 2 * d + 3 < k → last < 2 ^ s →
    cutplaneref01_Up.l0 k l out (s : Int) (last : Int) (i : Int) = some (dg (vn out + 4294967296 ^ out.length * (last + 2 ^ s * vn (l.drop i)))) := by
  unfold Sh at hl
  have hs32 : 2 ^ s ≤ 2147483648 := by
    have : 2 ^ s ≤ 2 ^ 31 := Nat.pow_le_pow_right (by decide) (by omega)
    exact this
  induction d with
  | zero =>
    intro k i out last hi hd' ho hlen hk hlast
    obtain ⟨k, rfl⟩ : ∃ m, k = m + 1 := ⟨k - 1, by omega⟩
    have hl32 : last < 4294967296 := Nat.lt_of_lt_of_le hlast (Nat.le_trans hs32 (by decide))
    rw [cutplaneref01_Up.l0, if_neg (by omega), if_pos (by omega), mod_small hl32, ref_Trim (dg_append ho (dg_one (by omega) (by omega))) (by unfold Sh; rw [len_push]; omega) k (by rw [len_push]; omega), vn_push, vn_nil_of (by omega)]
    simp
  | succ d ih =>
    intro k i out last hi hd' ho hlen hk hlast
    obtain ⟨k, rfl⟩ : ∃ m, k = m + 1 := ⟨k - 1, by omega⟩
    have hlt : i < l.length := by omega
    have w1 : wrap64 ((i : Int) + 1) = ((i + 1 : Nat) : Int) := by unfold wrap64; omega
    have ha := at0_lt hd i
    have hl32 : last < 4294967296 := Nat.lt_of_lt_of_le hlast (Nat.le_trans hs32 (by decide))
    have h2 : at0 l i * 2 ^ s ≤ 4294967295 * 2 ^ s := Nat.mul_le_mul_right _ (by omega)
    have e1 : ((last + at0 l i * 2 ^ s : Nat) : Int) % 4294967296 = (((last + at0 l i * 2 ^ s) % 4294967296 : Nat) : Int) := cast_mod _
    have e2 : ((last + at0 l i * 2 ^ s : Nat) : Int) / 4294967296 = (((last + at0 l i * 2 ^ s) / 4294967296 : Nat) : Int) := cast_div _
    rw [cutplaneref01_Up.l0, if_pos (by omega), if_pos (by omega), if_pos (by omega), if_pos (by omega), w1, rd_at0 hd hlt, u64_of (by omega), shl_nat (by omega) ha, or_low hlast mul_mod_pow (by omega) (by omega), e1, e2]
    have h3 : (last + at0 l i * 2 ^ s) / 4294967296 < 2 ^ s := by omega
    rw [ih k (i + 1) _ _ (by omega) (by omega) (dg_append ho (dg_one (by omega) (by omega))) (by rw [len_push]; omega) (by rw [len_push]; omega) h3, vn_push, len_push, Nat.pow_succ, vn_at0 l i]
    congr 2
    have h4 := Nat.div_add_mod (last + at0 l i * 2 ^ s) 4294967296
    generalize (last + at0 l i * 2 ^ s) / 4294967296 = q at *
    generalize (last + at0 l i * 2 ^ s) % 4294967296 = r at *
    generalize vn (l.drop (i + 1)) = V
    generalize 4294967296 ^ out.length = B
    rw [Nat.add_assoc, Nat.mul_assoc, ← Nat.mul_add]
    congr 2
    rw [Nat.mul_add, Nat.mul_add, Nat.mul_comm (2 ^ s) (at0 l i), ← Nat.add_assoc, ← Nat.add_assoc, ← h4, Nat.add_comm r]
    congr 1
    rw [← Nat.mul_assoc, ← Nat.mul_assoc, Nat.mul_comm 4294967296 (2 ^ s)]
theorem vn_zeros (q : Nat) : vn (List.replicate q (0 : Int)) = 0 := by
  induction q with
  | zero => rfl
  | succ q ih => rw [List.replicate_succ, vn, ih]; rfl
theorem ref_Up1 {X n : Nat} (hl : Sh (dg X)) (hn : n < 1099511627776) (hln : (dg X).length + n / 32 < 1099511627775) (k : Nat) (hk : n / 32 + 2 * (dg X).length + 3 < k) :
    cutplaneref01_Up.f k (dg X) (n : Int) = some (dg (X * 2 ^ n)) := by
  unfold cutplaneref01_Up.f
  by_cases z : X = 0
  · subst z
    rw [Nat.zero_mul, dg_zero]; simp
  · have hp := dg_len_pos z
    have e1 : Int.tdiv (n : Int) 32 = ((n / 32 : Nat) : Int) := by rw [Int.tdiv_eq_ediv_of_nonneg (by omega)]; omega
    have e2 : Int.tmod (n : Int) 32 = ((n % 32 : Nat) : Int) := by rw [Int.tmod_eq_emod_of_nonneg (by omega)]; omega
    have w1 : wrap64 ((n / 32 : Nat) : Int) = ((n / 32 : Nat) : Int) := by unfold wrap64; omega
    rw [if_neg (by omega), e1, e2, w1, Int.toNat_natCast]
    clear e1 e2 w1
    rw [if_pos (by omega), if_pos (by omega)]
    have h32 : n % 32 < 32 := Nat.mod_lt _ (by decide)
    have hz : Dg (List.replicate (n / 32) (0 : Int)) := by
      intro d hd
      rw [List.eq_of_mem_replicate hd]; omega
    have h := up_loop (dg_dg X) hl h32 (dg X).length k 0 (List.replicate (n / 32) 0) 0 (by omega) (by omega) hz (by rw [List.length_replicate]; omega) (by rw [List.length_replicate]; omega) (Nat.two_pow_pos _)
    rw [show ((0 : Nat) : Int) = 0 from rfl] at h
    rw [h, List.drop_zero, vn_dg, vn_zeros, List.length_replicate, pow32, Nat.zero_add, Nat.zero_add, ← Nat.mul_assoc, ← Nat.pow_add]
    have : 32 * (n / 32) + n % 32 = n := Nat.div_add_mod n 32
    rw [this, Nat.mul_comm]
end Go.Proofs.YthiklmgdmaemgaaDoor.PA
end

section
namespace Go.Proofs.YthiklmgdmaemgaaDoor.PA
open Go.RowKit Go.Proofs.YthiklmgdmaemgaaDoorW.PrintWords Go.Proofs.YthiklmgdmaemgaaDoorW.PrintLast Go.Proofs.YthiklmgdmaemgaaDoorW.PrintMore Go.Proofs.YthiklmgdmaemgaaDoor.Wd
set_option linter.unusedSimpArgs false
set_option linter.unusedVariables false
/-- how many noughts stand below -/
def tzn (n : Nat) : Nat := if h : n = 0 then 0 else if n % 2 = 1 then 0 else tzn (n / 2) + 1
  termination_by n
  decreasing_by omega
theorem tzn_odd {m : Nat} (hm : m % 2 = 1) : tzn m = 0 := by
  rw [tzn, dif_neg (by omega), if_pos hm]
theorem tzn_mul {m : Nat} (hm : m % 2 = 1) (t : Nat) : tzn (2 ^ t * m) = t := by
  induction t with
  | zero => rw [Nat.pow_zero, Nat.one_mul, tzn_odd hm]
  | succ t ih =>
    have e : 2 ^ (t + 1) * m = 2 * (2 ^ t * m) := by rw [Nat.pow_succ, Nat.mul_comm (2 ^ t) 2, Nat.mul_assoc]
    have hne := two_ne (t := t) hm
    rw [e]
    generalize 2 ^ t * m = x at *
    rw [tzn, dif_neg (by omega), if_neg (by omega), Nat.mul_div_cancel_left _ (by decide), ih]
/-- a number of so many units, in the one form -/
def fm (neg : Bool) (N : Nat) (e : Int) : Bool × List Int × Int := if N = 0 then (false, [], 0) else (neg, dg (N / 2 ^ tzn N), e + tzn N)
theorem fm_zero (neg : Bool) (e : Int) : fm neg 0 e = (false, [], 0) := rfl
theorem fm_mk {neg : Bool} {t m : Nat} {e : Int} (hm : m % 2 = 1) : fm neg (2 ^ t * m) e = (neg, dg m, e + t) := by
  unfold fm
  rw [if_neg (two_ne hm), tzn_mul hm, Nat.mul_div_cancel_left _ (Nat.two_pow_pos t)]
theorem fm_shift {neg : Bool} {N j : Nat} {e : Int} : fm neg (2 ^ j * N) e = fm neg N (e + j) := by
  by_cases z : N = 0
  · subst z; rw [Nat.mul_zero, fm_zero, fm_zero]
  · obtain ⟨t, m, rfl, hm⟩ := odd_part z
    rw [fm_mk hm, ← Nat.mul_assoc, ← Nat.pow_add, fm_mk hm]
    congr 2; omega
theorem len_cap {N C : Nat} (h : N < 2 ^ C) : (dg N).length ≤ C / 32 + 1 := by
  apply dg_length_le
  rw [pow32]
  exact Nat.lt_of_lt_of_le h (Nat.pow_le_pow_right (by decide) (by omega))
theorem tz_cap {N C t m : Nat} (h : N < 2 ^ C) (e : N = 2 ^ t * m) (hm : m % 2 = 1) : t < C := by
  have h1 : 2 ^ t ≤ 2 ^ t * m := Nat.le_mul_of_pos_right _ (by omega)
  exact (Nat.pow_lt_pow_iff_right (by decide)).1 (Nat.lt_of_le_of_lt (by rw [e]; exact h1) h)
theorem odd_cap {N C t m : Nat} (h : N < 2 ^ C) (e : N = 2 ^ t * m) : m < 2 ^ C := by
  have h1 : m ≤ 2 ^ t * m := Nat.le_mul_of_pos_left _ (Nat.two_pow_pos t)
  rw [e] at h; omega
theorem ref_Form {neg : Bool} {N C : Nat} {e : Int} (h : N < 2 ^ C) (hC : C ≤ 100000) (e0 : -1099511627776 < e) (e1 : e < 1099511627776) (k : Nat) (hk : 500000 < k) :
    cutplaneref02_Form.f k neg (dg N) e = some (fm neg N e) := by
  unfold cutplaneref02_Form.f
  by_cases z : N = 0
  · subst z; rw [dg_zero]; rfl
  · obtain ⟨t, m, rfl, hm⟩ := odd_part z
    have hl := len_cap h
    have ht := tz_cap h rfl hm
    have hp := dg_len_pos z
    have hs : Sh (dg (2 ^ t * m)) := by unfold Sh; omega
    have w1 : wrap64 (e + (t : Int)) = e + t := by unfold wrap64; omega
    rw [if_neg (by omega), ref_Low hm hs k (by omega)]
    simp only [Option.bind_some]
    rw [ref_Down1 hm hs (by omega) k (by omega), fm_mk hm, w1, Nat.mul_div_cancel_left _ (Nat.two_pow_pos t)]
    rfl
/-- a whole number of units -/
def zs (neg : Bool) (N : Nat) : Int := if neg then -(N : Int) else N
end Go.Proofs.YthiklmgdmaemgaaDoor.PA
end

section
namespace Go.Proofs.YthiklmgdmaemgaaDoor.PA
open Go.RowKit Go.Proofs.YthiklmgdmaemgaaDoorW.PrintWords Go.Proofs.YthiklmgdmaemgaaDoorW.PrintLast Go.Proofs.YthiklmgdmaemgaaDoorW.PrintMore Go.Proofs.YthiklmgdmaemgaaDoor.Wd
set_option linter.unusedSimpArgs false
set_option linter.unusedVariables false
/-- the class of a size: P one above the fractions, I the infinite size -/
def cls (P I s : Int) : Int := if s = 0 then 1 else if s < P then 2 else if s < I then 3 else if s = I then 4 else 5
def sgn (f : Int) : Int := if f = 1 then 2147483648 else 9223372036854775808
def one (f : Int) : Int := if f = 1 then 8388608 else 4503599627370496
def infw (f : Int) : Int := if f = 1 then 2139095040 else 9218868437227405312
def cl (f w : Int) : Int := cls (one f) (infw f) (w % sgn f)
/-- the error of a word, as Good tells it -/
def err (f w : Int) : Int := if f = 1 then (if w ≥ 4294967296 then 6 else 0) else if f = 2 then 0 else 4
/-- a good word -/
def Gd (f w : Int) : Prop := (f = 1 ∧ 0 ≤ w ∧ w < 4294967296) ∨ (f = 2 ∧ 0 ≤ w ∧ w < 18446744073709551616)
def U (w : Int) : Prop := 0 ≤ w ∧ w < 18446744073709551616
theorem Gd.u {f w : Int} (h : Gd f w) : U w := by rcases h with ⟨_, a, b⟩ | ⟨_, a, b⟩ <;> exact ⟨a, by omega⟩
theorem Gd.err {f w : Int} (h : Gd f w) : err f w = 0 := by
  rcases h with ⟨rfl, a, b⟩ | ⟨rfl, a, b⟩
  · simp [PA.err]; omega
  · simp [PA.err]
theorem gd_of {f w : Int} (h : err f w = 0) (hu : U w) : Gd f w := by
  unfold err at h
  unfold U at hu
  unfold Gd
  split at h
  · split at h
    · omega
    · omega
  · split at h <;> omega
theorem u_of {w : Int} (h : (Lit.int .u64 w).wf = true) : U w := by have := bounds_u64 h; exact ⟨by omega, by omega⟩
theorem rd_zero (w : Int) : rd [w] 0 = w := by rfl
theorem top31 : Go.bits .or .u64 2147483648 (IntKind.u64.wrap (2147483648 - 1)) = 4294967295 := by decide +kernel
theorem top63 : Go.bits .or .u64 9223372036854775808 (IntKind.u64.wrap (9223372036854775808 - 1)) = 18446744073709551615 := by decide +kernel
/-- the shape of a format -/
def shp (f : Int) : Int × Int × Int := if f = 1 then (23, 255, 2147483648) else if f = 2 then (52, 2047, 9223372036854775808) else (0, 0, 0)
theorem open_nil (k : Nat) (f : Int) : word_open.f (k + 1) f [] = some ((shp f).1, (shp f).2.1, (shp f).2.2, if f = 1 ∨ f = 2 then 0 else 4) := by
  unfold word_open.f word_shapeOf.f shp
  by_cases h1 : f = 1
  · subst h1; simp [word_open.l0]
  · by_cases h2 : f = 2
    · subst h2; simp [word_open.l0]
    · simp [h1, h2]
theorem open_one (k : Nat) (f w : Int) (hu : U w) : word_open.f (k + 2) f [w] = some ((shp f).1, (shp f).2.1, (shp f).2.2, err f w) := by
  obtain ⟨h0, h3⟩ := hu
  unfold word_open.f word_shapeOf.f shp err
  by_cases h1 : f = 1
  · subst h1
    have l1 : (([w] : List Int).length : Int) = 1 := rfl
    have w1 : wrap64 (0 + 1) = 1 := by decide +kernel
    simp only [if_true, Option.bind_some, word_open.l0, l1, rd_zero, top31, Int.zero_lt_one, Int.le_refl, w1]
    by_cases c : w ≥ 4294967296
    · rw [if_pos (by omega)]; simp [c]
    · rw [if_neg (by omega)]; simp [c]
  · by_cases h2 : f = 2
    · subst h2
      have l1 : (([w] : List Int).length : Int) = 1 := rfl
      have w1 : wrap64 (0 + 1) = 1 := by decide +kernel
      simp only [show (¬ ((2 : Int) = 1)) by decide, if_false, if_true, Option.bind_some, word_open.l0, l1, rd_zero, top63, Int.zero_lt_one, Int.le_refl, w1]
      rw [if_neg (by omega)]
      simp
    · simp [h1, h2]
theorem shape_inf1 : word_shape_inf.f 23 255 2147483648 = some 2139095040 := by decide +kernel
theorem shape_inf2 : word_shape_inf.f 52 2047 9223372036854775808 = some 9218868437227405312 := by decide +kernel
theorem shl23 : shl .u64 1 23 = 8388608 := by decide +kernel
theorem shl52 : shl .u64 1 52 = 4503599627370496 := by decide +kernel
theorem shape_class {f w : Int} (h : Gd f w) : word_shape_class.f (shp f).1 (shp f).2.1 (shp f).2.2 w = some (cl f w) := by
  rcases h with ⟨rfl, h0, h1⟩ | ⟨rfl, h0, h1⟩
  · have e1 : shp 1 = (23, 255, 2147483648) := rfl
    rw [e1]
    simp only [word_shape_class.f, andNot31 h0 h1, shape_inf1, Option.bind_some, shl23, cl, cls, one, infw, sgn, if_true]
    repeat' split
    all_goals first | rfl | (exfalso; omega)
  · have e1 : shp 2 = (52, 2047, 9223372036854775808) := rfl
    rw [e1]
    simp only [word_shape_class.f, andNot63 h0 h1, shape_inf2, Option.bind_some, shl52, cl, cls, one, infw, sgn]
    simp only [show (¬ ((2 : Int) = 1)) by decide, if_false]
    repeat' split
    all_goals first | rfl | (exfalso; omega)
theorem split_good (k : Nat) {f w : Int} (h : Gd f w) : word_Split.f (k + 2) f w = some (decide (w ≥ sgn f), w % sgn f / one f, w % one f, 0) := by
  unfold word_Split.f
  rw [open_one k f w h.u, h.err]
  rcases h with ⟨rfl, h0, h1⟩ | ⟨rfl, h0, h1⟩
  · have e1 : shp 1 = (23, 255, 2147483648) := rfl
    have e2 : IntKind.u64.wrap (8388608 - 1) = 8388607 := by decide +kernel
    have e3 : shr .u64 (w % 2147483648) 23 = w % 2147483648 / 8388608 := rfl
    rw [e1]
    simp only [Option.bind_some, if_true, word_shape_split.f, andNot31 h0 h1, and31 h0 h1, shl23, e2, e3, sgn, one]
    rw [and23 (by omega) (by omega)]
    have e4 : wrap64 (w % 2147483648 / 8388608) = w % 2147483648 / 8388608 := by unfold wrap64; omega
    have e5 : w % 2147483648 % 8388608 = w % 8388608 := by omega
    rw [e4, e5]
    by_cases c : w ≥ 2147483648 <;> simp [c]
  · have e1 : shp 2 = (52, 2047, 9223372036854775808) := rfl
    have e2 : IntKind.u64.wrap (4503599627370496 - 1) = 4503599627370495 := by decide +kernel
    have e3 : shr .u64 (w % 9223372036854775808) 52 = w % 9223372036854775808 / 4503599627370496 := rfl
    rw [e1]
    simp only [Option.bind_some, if_true, word_shape_split.f, andNot63 h0 h1, and63 h0 h1, shl52, e2, e3, sgn, one]
    rw [and52 (by omega) (by omega)]
    have e4 : wrap64 (w % 9223372036854775808 / 4503599627370496) = w % 9223372036854775808 / 4503599627370496 := by unfold wrap64; omega
    have e5 : w % 9223372036854775808 % 4503599627370496 = w % 4503599627370496 := by omega
    rw [e4, e5]
    by_cases c : w ≥ 9223372036854775808 <;> simp [c]
theorem ref_Is (f : Int) : cutplaneref03_Is.f f = some (decide (f = 1 ∨ f = 2)) := by
  unfold cutplaneref03_Is.f
  by_cases h1 : f = 1
  · simp [h1]
  · rw [if_neg h1]; by_cases h2 : f = 2 <;> simp [h1, h2]
theorem ref_Good (f w : Int) : cutplaneref03_Good.f f w = some (err f w) := by
  unfold cutplaneref03_Good.f err
  rw [ref_Is]
  by_cases h1 : f = 1
  · subst h1; simp
    split <;> rfl
  · by_cases h2 : f = 2 <;> simp [h1, h2]
theorem ref_Split (f : Int) {w : Int} (hu : U w) : cutplaneref03_Split.f f w = some (decide (w ≥ sgn f), w % sgn f / one f, w % one f) := by
  unfold cutplaneref03_Split.f sgn one
  unfold U at hu
  rw [if_pos hu]
  split <;> rfl
theorem ref_Most (f : Int) : cutplaneref03_Most.f f = some (if f = 1 then 255 else 2047) := by unfold cutplaneref03_Most.f; split <;> rfl
theorem ref_Class (k : Nat) (f : Int) {w : Int} (hu : U w) : cutplaneref03_Class.f (k + 1) f w = some (cl f w) := by
  obtain ⟨h0, h1⟩ := hu
  unfold cutplaneref03_Class.f
  rw [ref_Split f ⟨h0, h1⟩]
  simp only [Option.bind_some, cutplaneref03_Class.j0, ref_Most]
  unfold cl cls sgn one infw
  by_cases hf : f = 1
  · simp only [hf, if_true]
    by_cases a : w % 2147483648 / 8388608 = 0
    · rw [if_pos a]
      by_cases b : w % 8388608 = 0
      · rw [if_pos (by simp [b]), if_pos (by omega)]
      · rw [if_neg (by simp [b]), if_pos a, if_neg (by omega), if_pos (by omega)]
    · rw [if_neg a, if_neg (by decide), if_neg a]
      by_cases c : w % 2147483648 / 8388608 < 255
      · rw [if_pos c, if_neg (by omega), if_neg (by omega), if_pos (by omega)]
      · rw [if_neg c]
        by_cases d : w % 8388608 = 0
        · rw [if_pos d, if_neg (by omega), if_neg (by omega), if_neg (by omega), if_pos (by omega)]
        · rw [if_neg d, if_neg (by omega), if_neg (by omega), if_neg (by omega), if_neg (by omega)]
  · simp only [hf, if_false]
    by_cases a : w % 9223372036854775808 / 4503599627370496 = 0
    · rw [if_pos a]
      by_cases b : w % 4503599627370496 = 0
      · rw [if_pos (by simp [b]), if_pos (by omega)]
      · rw [if_neg (by simp [b]), if_pos a, if_neg (by omega), if_pos (by omega)]
    · rw [if_neg a, if_neg (by decide), if_neg a]
      by_cases c : w % 9223372036854775808 / 4503599627370496 < 2047
      · rw [if_pos c, if_neg (by omega), if_neg (by omega), if_pos (by omega)]
      · rw [if_neg c]
        by_cases d : w % 4503599627370496 = 0
        · rw [if_pos d, if_neg (by omega), if_neg (by omega), if_neg (by omega), if_pos (by omega)]
        · rw [if_neg d, if_neg (by omega), if_neg (by omega), if_neg (by omega), if_neg (by omega)]
theorem ref_Sign (f : Int) : cutplaneref03_Sign.f f = some (sgn f) := by unfold cutplaneref03_Sign.f sgn; split <;> rfl
theorem ref_Frac (f : Int) : cutplaneref03_Frac.f f = some (if f = 1 then 23 else 52) := by unfold cutplaneref03_Frac.f; split <;> rfl
theorem sgn_cases (f : Int) : sgn f = 2147483648 ∨ sgn f = 9223372036854775808 := by unfold sgn; split <;> simp
def most (f : Int) : Int := if f = 1 then 255 else 2047
def Fit (f e fr : Int) : Prop := 0 ≤ e ∧ e ≤ most f ∧ fr < one f
def jw (f : Int) (b : Bool) (e fr : Int) : Int := if b then e * one f + fr + sgn f else e * one f + fr
theorem open_nil' (k : Nat) (f : Int) : word_open.f (k + 1) f ([] : List Int) = some ((shp f).1, (shp f).2.1, (shp f).2.2, if f = 1 ∨ f = 2 then 0 else 4) := open_nil k f
theorem div_zero_iff {x P : Int} (hP : 0 < P) (h0 : 0 ≤ x) : x / P = 0 ↔ x < P := by
  constructor
  · intro h
    by_cases c : x < P
    · exact c
    · have : 1 ≤ x / P := (Int.le_ediv_iff_mul_le hP).2 (by omega)
      omega
  · intro h; exact Int.ediv_eq_zero_of_lt h0 h
theorem shape_join {f : Int} (hf : f = 1 ∨ f = 2) {b : Bool} {e fr : Int} (h : Fit f e fr) (h0 : 0 ≤ fr) :
    word_shape_join.f (shp f).1 (shp f).2.1 (shp f).2.2 b e fr = some (jw f b e fr) := by
  obtain ⟨a1, a2, a3⟩ := h
  unfold word_shape_join.f jw
  rcases hf with rfl | rfl
  · have e1 : shp 1 = (23, 255, 2147483648) := rfl
    have a4 : e ≤ 255 := a2
    have a5 : fr < 8388608 := a3
    have e2 : shl .u64 (IntKind.u64.wrap e) 23 = e * 8388608 := by
      have : shl .u64 (IntKind.u64.wrap e) 23 = IntKind.u64.wrap (IntKind.u64.wrap e * 8388608) := rfl
      rw [this, wrapu64, wrapu64]; omega
    rw [e1]
    simp only [e2, one, sgn, if_true]
    rw [join23 (by omega) (by omega) h0 (by omega), if_pos (by decide), or31 (by omega) (by omega)]
    cases b <;> rfl
  · have e1 : shp 2 = (52, 2047, 9223372036854775808) := rfl
    have a4 : e ≤ 2047 := a2
    have a5 : fr < 4503599627370496 := a3
    have e2 : shl .u64 (IntKind.u64.wrap e) 52 = e * 4503599627370496 := by
      have : shl .u64 (IntKind.u64.wrap e) 52 = IntKind.u64.wrap (IntKind.u64.wrap e * 4503599627370496) := rfl
      rw [this, wrapu64, wrapu64]; omega
    rw [e1]
    simp only [e2, one, sgn, show (¬ ((2 : Int) = 1)) by decide, if_false]
    rw [join52 (by omega) (by omega) h0 (by omega), if_pos (by decide), or63 (by omega) (by omega)]
    cases b <;> rfl
theorem join_good (k : Nat) {f : Int} (hf : f = 1 ∨ f = 2) {b : Bool} {e fr : Int} (h : Fit f e fr) (h0 : 0 ≤ fr) : word_Join.f (k + 1) f b e fr = some (jw f b e fr, 0) := by
  unfold word_Join.f
  rw [open_nil' k f]
  have hj := shape_join hf (b := b) h h0
  obtain ⟨a1, a2, a3⟩ := h
  have c1 : (shp f).2.1 = most f := by rcases hf with rfl | rfl <;> rfl
  have c2 : 0 ≤ (shp f).1 := by rcases hf with rfl | rfl <;> decide
  have c3 : shr .u64 fr (shp f).1 = 0 := by
    rcases hf with rfl | rfl
    · exact (div_zero_iff (P := 8388608) (by decide) h0).2 a3
    · exact (div_zero_iff (P := 4503599627370496) (by decide) h0).2 a3
  simp only [Option.bind_some, if_pos hf, if_true]
  rw [if_neg (by omega), if_neg (by omega), if_pos c2, if_pos c3, hj]
  rfl
theorem ref_Join {f : Int} (hf : f = 1 ∨ f = 2) {b : Bool} {e fr : Int} (h : Fit f e fr) (h0 : 0 ≤ fr) : cutplaneref03_Join.f f b e fr = some (jw f b e fr) := by
  obtain ⟨a1, a2, a3⟩ := h
  unfold cutplaneref03_Join.f jw
  rw [ref_Frac, ref_Sign]
  rcases hf with rfl | rfl
  · have a4 : e ≤ 255 := a2
    have a5 : fr < 8388608 := a3
    have e2 : shl .u64 (IntKind.u64.wrap e) 23 = e * 8388608 := by
      have : shl .u64 (IntKind.u64.wrap e) 23 = IntKind.u64.wrap (IntKind.u64.wrap e * 8388608) := rfl
      rw [this, wrapu64, wrapu64]; omega
    simp only [Option.bind_some, if_true, e2, one, sgn]
    simp only [wrapu64]
    rw [if_pos (by decide), Int.emod_eq_of_lt (a := e * 8388608 + fr) (by omega) (by omega), Int.emod_eq_of_lt (a := e * 8388608 + fr + 2147483648) (by omega) (by omega)]
    cases b <;> rfl
  · have a4 : e ≤ 2047 := a2
    have a5 : fr < 4503599627370496 := a3
    have e2 : shl .u64 (IntKind.u64.wrap e) 52 = e * 4503599627370496 := by
      have : shl .u64 (IntKind.u64.wrap e) 52 = IntKind.u64.wrap (IntKind.u64.wrap e * 4503599627370496) := rfl
      rw [this, wrapu64, wrapu64]; omega
    simp only [Option.bind_some, show (¬ ((2 : Int) = 1)) by decide, if_false, e2, one, sgn]
    simp only [wrapu64]
    rw [if_pos (by decide), Int.emod_eq_of_lt (a := e * 4503599627370496 + fr) (by omega) (by omega), Int.emod_eq_of_lt (a := e * 4503599627370496 + fr + 9223372036854775808) (by omega) (by omega)]
    cases b <;> rfl
theorem known03 (k : Nat) : cutplanelaw03_known.f (k + 2) = some true := by
  unfold cutplanelaw03_known.f
  rw [show k + 2 = (k + 1) + 1 from rfl, join_good (k + 1) (f := 1) (.inl rfl) (by unfold Fit most one; decide) (by decide), split_good k (f := 2) (.inr ⟨rfl, by decide, by decide⟩)]
  decide +kernel
end Go.Proofs.YthiklmgdmaemgaaDoor.PA
end

section
namespace Go.Proofs.YthiklmgdmaemgaaDoor.PA
open Go.RowKit Go.Proofs.YthiklmgdmaemgaaDoorW.PrintWords Go.Proofs.YthiklmgdmaemgaaDoorW.PrintLast Go.Proofs.YthiklmgdmaemgaaDoorW.PrintMore Go.Proofs.YthiklmgdmaemgaaDoor.Wd
set_option linter.unusedSimpArgs false
set_option linter.unusedVariables false
theorem size_pos (f w : Int) : 0 ≤ w % sgn f ∧ w % sgn f < sgn f := by
  rcases sgn_cases f with h | h <;> rw [h] <;> omega
/-- a word lies below twice the sign -/
theorem gd_lt {f w : Int} (h : Gd f w) : 0 ≤ w ∧ w < 2 * sgn f ∧ (f = 1 ∨ f = 2) := by
  unfold sgn
  rcases h with ⟨rfl, h0, h1⟩ | ⟨rfl, h0, h1⟩
  · exact ⟨h0, by simp only [if_true]; omega, .inl rfl⟩
  · exact ⟨h0, by simp only [show (¬ ((2 : Int) = 1)) by decide, if_false]; omega, .inr rfl⟩
end Go.Proofs.YthiklmgdmaemgaaDoor.PA
end

section
namespace Go.Proofs.YthiklmgdmaemgaaDoor.PA
open Go.RowKit Go.Proofs.YthiklmgdmaemgaaDoorW.PrintWords Go.Proofs.YthiklmgdmaemgaaDoorW.PrintLast Go.Proofs.YthiklmgdmaemgaaDoorW.PrintMore Go.Proofs.YthiklmgdmaemgaaDoor.Wd
set_option linter.unusedSimpArgs false
set_option linter.unusedVariables false
/-- how many least units a size is -/
def magn (P s : Nat) : Nat := if s / P = 0 then s % P else 2 ^ (s / P - 1) * (P + s % P)
def lowe (f : Int) : Int := if f = 1 then -149 else -1074
theorem ref_Low3 (f : Int) : cutplaneref03_Low.f f = some (lowe f) := by unfold cutplaneref03_Low.f lowe; split <;> rfl
theorem one_cases (f : Int) : (one f = 8388608 ∧ sgn f = 2147483648 ∧ lowe f = -149 ∧ (if f = 1 then (23 : Int) else 52) = 23) ∨ (one f = 4503599627370496 ∧ sgn f = 9223372036854775808 ∧ lowe f = -1074 ∧ (if f = 1 then (23 : Int) else 52) = 52) := by
  unfold one sgn lowe
  by_cases h : f = 1
  · left; simp [h]
  · right; simp [h]
theorem one_toNat (f : Int) : (((one f).toNat : Nat) : Int) = one f ∧ 0 < (one f).toNat := by
  rcases one_cases f with ⟨h, _⟩ | ⟨h, _⟩ <;> rw [h] <;> decide
theorem small_cap {y : Nat} (h : y < 9007199254740992) : y < 2 ^ 53 := h
def capn : Nat := 2100
theorem pow_cap {y j C : Nat} (hy : y < 2 ^ 53) (hj : j + 53 ≤ C) : 2 ^ j * y < 2 ^ C := by
  have h1 : 2 ^ j * y < 2 ^ j * 2 ^ 53 := Nat.mul_lt_mul_of_pos_left hy (Nat.two_pow_pos _)
  rw [← Nat.pow_add] at h1
  exact Nat.lt_of_lt_of_le h1 (Nat.pow_le_pow_right (by decide) hj)
theorem magn_cap {f s : Int} (h0 : 0 ≤ s) (h1 : s < sgn f) : magn (one f).toNat s.toNat < 2 ^ capn := by
  have hm : s.toNat % (one f).toNat < (one f).toNat := Nat.mod_lt _ (one_toNat f).2
  have ho : (one f).toNat ≤ 4503599627370496 := by rcases one_cases f with ⟨h, _⟩ | ⟨h, _⟩ <;> rw [h] <;> decide
  have hq : s.toNat / (one f).toNat ≤ 2048 := by
    apply Nat.div_le_of_le_mul
    rcases one_cases f with ⟨h, g, _⟩ | ⟨h, g, _⟩
    · rw [h]; rw [g] at h1
      have : (8388608 : Int).toNat = 8388608 := rfl
      rw [this]; omega
    · rw [h]; rw [g] at h1
      have : (4503599627370496 : Int).toNat = 4503599627370496 := rfl
      rw [this]; omega
  unfold magn
  generalize s.toNat / (one f).toNat = E at *
  generalize s.toNat % (one f).toNat = F at *
  generalize (one f).toNat = P at *
  have base : ∀ y j : Nat, y < 2 ^ 53 → j ≤ 2047 → 2 ^ j * y < 2 ^ capn := by
    intro y j hy hj
    exact pow_cap hy (show j + 53 ≤ capn by unfold capn; omega)
  split
  · have := base F 0 (small_cap (by omega)) (by omega)
    rw [Nat.pow_zero, Nat.one_mul] at this
    exact this
  · exact base (P + F) (E - 1) (small_cap (by omega)) (by omega)
theorem ref_Value {f w : Int} (h : Gd f w) (k : Nat) (hk : 500001 < k) : cutplaneref03_Value.f k f w = some (fm (decide (w ≥ sgn f)) (magn (one f).toNat (w % sgn f).toNat) (lowe f)) := by
  have hs := size_pos f w
  have ho := one_toNat f
  have hcap := magn_cap hs.1 hs.2
  have eS : w % one f = w % sgn f % one f := by
    rcases one_cases f with ⟨a, b, _⟩ | ⟨a, b, _⟩ <;> rw [a, b] <;> omega
  unfold cutplaneref03_Value.f
  rw [ref_Split f h.u, ref_Low3]
  simp only [Option.bind_some]
  rw [eS]
  generalize w % sgn f = s at *
  have hF : s % one f = ((s.toNat % (one f).toNat : Nat) : Int) := by
    rw [Int.natCast_emod, ho.1, Int.toNat_of_nonneg hs.1]
  have hE : s / one f = ((s.toNat / (one f).toNat : Nat) : Int) := by
    rw [Int.natCast_ediv, ho.1, Int.toNat_of_nonneg hs.1]
  have hm : s.toNat % (one f).toNat < (one f).toNat := Nat.mod_lt _ ho.2
  have hlow : -1100 < lowe f ∧ lowe f < 0 ∧ (one f).toNat ≤ 4503599627370496 := by rcases one_cases f with ⟨a, _, b, _⟩ | ⟨a, _, b, _⟩ <;> rw [a, b] <;> decide
  rw [hF, hE]
  unfold magn at *
  generalize s.toNat / (one f).toNat = E at *
  generalize s.toNat % (one f).toNat = F at *
  by_cases z : E = 0
  · rw [if_pos z] at hcap ⊢
    rw [if_pos (by omega), ref_Of (by omega) (by omega) k (by omega), Option.bind_some, Int.toNat_natCast, ref_Form hcap (by decide) (by omega) (by omega) k (by omega)]
    rfl
  · rw [if_neg z] at hcap ⊢
    have hcap2 : (one f).toNat + F < 2 ^ capn := by
      exact Nat.lt_of_le_of_lt (Nat.le_mul_of_pos_left _ (Nat.two_pow_pos _)) hcap
    have hEb : E < 2200 := by
      have h1 : 2 ^ (E - 1) * 1 ≤ 2 ^ (E - 1) * ((one f).toNat + F) := Nat.mul_le_mul_left _ (by omega)
      rw [Nat.mul_one] at h1
      have : E - 1 < capn := (Nat.pow_lt_pow_iff_right (by decide)).1 (Nat.lt_of_le_of_lt h1 hcap)
      unfold capn at this
      omega
    have hsh : shl .u64 1 (if f = 1 then (23 : Int) else 52) = (((one f).toNat : Nat) : Int) := by
      rcases one_cases f with ⟨a, _, _, b⟩ | ⟨a, _, _, b⟩
      · rw [a, b]; decide +kernel
      · rw [a, b]; decide +kernel
    have w1 : wrap64 (wrap64 ((E : Int) - 1) + lowe f) = lowe f + ((E - 1 : Nat) : Int) := by unfold wrap64; omega
    have w2 : IntKind.u64.wrap ((((one f).toNat : Nat) : Int) + ((F : Nat) : Int)) = (((one f).toNat + F : Nat) : Int) := by rw [wrapu64]; omega
    rw [if_neg (by omega), ref_Frac, Option.bind_some, if_pos (by split <;> decide), hsh, w1, w2, ref_Of (by omega) (by omega) k (by omega), Option.bind_some, Int.toNat_natCast, ref_Form hcap2 (by decide) (by omega) (by omega) k (by omega), fm_shift]
    rfl
end Go.Proofs.YthiklmgdmaemgaaDoor.PA
end

section
namespace Go.Proofs.YthiklmgdmaemgaaDoor.PA
open Go.RowKit Go.Proofs.YthiklmgdmaemgaaDoorW.PrintWords Go.Proofs.YthiklmgdmaemgaaDoorW.PrintLast Go.Proofs.YthiklmgdmaemgaaDoorW.PrintMore Go.Proofs.YthiklmgdmaemgaaDoor.Wd
set_option linter.unusedSimpArgs false
set_option linter.unusedVariables false
theorem trim_loop {l : List Int} (hd : Dg l) (hl : Sh l) : ∀ (i k : Nat), i ≤ l.length → i < k → nat_trim.l0 k (l.take i) = some (dg (vn (l.take i))) := by
  unfold Sh at hl
  intro i
  induction i with
  | zero =>
    intro k _ hk
    obtain ⟨k, rfl⟩ : ∃ m, k = m + 1 := ⟨k - 1, by omega⟩
    simp [nat_trim.l0, vn, dg_zero]
  | succ i ih =>
    intro k hi hk
    obtain ⟨k, rfl⟩ : ∃ m, k = m + 1 := ⟨k - 1, by omega⟩
    have hlen : (l.take (i + 1)).length = i + 1 := by rw [List.length_take]; omega
    have w1 : wrap64 (((l.take (i + 1)).length : Int) - 1) = (i : Int) := by rw [hlen]; unfold wrap64; omega
    have hlt : i < (l.take (i + 1)).length := by omega
    have hg : (l.take (i + 1))[i] = l[i] := by rw [List.getElem_take]
    rw [nat_trim.l0, w1, hlen, if_pos (by omega), if_pos (by omega), if_pos (by omega), rd_at _ i hlt, hg]
    by_cases z : l[i] = 0
    · rw [if_pos z, if_pos (by omega), Int.toNat_natCast, List.take_take, Nat.min_eq_left (by omega), ih k (by omega) (by omega), vn_take_zero (by omega) z]
    · rw [if_neg z]
      congr 1
      exact eq_dg (dg_take hd _) (nm_take (by omega) z)
theorem trim_val {l : List Int} (hd : Dg l) (hl : Sh l) (k : Nat) (hk : l.length < k) : nat_trim.f k l = some (dg (vn l)) := by
  have h := trim_loop hd hl l.length k (Nat.le_refl _) hk
  rw [List.take_length] at h
  exact h
theorem nat_of_val {n : Int} (h0 : 0 ≤ n) (h1 : n < 18446744073709551616) (k : Nat) (hk : 2 < k) : nat_Of.f k n = some (dg n.toNat) := by
  unfold nat_Of.f
  have hd : Dg [n % 4294967296, n / 4294967296 % 4294967296] := by
    intro d hm
    simp only [List.mem_cons, List.not_mem_nil, or_false] at hm
    rcases hm with rfl | rfl <;> constructor <;> omega
  rw [trim_val hd (by unfold Sh; simp) k hk]
  have e : vn [n % 4294967296, n / 4294967296 % 4294967296] = n.toNat := by simp only [vn]; omega
  rw [e]; rfl
theorem may_val {N : Nat} (hl : (dg N).length ≤ 4096) : nat_May.f (dg N) = some true := by
  unfold nat_May.f
  rw [if_pos (by omega)]
  by_cases z : (dg N).length = 0
  · rw [if_pos (by omega)]
  · have hN : N ≠ 0 := fun h => z (by rw [h, dg_zero]; rfl)
    have w1 : wrap64 (((dg N).length : Int) - 1) = (((dg N).length - 1 : Nat) : Int) := by unfold wrap64; omega
    have hlo := dg_lo hN
    have hhi := dg_hi N
    have hlt : (dg N).length - 1 < (dg N).length := by omega
    rw [if_neg (by omega), w1, if_pos (by omega), if_pos (by omega), rd_dg hlt]
    have e : N / 4294967296 ^ ((dg N).length - 1) ≠ 0 := by
      have := Nat.div_pos hlo (Nat.pos_of_ne_zero (by simp))
      omega
    have e2 : N / 4294967296 ^ ((dg N).length - 1) < 4294967296 := by
      rw [Nat.div_lt_iff_lt_mul (Nat.pos_of_ne_zero (by simp))]
      have : 4294967296 ^ (dg N).length = 4294967296 * 4294967296 ^ ((dg N).length - 1) := by rw [← Nat.pow_succ', Nat.succ_eq_add_one]; congr 1; omega
      omega
    rw [Nat.mod_eq_of_lt e2]
    congr 1
    simp only [bne_iff_ne, ne_eq]
    omega
theorem tz_val {d : Nat} (h : d < 4294967296) : bits_TrailingZeros32.f (d : Int) = some ((Go.Lib.ctz 32 d : Nat) : Int) := by
  unfold bits_TrailingZeros32.f
  rw [if_pos (by omega), Int.toNat_natCast]
theorem two_pow_odd {t t' m m' : Nat} (hm : m % 2 = 1) (hm' : m' % 2 = 1) (h : 2 ^ t * m = 2 ^ t' * m') : t = t' := by
  have := tzn_mul hm t
  have h2 := tzn_mul hm' t'
  rw [h] at this
  omega
theorem ctz_val {t m d : Nat} (hm : m % 2 = 1) (h : d = 2 ^ t * m) (hd : d < 4294967296) : Go.Lib.ctz 32 d = t := by
  have h0 : d ≠ 0 := by rw [h]; exact Nat.ne_of_gt (Nat.mul_pos (Nat.two_pow_pos _) (by omega))
  unfold Go.Lib.ctz
  rw [if_neg h0]
  obtain ⟨q, hq, _⟩ := Go.Lib.ctzFrom_spec 32 d (by omega) hd
  rw [h] at hq
  exact (two_pow_odd hm (by omega) hq).symm ▸ by rw [h]
/-- the low noughts of a number of at most two digits -/
theorem low_val {t m : Nat} (hm : m % 2 = 1) (hN : 2 ^ t * m < 18446744073709551616) (k : Nat) : nat_Low.f (k + 4) (dg (2 ^ t * m)) = some (t : Int) := by
  have h0 : 2 ^ t * m ≠ 0 := Nat.ne_of_gt (Nat.mul_pos (Nat.two_pow_pos _) (by omega))
  have hl : (dg (2 ^ t * m)).length ≤ 2 := dg_length_le (by omega)
  have hp := dg_len_pos h0
  have w1 : wrap64 (0 + 1) = 1 := by decide +kernel
  have e32 : wrap64 (32 * 0) = 0 := by decide +kernel
  have e33 : wrap64 (32 * 1) = 32 := by decide +kernel
  unfold nat_Low.f
  rw [may_val (by omega)]
  simp only [Option.bind_some, if_true]
  have hr0 : rd (dg (2 ^ t * m)) 0 = ((2 ^ t * m % 4294967296 : Nat) : Int) := by
    have := rd_dg (n := 2 ^ t * m) (i := 0) hp
    simpa using this
  rw [nat_Low.l0, if_pos (by omega), if_pos (by omega), if_pos (by omega), hr0]
  by_cases z : 2 ^ t * m % 4294967296 = 0
  · have ht : 32 ≤ t := by
      have := low_digit (t := t) (m := m) (q := 0) hm (by omega) (by simpa using z)
      omega
    have hl2 : (dg (2 ^ t * m)).length = 2 := by
      have : ¬ (dg (2 ^ t * m)).length ≤ 1 := by
        intro h
        have h1 := dg_hi (2 ^ t * m)
        have h2 : 4294967296 ^ (dg (2 ^ t * m)).length ≤ 4294967296 ^ 1 := Nat.pow_le_pow_right (by decide) h
        omega
      omega
    have e : 2 ^ t * m / 4294967296 = 2 ^ (t - 32) * m := by
      have : 2 ^ t = 4294967296 * 2 ^ (t - 32) := by rw [show (4294967296 : Nat) = 2 ^ 32 from rfl, ← Nat.pow_add]; congr 1; omega
      rw [this, Nat.mul_assoc, Nat.mul_div_cancel_left _ (by decide)]
    have hlt : 2 ^ (t - 32) * m < 4294967296 := by omega
    have hr1 : rd (dg (2 ^ t * m)) 1 = ((2 ^ (t - 32) * m : Nat) : Int) := by
      have := rd_dg (n := 2 ^ t * m) (i := 1) (by omega)
      rw [show (4294967296 : Nat) ^ 1 = 4294967296 from rfl, e, Nat.mod_eq_of_lt hlt] at this
      exact this
    have hne : 2 ^ (t - 32) * m ≠ 0 := Nat.ne_of_gt (Nat.mul_pos (Nat.two_pow_pos _) (by omega))
    rw [if_pos (by omega), w1, nat_Low.l0, if_pos (by omega), if_pos (by omega), if_pos (by omega), hr1, if_neg (by omega), tz_val hlt, ctz_val hm rfl hlt]
    simp only [Option.bind_some, e33]
    congr 1
    have : t < 64 := by
      have h1 : 2 ^ t * 1 ≤ 2 ^ t * m := Nat.mul_le_mul_left _ (by omega)
      have : 2 ^ t < 2 ^ 64 := by omega
      exact (Nat.pow_lt_pow_iff_right (by decide)).1 this
    unfold wrap64
    omega
  · have ht : t < 32 := by
      apply Nat.lt_of_not_le
      intro h
      apply z
      have : 2 ^ t = 4294967296 * 2 ^ (t - 32) := by rw [show (4294967296 : Nat) = 2 ^ 32 from rfl, ← Nat.pow_add]; congr 1; omega
      rw [this, Nat.mul_assoc]
      exact Nat.mul_mod_right _ _
    have e : 2 ^ t * m % 4294967296 = 2 ^ t * (m % 2 ^ (32 - t)) := by
      rw [show (4294967296 : Nat) = 2 ^ t * 2 ^ (32 - t) by rw [← Nat.pow_add, show t + (32 - t) = 32 by omega], Nat.mul_mod_mul_left]
    have hodd : m % 2 ^ (32 - t) % 2 = 1 := by
      rw [Nat.mod_mod_of_dvd _ (by rw [show 32 - t = (32 - t - 1) + 1 by omega, Nat.pow_succ]; exact Nat.dvd_mul_left _ _)]
      exact hm
    have hlt : 2 ^ t * m % 4294967296 < 4294967296 := Nat.mod_lt _ (by decide)
    rw [if_neg (by omega), tz_val hlt, ctz_val hodd e hlt]
    simp only [Option.bind_some, e32]
    congr 1
    unfold wrap64
    omega
theorem wraps_u32 (n : Int) (h₀ : 0 ≤ n) (h₁ : n < 2 ^ 32) : IntKind.u32.wrap n = n := by
  have e : IntKind.u32.wrap n = n % 4294967296 := by simp [IntKind.wrap, IntKind.signed, IntKind.bits]
  rw [e]; omega
theorem lt_cast {y : Nat} (h : y < 4294967296) : (y : Int) < 4294967296 := by omega
theorem or_low32 {y x i : Nat} (hy : y < 2 ^ i) (hx : x % 2 ^ i = 0) (hx1 : x < 4294967296) (hy1 : y < 4294967296) : Go.bits .or .u32 (y : Int) (x : Int) = ((y + x : Nat) : Int) := by
  have h := bits_join_low .u32 32 (by decide) wraps_u32 i (y : Int) (x : Int) (by omega) (by exact_mod_cast hy) (by omega) (by omega) (by exact_mod_cast hx) (by omega)
  rw [h]; omega
theorem shr32 {y s : Nat} (hs : s < 32) : shr .u32 (y : Int) (s : Int) = ((y / 2 ^ s : Nat) : Int) := by
  unfold shr
  have e : min ((s : Int)).toNat IntKind.u32.bits = s := by have : IntKind.u32.bits = 32 := rfl; omega
  rw [e]; push_cast; rfl
theorem dg1 {n : Nat} (h0 : n ≠ 0) (h : n < 4294967296) : dg n = [(n : Int)] := by
  rw [dg_pos h0, Nat.div_eq_of_lt h, dg_zero, Nat.mod_eq_of_lt h]
theorem dg2 {n : Nat} (h0 : ¬ n < 4294967296) (h : n < 18446744073709551616) : dg n = [((n % 4294967296 : Nat) : Int), ((n / 4294967296 : Nat) : Int)] := by
  rw [dg_pos (by omega), dg1 (by omega) (by omega)]
/-- one digit, shifted down -/
theorem down_one {d s : Nat} (hs : s < 32) (hd : d < 4294967296) (k : Nat) : nat_down.l0 (k + 5) [(d : Int)] (s : Int) [0] [(d : Int)] 1 0 = some (dg (d / 2 ^ s)) := by
  have l1 : (([(d : Int)] : List Int).length : Int) = 1 := rfl
  have l0 : (([(0 : Int)] : List Int).length : Int) = 1 := rfl
  have r0 : rd [(d : Int)] 0 = d := rfl
  have w1 : wrap64 (0 + 1) = 1 := by decide +kernel
  have hq : d / 2 ^ s < 4294967296 := Nat.lt_of_le_of_lt (Nat.div_le_self _ _) hd
  rw [nat_down.l0, if_pos (by decide), if_pos (by decide), l1, l0, if_pos (by decide), if_pos (by omega), if_pos (by decide), r0, shr32 hs]
  simp only [Option.bind_some, w1, Int.lt_irrefl, if_false]
  have e : ([(0 : Int)] : List Int).set (0 : Int).toNat ((d / 2 ^ s : Nat) : Int) = [((d / 2 ^ s : Nat) : Int)] := rfl
  rw [e, nat_down.l0, if_neg (by decide), trim_val (dg_one (Int.natCast_nonneg _) (lt_cast hq)) (by unfold Sh; simp) _ (by simp)]
  simp only [Option.bind_some, vn]
  congr 2
/-- two digits, shifted down by less than one -/
theorem down_two {lo hi s : Nat} (hs : s < 32) (hl : lo < 4294967296) (hh : hi < 4294967296) (k : Nat) : nat_down.l0 (k + 8) [(lo : Int), (hi : Int)] (s : Int) [0, 0] [(lo : Int), (hi : Int)] 2 0 = some (dg ((lo + 4294967296 * hi) / 2 ^ s)) := by
  have l1 : (([(lo : Int), (hi : Int)] : List Int).length : Int) = 2 := rfl
  have l2 : ∀ x y : Int, (([x, y] : List Int).length : Int) = 2 := fun _ _ => rfl
  have r0 : rd [(lo : Int), (hi : Int)] 0 = lo := rfl
  have r1 : rd [(lo : Int), (hi : Int)] 1 = hi := rfl
  have r2 : ∀ x y : Int, rd [x, y] 0 = x := fun _ _ => rfl
  have w1 : wrap64 (0 + 1) = 1 := by decide +kernel
  have w2 : wrap64 (1 + 1) = 2 := by decide +kernel
  have w3 : wrap64 (32 - (s : Int)) = ((32 - s : Nat) : Int) := by unfold wrap64; omega
  have hq : lo / 2 ^ s < 2 ^ (32 - s) := by
    rw [Nat.div_lt_iff_lt_mul (Nat.two_pow_pos s), ← Nat.pow_add, show 32 - s + s = 32 by omega]; exact hl
  have hq2 : lo / 2 ^ s < 4294967296 := Nat.lt_of_le_of_lt (Nat.div_le_self _ _) hl
  have hq3 : hi / 2 ^ s < 4294967296 := Nat.lt_of_le_of_lt (Nat.div_le_self _ _) hh
  have s0 : ∀ x y z : Int, ([x, y] : List Int).set (0 : Int).toNat z = [z, y] := fun _ _ _ => rfl
  have s1 : ∀ x y z : Int, ([x, y] : List Int).set (1 : Int).toNat z = [x, z] := fun _ _ _ => rfl
  have hx : hi * 2 ^ (32 - s) % 4294967296 % 2 ^ (32 - s) = 0 := by
    rw [Nat.mod_mod_of_dvd _ ⟨2 ^ s, by rw [← Nat.pow_add, show 32 - s + s = 32 by omega]⟩]
    exact Nat.mul_mod_left _ _
  have hor := or_low32 hq hx (Nat.mod_lt _ (by decide)) hq2
  rw [nat_down.l0, if_pos (by decide), if_pos (by decide), l1, l2, if_pos (by decide), if_pos (by omega), if_pos (by decide), r0, shr32 hs]
  simp only [Option.bind_some, w1, s0, l1]
  rw [if_pos (by decide), if_pos (by decide), w3, if_pos (by omega), r2, r1, u64_of (by omega), shl_nat (by omega) hh, cast_mod, hor, nat_down.l0, if_pos (by decide), if_pos (by decide), l1, l2, if_pos (by decide), if_pos (by omega), if_pos (by decide), r1, shr32 hs]
  simp only [Option.bind_some, w2, s1, l1, Int.lt_irrefl, if_false]
  have hlo : lo / 2 ^ s + hi * 2 ^ (32 - s) % 4294967296 < 4294967296 := by
    have a1 : hi * 2 ^ (32 - s) % 4294967296 + 2 ^ (32 - s) ≤ 4294967296 := by
      have hd : 2 ^ (32 - s) ∣ hi * 2 ^ (32 - s) % 4294967296 := Nat.dvd_of_mod_eq_zero hx
      have hd2 : 2 ^ (32 - s) ∣ 4294967296 := ⟨2 ^ s, by rw [← Nat.pow_add, show 32 - s + s = 32 by omega]⟩
      have hlt : hi * 2 ^ (32 - s) % 4294967296 < 4294967296 := Nat.mod_lt _ (by decide)
      obtain ⟨x, hx⟩ := hd
      obtain ⟨y, hy⟩ := hd2
      rw [hx] at hlt ⊢
      generalize 2 ^ (32 - s) = P at *
      rw [hy] at hlt
      have : x < y := Nat.lt_of_mul_lt_mul_left hlt
      have h2 : P * (x + 1) ≤ P * y := Nat.mul_le_mul_left _ this
      rw [Nat.mul_add, Nat.mul_one] at h2
      rw [hy]; exact h2
    omega
  rw [nat_down.l0, if_neg (by decide), trim_val (by
    intro d hm
    simp only [List.mem_cons, List.not_mem_nil, or_false] at hm
    rcases hm with rfl | rfl
    · exact ⟨Int.natCast_nonneg _, lt_cast hlo⟩
    · exact ⟨Int.natCast_nonneg _, lt_cast hq3⟩) (by unfold Sh; simp) _ (by simp)]
  simp only [Option.bind_some, vn]
  have e : (lo + 4294967296 * hi) / 2 ^ s = lo / 2 ^ s + 2 ^ (32 - s) * hi := div_step hs
  have key : ((lo / 2 ^ s + hi * 2 ^ (32 - s) % 4294967296 : Nat) : Int).toNat + 4294967296 * (((hi / 2 ^ s : Nat) : Int).toNat + 4294967296 * 0) = (lo + 4294967296 * hi) / 2 ^ s := by
    rw [e, Int.toNat_natCast, Int.toNat_natCast]
    have h1 : 2 ^ (32 - s) * hi / 4294967296 = hi / 2 ^ s := by
      have : (4294967296 : Nat) = 2 ^ (32 - s) * 2 ^ s := by rw [← Nat.pow_add, show 32 - s + s = 32 by omega]
      rw [this, Nat.mul_div_mul_left _ _ (Nat.two_pow_pos _)]
    have h2 := Nat.div_add_mod (2 ^ (32 - s) * hi) 4294967296
    rw [h1] at h2
    rw [Nat.mul_comm hi]
    generalize 2 ^ (32 - s) * hi = z at *
    generalize hi / 2 ^ s = v at *
    omega
  rw [key]
theorem down_val {N t : Nat} (h0 : N ≠ 0) (hN : N < 18446744073709551616) (ht : t < 64) (htop : t < 32 * (dg N).length) (k : Nat) : nat_down.f (k + 8) (dg N) (t : Int) = some (dg (N / 2 ^ t)) := by
  have hT : Int.tdiv (t : Int) 32 = ((t / 32 : Nat) : Int) := by rw [Int.tdiv_eq_ediv_of_nonneg (by omega)]; omega
  have hM : Int.tmod (t : Int) 32 = ((t % 32 : Nat) : Int) := by rw [Int.tmod_eq_emod_of_nonneg (by omega)]; omega
  have w1 : wrap64 ((t / 32 : Nat) : Int) = ((t / 32 : Nat) : Int) := by unfold wrap64; omega
  have hs : t % 32 < 32 := Nat.mod_lt _ (by decide)
  unfold nat_down.f
  rw [hT, hM, w1, if_neg (by omega), if_pos (by omega), if_pos (by omega), Int.toNat_natCast]
  by_cases c : N < 4294967296
  · rw [dg1 h0 c] at *
    have z : t / 32 = 0 := by simp at htop; omega
    have e : t % 32 = t := by omega
    rw [z, e]
    simp only [List.drop_zero, List.length_singleton]
    rw [if_pos (by decide), if_pos (by decide)]
    exact down_one (by omega) c (k + 3)
  · rw [dg2 c hN] at *
    by_cases z : t / 32 = 0
    · have e : t % 32 = t := by omega
      rw [z, e]
      simp only [List.drop_zero]
      have l2 : ∀ x y : Int, (([x, y] : List Int).length : Int) = 2 := fun _ _ => rfl
      rw [l2, if_pos (by decide), if_pos (by decide)]
      have h := down_two (s := t) (lo := N % 4294967296) (hi := N / 4294967296) (by omega) (Nat.mod_lt _ (by decide)) (by omega) k
      rw [show N % 4294967296 + 4294967296 * (N / 4294967296) = N by omega] at h
      exact h
    · have z1 : t / 32 = 1 := by omega
      rw [z1]
      simp only [List.drop_succ_cons, List.drop_zero, List.length_singleton]
      rw [if_pos (by decide), if_pos (by decide)]
      have h := down_one (s := t % 32) (d := N / 4294967296) hs (by omega) (k + 3)
      have e : N / 4294967296 / 2 ^ (t % 32) = N / 2 ^ t := by
        rw [Nat.div_div_eq_div_mul, show (4294967296 : Nat) = 2 ^ 32 from rfl, ← Nat.pow_add]
        congr 2; omega
      rw [e] at h
      exact h
/-- nothing shifted up -/
theorem up_loop0 {l : List Int} (hd : Dg l) (hl : l.length < 1000) : ∀ (d i k : Nat) (out : List Int), l.length - i = d → i ≤ l.length → out = l.take i → 2 * d + l.length + 3 < k → nat_up.l0 k out 0 0 l (l.length : Int) (i : Int) = some (dg (vn l)) := by
  intro d
  induction d with
  | zero =>
    intro i k out h1 h2 ho hk
    obtain ⟨k, rfl⟩ : ∃ m, k = m + 1 := ⟨k - 1, by omega⟩
    have hi : i = l.length := by omega
    subst hi
    rw [List.take_length] at ho
    subst ho
    rw [nat_up.l0, if_neg (by omega), if_pos (by omega), trim_val (dg_append hd (dg_one (by decide) (by decide))) (by unfold Sh; simp; omega) k (by simp; omega)]
    simp only [Option.bind_some]
    rw [vn_append]
    simp only [vn, Int.toNat_zero, Nat.mul_zero, Nat.add_zero]
  | succ d ih =>
    intro i k out h1 h2 ho hk
    obtain ⟨k, rfl⟩ : ∃ m, k = m + 1 := ⟨k - 1, by omega⟩
    have hlt : i < l.length := by omega
    have hm := dg_mem hd hlt
    have w1 : wrap64 ((i : Int) + 1) = ((i + 1 : Nat) : Int) := by unfold wrap64; omega
    have w2 : wrap64 (32 - 0) = 32 := by decide +kernel
    have hr := rd_at l i hlt
    obtain ⟨y, hy⟩ : ∃ y : Nat, l[i] = (y : Int) := ⟨l[i].toNat, by omega⟩
    have hsl : shl .u32 (y : Int) 0 = (y : Int) := by
      unfold shl
      have e : min ((0 : Int)).toNat IntKind.u32.bits = 0 := by simp
      rw [e]
      simp only [Int.pow_zero, Int.mul_one]
      exact wraps_u32 _ (by omega) (by omega)
    have hor : Go.bits .or .u32 (y : Int) 0 = (y : Int) := by
      have := or_low32 (y := y) (x := 0) (i := 32) (by omega) (by simp) (by omega) (by omega)
      simpa using this
    have hsr : shr .u64 (IntKind.u64.wrap (y : Int)) 32 % 4294967296 = 0 := by
      have := shr_nat (y := y) (s := 32) (by omega)
      rw [u64_of (by omega)]
      rw [show ((32 : Nat) : Int) = 32 from rfl] at this
      rw [this, Nat.div_eq_of_lt (by omega)]; rfl
    have hlo : out.length = i := by rw [ho, List.length_take]; omega
    rw [nat_up.l0, if_pos (by omega), if_pos (by omega), if_pos (by omega), if_pos (by decide), if_pos (by omega), w2, if_pos (by decide), w1, hr, hy, hsl, hor, hsr]
    exact ih (i + 1) k _ (by omega) (by omega) (by rw [ho, ← hy, List.take_succ_eq_append_getElem hlt]) (by omega)
theorem up_val0 {N : Nat} (hl : (dg N).length ≤ 2) (k : Nat) : nat_up.f (k + 12) (dg N) 0 = some (dg N) := by
  unfold nat_up.f
  by_cases z : (dg N).length = 0
  · have := List.length_eq_zero_iff.1 z
    rw [if_pos (by omega), this]
  · have t0 : Int.tdiv 0 32 = 0 := by decide
    have m0 : Int.tmod 0 32 = 0 := by decide
    have w0 : wrap64 0 = 0 := by decide +kernel
    have w1 : wrap64 (wrap64 (0 + ((dg N).length : Int)) + 1) = ((dg N).length : Int) + 1 := by unfold wrap64; omega
    rw [if_neg (by omega), t0, m0, w0, w1, if_pos (by decide), if_pos (by omega), if_pos (by omega)]
    have h := up_loop0 (dg_dg N) (by omega) (dg N).length 0 (k + 12) [] (by omega) (by omega) (by simp) (by omega)
    rw [vn_dg] at h
    exact h
theorem len32_some {d : Nat} (h : d < 4294967296) : ∃ n : Int, bits_Len32.f (d : Int) = some n ∧ 0 ≤ n ∧ n ≤ 300 := by
  unfold bits_Len32.f
  have hw : ∀ x y : Int, 0 ≤ x → x ≤ 255 → 0 ≤ y → y ≤ 30 → 0 ≤ wrap64 (y + wrap64 x) ∧ wrap64 (y + wrap64 x) ≤ 300 := by
    intro x y h0 h1 h2 h3
    unfold wrap64; omega
  repeat' split
  all_goals first
    | exact ⟨_, rfl, hw _ _ (bt_range _ _).1 (bt_range _ _).2 (by decide) (by decide)⟩
    | (exfalso; omega)
theorem len_some {N : Nat} (h0 : N ≠ 0) (hN : N < 18446744073709551616) : ∃ n : Int, nat_Len.f (dg N) = some n ∧ 0 ≤ n ∧ n ≤ 400 := by
  have hl : (dg N).length ≤ 2 := dg_length_le (by omega)
  have hp := dg_len_pos h0
  have w1 : wrap64 (((dg N).length : Int) - 1) = (((dg N).length - 1 : Nat) : Int) := by unfold wrap64; omega
  have hlt : (dg N).length - 1 < (dg N).length := by omega
  have hd : N / 4294967296 ^ ((dg N).length - 1) % 4294967296 < 4294967296 := Nat.mod_lt _ (by decide)
  obtain ⟨n, hn, n0, n1⟩ := len32_some hd
  unfold nat_Len.f
  rw [may_val (by omega)]
  simp only [Option.bind_some, if_true]
  rw [if_neg (by omega), w1, if_pos (by omega), if_pos (by omega), rd_dg hlt, hn]
  refine ⟨_, rfl, ?_⟩
  unfold wrap64
  omega
/-- a number in its one form -/
theorem make_val {N : Nat} (hN : N < 18446744073709551616) (neg : Bool) {e : Int} (e0 : -10000 < e) (e1 : e < 10000) (k : Nat) : dyad_Make.f (k + 16) neg (dg N) e = some ((fm neg N e).1, (fm neg N e).2.1, (fm neg N e).2.2, 0) := by
  have hl : (dg N).length ≤ 2 := dg_length_le (by omega)
  unfold dyad_Make.f
  rw [may_val (by omega)]
  simp only [Option.bind_some, if_true]
  by_cases h0 : N = 0
  · subst h0
    rw [dg_zero]; rfl
  · have hp := dg_len_pos h0
    obtain ⟨t, m, hNm, hm⟩ := odd_part h0
    subst hNm
    have ht : t < 64 := by
      have h1 : 2 ^ t * 1 ≤ 2 ^ t * m := Nat.mul_le_mul_left _ (by omega)
      have : 2 ^ t < 2 ^ 64 := by omega
      exact (Nat.pow_lt_pow_iff_right (by decide)).1 this
    have w1 : wrap64 (16777216 - (t : Int)) = 16777216 - t := by unfold wrap64; omega
    have w2 : wrap64 (-16777216 - (t : Int)) = -16777216 - t := by unfold wrap64; omega
    have w3 : wrap64 (e + (t : Int)) = e + t := by unfold wrap64; omega
    have w4 : wrap64 (-(t : Int)) = -(t : Int) := by unfold wrap64; omega
    have w5 : wrap64 (-(-(t : Int))) = (t : Int) := by unfold wrap64; omega
    rw [if_neg (by omega), low_val hm hN (k + 12)]
    simp only [Option.bind_some]
    rw [w1, w2, w3, w4, if_neg (by omega), if_neg (by omega), fm_mk hm]
    unfold nat_Shift.f
    rw [may_val (by omega)]
    simp only [Option.bind_some, if_true]
    rw [if_neg (by omega), if_neg (by omega)]
    by_cases t0 : t = 0
    · subst t0
      obtain ⟨n, hn, n0, n1⟩ := len_some h0 hN
      have w6 : wrap64 (131072 - n) = 131072 - n := by unfold wrap64; omega
      have z : (-((0 : Nat) : Int)) = 0 := rfl
      rw [z, if_neg (by omega), hn]
      simp only [Option.bind_some]
      rw [w6, if_neg (by omega), up_val0 hl (k + 4)]
      simp only [Option.bind_some]
      rw [Nat.pow_zero, Nat.one_mul]
    · rw [if_pos (by omega), w5, down_val h0 hN ht (tz_lt hm) (k + 8)]
      simp only [Option.bind_some]
      rw [low_val hm hN (k + 12)]
      simp only [Option.bind_some]
      rw [Nat.mul_div_cancel_left _ (Nat.two_pow_pos _)]
end Go.Proofs.YthiklmgdmaemgaaDoor.PA
end

section
namespace Go.Proofs.YthiklmgdmaemgaaDoor.PA
open Go.RowKit Go.Proofs.YthiklmgdmaemgaaDoorW.PrintWords Go.Proofs.YthiklmgdmaemgaaDoorW.PrintLast Go.Proofs.YthiklmgdmaemgaaDoorW.PrintMore Go.Proofs.YthiklmgdmaemgaaDoor.Wd
set_option linter.unusedSimpArgs false
set_option linter.unusedVariables false
theorem fin_good (k : Nat) {f w : Int} (h : Gd f w) : word_finite.f (k + 2) f w = some ((shp f).1, (shp f).2.1, (shp f).2.2, if cl f w ≥ 4 then 7 else 0) := by
  unfold word_finite.f
  rw [open_one k f w h.u, h.err]
  simp only [Option.bind_some, if_true, shape_class h]
  split <;> rfl
theorem fin_bad (k : Nat) {f w : Int} (hu : U w) (h : err f w ≠ 0) : word_finite.f (k + 2) f w = some ((shp f).1, (shp f).2.1, (shp f).2.2, err f w) := by
  unfold word_finite.f
  rw [open_one k f w hu]
  simp only [Option.bind_some, if_neg h]
theorem split_shape {f w : Int} (h : Gd f w) : word_shape_split.f (shp f).1 (shp f).2.1 (shp f).2.2 w = some (decide (w ≥ sgn f), w % sgn f / one f, w % one f) := by
  have e := split_good 0 h
  unfold word_Split.f at e
  rw [open_one 0 f w h.u, h.err] at e
  simp only [Option.bind_some, if_true] at e
  obtain ⟨x, hx, e⟩ := Option.bind_eq_some_iff.mp e
  rw [hx]
  obtain ⟨x1, x2, x3⟩ := x
  simp only [Option.some.injEq, Prod.mk.injEq, and_true] at e
  obtain ⟨rfl, rfl, rfl⟩ := e
  rfl
theorem low_shape {f : Int} (hf : f = 1 ∨ f = 2) : word_shape_low.f (shp f).1 (shp f).2.1 (shp f).2.2 = some (lowe f) := by
  rcases hf with rfl | rfl <;> decide +kernel
/-- the bits of a word's unit, above the least one -/
def ub (f w : Int) : Nat := (w % sgn f).toNat / (one f).toNat - 1
theorem shl_one {f : Int} (hf : f = 1 ∨ f = 2) : 0 ≤ (shp f).1 ∧ shl .u64 1 (shp f).1 = (((one f).toNat : Nat) : Int) ∧ ∃ i, (one f).toNat = 2 ^ i := by
  rcases hf with rfl | rfl
  · exact ⟨by decide, by decide +kernel, 23, by decide⟩
  · exact ⟨by decide, by decide +kernel, 52, by decide⟩
theorem val_core {f w : Int} (h : Gd f w) : ∃ E F : Nat, w % sgn f / one f = (E : Int) ∧ w % one f = (F : Int) ∧ (w % sgn f).toNat / (one f).toNat = E ∧ (w % sgn f).toNat % (one f).toNat = F ∧ F < (one f).toNat ∧ E < 2200 ∧ (one f).toNat ≤ 4503599627370496 := by
  have hs := size_pos f w
  have ho := one_toNat f
  have hl : (one f).toNat ≤ 4503599627370496 := by rcases one_cases f with ⟨a, _⟩ | ⟨a, _⟩ <;> rw [a] <;> decide
  have eS : w % one f = w % sgn f % one f := by
    rcases one_cases f with ⟨a, b, _⟩ | ⟨a, b, _⟩ <;> rw [a, b] <;> omega
  have hE : w % sgn f / one f < 2200 := by
    rcases one_cases f with ⟨a, b, _⟩ | ⟨a, b, _⟩ <;> rw [a, b] at * <;> omega
  rw [eS]
  generalize w % sgn f = s at *
  have e1 : s / one f = ((s.toNat / (one f).toNat : Nat) : Int) := by
    rw [Int.natCast_ediv, ho.1, Int.toNat_of_nonneg hs.1]
  have e2 : s % one f = ((s.toNat % (one f).toNat : Nat) : Int) := by
    rw [Int.natCast_emod, ho.1, Int.toNat_of_nonneg hs.1]
  exact ⟨_, _, e1, e2, rfl, rfl, Nat.mod_lt _ ho.2, by omega, hl⟩
theorem low_b (f : Int) : -1100 < lowe f ∧ lowe f < 0 := by unfold lowe; split <;> decide
theorem val_good {f w : Int} (h : Gd f w) (h4 : cl f w < 4) (k : Nat) : word_Value.f (k + 20) f w = some ((fm (decide (w ≥ sgn f)) (magn (one f).toNat (w % sgn f).toNat) (lowe f)).1, (fm (decide (w ≥ sgn f)) (magn (one f).toNat (w % sgn f).toNat) (lowe f)).2.1, (fm (decide (w ≥ sgn f)) (magn (one f).toNat (w % sgn f).toNat) (lowe f)).2.2, 0) := by
  have hf := (gd_lt h).2.2
  obtain ⟨s0, s1, i, hi⟩ := shl_one hf
  obtain ⟨E, F, e1, e2, e3, e4, hF, hE, ho⟩ := val_core h
  have hb := low_b f
  unfold word_Value.f
  rw [show k + 20 = (k + 18) + 2 from rfl, fin_good (k + 18) h, if_neg (show ¬ cl f w ≥ 4 by omega)]
  simp only [Option.bind_some, if_true, split_shape h, low_shape hf]
  rw [if_pos s0, s1, e1, e2]
  unfold magn
  rw [e3, e4]
  by_cases z : E = 0
  · subst z
    have w1 : wrap64 (wrap64 (mx ((0 : Nat) : Int) 1 - 1) + lowe f) = lowe f := by
      have : mx ((0 : Nat) : Int) 1 = 1 := by decide
      rw [this]; unfold wrap64; omega
    rw [if_neg (by decide), if_pos rfl, nat_of_val (by omega) (by omega) _ (by omega), w1]
    simp only [Option.bind_some, Int.toNat_natCast]
    rw [show k + 18 + 2 = (k + 4) + 16 from rfl, make_val (by omega) _ (by omega) (by omega)]
    rfl
  · have w1 : wrap64 (wrap64 (mx (E : Int) 1 - 1) + lowe f) = lowe f + ((E - 1 : Nat) : Int) := by
      have : mx (E : Int) 1 = (E : Int) := by unfold mx; split <;> omega
      rw [this]; unfold wrap64; omega
    have hor : Go.bits .or .u64 (F : Int) (((one f).toNat : Nat) : Int) = ((F + (one f).toNat : Nat) : Int) := or_low (i := i) (by omega) (by rw [hi]; exact Nat.mod_self _) (by omega) (by omega)
    rw [if_pos (by omega), if_neg z, hor, nat_of_val (by omega) (by omega) _ (by omega), w1]
    simp only [Option.bind_some, Int.toNat_natCast]
    rw [show k + 18 + 2 = (k + 4) + 16 from rfl, make_val (by omega) _ (by omega) (by omega), fm_shift, Nat.add_comm F]
    rfl
theorem unit_good {f w : Int} (h : Gd f w) (h4 : cl f w < 4) (k : Nat) : word_Unit.f (k + 20) f w = some ((fm false (2 ^ ub f w) (lowe f)).1, (fm false (2 ^ ub f w) (lowe f)).2.1, (fm false (2 ^ ub f w) (lowe f)).2.2, 0) := by
  have hf := (gd_lt h).2.2
  obtain ⟨E, F, e1, e2, e3, e4, hF, hE, ho⟩ := val_core h
  have hb := low_b f
  unfold word_Unit.f
  rw [show k + 20 = (k + 18) + 2 from rfl, fin_good (k + 18) h, if_neg (show ¬ cl f w ≥ 4 by omega)]
  simp only [Option.bind_some, if_true, split_shape h, low_shape hf]
  unfold ub
  rw [e1, e3]
  have w1 : wrap64 (wrap64 (mx (E : Int) 1 - 1) + lowe f) = lowe f + ((E - 1 : Nat) : Int) := by
    unfold mx; unfold wrap64; split <;> omega
  rw [nat_of_val (by decide) (by decide) _ (by omega), w1]
  simp only [Option.bind_some]
  rw [show k + 18 + 2 = (k + 4) + 16 from rfl, make_val (by decide) _ (by omega) (by omega)]
  have e := fm_shift (neg := false) (N := 1) (j := E - 1) (e := lowe f)
  rw [Nat.mul_one] at e
  rw [e]
  rfl
end Go.Proofs.YthiklmgdmaemgaaDoor.PA
end

section
namespace Go.Proofs.YthiklmgdmaemgaaDoor.PA
open Go.RowKit Go.Proofs.YthiklmgdmaemgaaDoorW.PrintWords Go.Proofs.YthiklmgdmaemgaaDoorW.PrintLast Go.Proofs.YthiklmgdmaemgaaDoorW.PrintMore Go.Proofs.YthiklmgdmaemgaaDoor.Wd
set_option linter.unusedSimpArgs false
set_option linter.unusedVariables false
set_option maxRecDepth 100000 in
theorem tab_bl : ∀ i : Nat, i < 256 → wrap64 (bt (⟨#[0, 1, 2, 2, 3, 3, 3, 3, 4, 4, 4, 4, 4, 4, 4, 4, 5, 5, 5, 5, 5, 5, 5, 5, 5, 5, 5, 5, 5, 5, 5, 5, 6, 6, 6, 6, 6, 6, 6, 6, 6, 6, 6, 6, 6, 6, 6, 6, 6, 6, 6, 6, 6, 6, 6, 6, 6, 6, 6, 6, 6, 6, 6, 6, 7, 7, 7, 7, 7, 7, 7, 7, 7, 7, 7, 7, 7, 7, 7, 7, 7, 7, 7, 7, 7, 7, 7, 7, 7, 7, 7, 7, 7, 7, 7, 7, 7, 7, 7, 7, 7, 7, 7, 7, 7, 7, 7, 7, 7, 7, 7, 7, 7, 7, 7, 7, 7, 7, 7, 7, 7, 7, 7, 7, 7, 7, 7, 7, 8, 8, 8, 8, 8, 8, 8, 8, 8, 8, 8, 8, 8, 8, 8, 8, 8, 8, 8, 8, 8, 8, 8, 8, 8, 8, 8, 8, 8, 8, 8, 8, 8, 8, 8, 8, 8, 8, 8, 8, 8, 8, 8, 8, 8, 8, 8, 8, 8, 8, 8, 8, 8, 8, 8, 8, 8, 8, 8, 8, 8, 8, 8, 8, 8, 8, 8, 8, 8, 8, 8, 8, 8, 8, 8, 8, 8, 8, 8, 8, 8, 8, 8, 8, 8, 8, 8, 8, 8, 8, 8, 8, 8, 8, 8, 8, 8, 8, 8, 8, 8, 8, 8, 8, 8, 8, 8, 8, 8, 8, 8, 8, 8, 8, 8, 8, 8, 8, 8, 8, 8, 8, 8, 8, 8, 8, 8, 8]⟩ : ByteArray) (i : Int)) = (bl i : Int) := by decide +kernel
theorem ws {x : Int} (h0 : -1000000000 ≤ x) (h1 : x ≤ 1000000000) : wrap64 x = x := by unfold wrap64; omega
theorem bl_div {x s : Nat} (h : x / 2 ^ s ≠ 0) : bl x = bl (x / 2 ^ s) + s := by
  have hp := bl_pos h
  have h0 := bl_lo h
  have h1 := bl_hi (x / 2 ^ s)
  refine bl_eq (by omega) ?_ ?_
  · have e : bl (x / 2 ^ s) + s - 1 = (bl (x / 2 ^ s) - 1) + s := by omega
    rw [e, Nat.pow_add]
    exact Nat.le_trans (Nat.mul_le_mul_right _ h0) (Nat.div_mul_le_self _ _)
  · rw [Nat.pow_add]
    exact (Nat.div_lt_iff_lt_mul (Nat.two_pow_pos s)).1 h1
theorem len64_j (k : Nat) {y b : Nat} (hy : y < 4294967296) (hb : b ≤ 32) : bits_Len64.j0 (k + 1) (y : Int) (b : Int) = some (((b + bl y : Nat)) : Int) := by
  have h8 : ∀ i : Nat, i < 256 → bl i ≤ 8 := fun i hi => bl_le hi
  rw [bits_Len64.j0]
  by_cases c1 : 65536 ≤ y
  · rw [if_pos (by omega)]
    by_cases c2 : 256 ≤ y / 65536
    · have e : ((y : Int) / 65536 / 256) % 256 = ((y / 65536 / 256 : Nat) : Int) := by omega
      have d : y / 65536 / 256 = y / 2 ^ 24 := by rw [Nat.div_div_eq_div_mul]
      have h1 := bl_div (x := y) (s := 24) (by rw [← d]; omega)
      rw [← d] at h1
      have h2 := h8 (y / 65536 / 256) (by omega)
      rw [if_pos (by omega), e, if_pos (by omega), if_pos (by omega), tab_bl _ (by omega)]
      rw [ws (x := (b : Int) + 16) (by omega) (by omega), ws (x := (b : Int) + 16 + 8) (by omega) (by omega), ws (by omega) (by omega)]
      congr 1; omega
    · have e : ((y : Int) / 65536) % 256 = ((y / 65536 : Nat) : Int) := by omega
      have h1 := bl_div (x := y) (s := 16) (by show y / 65536 ≠ 0; omega)
      rw [show y / 2 ^ 16 = y / 65536 from rfl] at h1
      have h2 := h8 (y / 65536) (by omega)
      rw [if_neg (by omega), e, if_pos (by omega), if_pos (by omega), tab_bl _ (by omega)]
      rw [ws (x := (b : Int) + 16) (by omega) (by omega), ws (by omega) (by omega)]
      congr 1; omega
  · rw [if_neg (by omega)]
    by_cases c2 : 256 ≤ y
    · have e : ((y : Int) / 256) % 256 = ((y / 256 : Nat) : Int) := by omega
      have h1 := bl_div (x := y) (s := 8) (by show y / 256 ≠ 0; omega)
      rw [show y / 2 ^ 8 = y / 256 from rfl] at h1
      have h2 := h8 (y / 256) (by omega)
      rw [if_pos (by omega), e, if_pos (by omega), if_pos (by omega), tab_bl _ (by omega)]
      rw [ws (x := (b : Int) + 8) (by omega) (by omega), ws (by omega) (by omega)]
      congr 1; omega
    · have e : (y : Int) % 256 = (y : Int) := by omega
      have h2 := h8 y (by omega)
      rw [if_neg (by omega), e, if_pos (by omega), if_pos (by omega), tab_bl _ (by omega)]
      rw [ws (by omega) (by omega)]
      congr 1
theorem len64 (k : Nat) {x : Nat} (h : x < 18446744073709551616) : bits_Len64.f (k + 1) (x : Int) = some (bl x : Int) := by
  unfold bits_Len64.f
  by_cases c : 4294967296 ≤ x
  · have e : (x : Int) / 4294967296 = ((x / 4294967296 : Nat) : Int) := by omega
    have h1 := bl_div (x := x) (s := 32) (by show x / 4294967296 ≠ 0; omega)
    rw [show x / 2 ^ 32 = x / 4294967296 from rfl] at h1
    rw [if_pos (by omega), e, show (32 : Int) = ((32 : Nat) : Int) from rfl, len64_j k (by omega) (by decide), h1, Nat.add_comm]
  · rw [if_neg (by omega), show (0 : Int) = ((0 : Nat) : Int) from rfl, len64_j k (by omega) (by decide), Nat.zero_add]
theorem num_val {N : Nat} (hN : N < 18446744073709551616) (k : Nat) : nat_Num.f (k + 8) (dg N) = some ((N : Int), true) := by
  have hl : (dg N).length ≤ 2 := dg_length_le (by omega)
  have e0 : wrap64 (32 * 0) = 0 := by decide +kernel
  have e1 : wrap64 (32 * 1) = 32 := by decide +kernel
  have w1 : wrap64 (0 + 1) = 1 := by decide +kernel
  have w2 : wrap64 (1 + 1) = 2 := by decide +kernel
  have or0 : ∀ y : Nat, y < 18446744073709551616 → Go.bits .or .u64 (0 : Int) (y : Int) = (y : Int) := by
    intro y hy
    have := or_low (y := 0) (x := y) (i := 0) (by decide) (Nat.mod_one y) hy (by decide)
    rw [show (0 : Int) = ((0 : Nat) : Int) from rfl, this, Nat.zero_add]
  unfold nat_Num.f
  rw [may_val (by omega)]
  simp only [Option.bind_some, if_true]
  rw [decide_eq_false (by omega), nat_Num.j0, if_neg (by decide)]
  by_cases z : N = 0
  · subst z
    rw [dg_zero, nat_Num.l0, if_neg (by decide)]; rfl
  by_cases c : N < 4294967296
  · rw [dg1 z c]
    have l1 : (([(N : Int)] : List Int).length : Int) = 1 := rfl
    have r0 : rd [(N : Int)] 0 = N := rfl
    have s0 := shl_nat (y := N) (s := 0) (by decide) c
    rw [show ((0 : Nat) : Int) = 0 from rfl, Nat.pow_zero, Nat.mul_one] at s0
    rw [l1, nat_Num.l0, if_pos (by decide), l1, if_pos (by decide), if_pos (by decide), e0, if_pos (by decide), r0, u64_of (by omega), s0, or0 N hN, w1, nat_Num.l0, if_neg (by decide)]
  · rw [dg2 c hN]
    have hlo : N % 4294967296 < 4294967296 := Nat.mod_lt _ (by decide)
    have hhi : N / 4294967296 < 4294967296 := by omega
    have eN : N % 4294967296 + N / 4294967296 * 2 ^ 32 = N := by omega
    generalize N % 4294967296 = lo at *
    generalize N / 4294967296 = hi at *
    have l1 : (([(lo : Int), (hi : Int)] : List Int).length : Int) = 2 := rfl
    have r0 : rd [(lo : Int), (hi : Int)] 0 = lo := rfl
    have r1 : rd [(lo : Int), (hi : Int)] 1 = hi := rfl
    have s0 := shl_nat (y := lo) (s := 0) (by decide) hlo
    rw [show ((0 : Nat) : Int) = 0 from rfl, Nat.pow_zero, Nat.mul_one] at s0
    have s1 := shl_nat (y := hi) (s := 32) (by decide) hhi
    rw [show ((32 : Nat) : Int) = 32 from rfl] at s1
    have o1 := or_low (y := lo) (x := hi * 2 ^ 32) (i := 32) hlo mul_mod_pow (by omega) (by omega)
    rw [l1, nat_Num.l0, if_pos (by decide), l1, if_pos (by decide), if_pos (by decide), e0, if_pos (by decide), r0, u64_of (by omega), s0, or0 lo (by omega), w1, nat_Num.l0, if_pos (by decide), l1, if_pos (by decide), if_pos (by decide), e1, if_pos (by decide), r1, u64_of (by omega), s1, o1, w2, nat_Num.l0, if_neg (by decide), eN]
theorem shl_gen {y s : Nat} (hs : s ≤ 64) (h : y * 2 ^ s < 18446744073709551616) : shl .u64 (y : Int) (s : Int) = ((y * 2 ^ s : Nat) : Int) := by
  unfold shl
  have e : min ((s : Int)).toNat IntKind.u64.bits = s := by have : IntKind.u64.bits = 64 := rfl; omega
  rw [e, wrapu64]
  have e2 : (y : Int) * 2 ^ s = ((y * 2 ^ s : Nat) : Int) := by push_cast; rfl
  rw [e2]
  generalize y * 2 ^ s = z at *
  omega
theorem may_fm {neg : Bool} {t m : Nat} {e : Int} (hm : m % 2 = 1) (hl : (dg m).length ≤ 4096) (e0 : -16777216 ≤ e) (e1 : e ≤ 16777216) : dyad_May.f neg (dg m) e = some true := by
  have hp := dg_len_pos (n := m) (by omega)
  have r0 : rd (dg m) 0 = ((m % 4294967296 : Nat) : Int) := by
    have := rd_dg (n := m) (i := 0) hp
    simpa using this
  have a1 : Go.bits .and .u32 ((m % 4294967296 : Nat) : Int) 1 = 1 := by
    rw [and1 (by omega) (by omega)]; omega
  unfold dyad_May.f dyad_inside.f
  rw [may_val hl]
  simp only [Option.bind_some, if_true]
  rw [if_neg (by omega), if_pos (by omega), r0, if_pos a1, if_pos e0, decide_eq_true e1]
  rfl
theorem join0 {f : Int} (hf : f = 1 ∨ f = 2) {neg : Bool} {s : Nat} (h : (s : Int) < sgn f) : word_shape_join.f (shp f).1 (shp f).2.1 (shp f).2.2 neg 0 (s : Int) = some ((s : Int) + if neg then sgn f else 0) := by
  have hs : s < 18446744073709551616 := by rcases sgn_cases f with e | e <;> rw [e] at h <;> omega
  have o0 : Go.bits .or .u64 (0 : Int) (s : Int) = (s : Int) := by
    have := or_low (y := 0) (x := s) (i := 0) (by decide) (Nat.mod_one s) hs (by decide)
    rw [show (0 : Int) = ((0 : Nat) : Int) from rfl, this, Nat.zero_add]
  unfold word_shape_join.f
  rcases hf with rfl | rfl
  · have e1 : shp 1 = (23, 255, 2147483648) := rfl
    have e2 : shl .u64 (IntKind.u64.wrap 0) 23 = 0 := by decide +kernel
    have e3 : sgn 1 = 2147483648 := rfl
    rw [e3] at h ⊢
    rw [e1]
    simp only [e2, o0]
    rw [if_pos (by decide), or31 (by omega) h]
    cases neg <;> simp
  · have e1 : shp 2 = (52, 2047, 9223372036854775808) := rfl
    have e2 : shl .u64 (IntKind.u64.wrap 0) 52 = 0 := by decide +kernel
    have e3 : sgn 2 = 9223372036854775808 := rfl
    rw [e3] at h ⊢
    rw [e1]
    simp only [e2, o0]
    rw [if_pos (by decide), or63 (by omega) h]
    cases neg <;> simp
/-- the numbers of a format, told alike -/
theorem forms {f : Int} (hf : f = 1 ∨ f = 2) : ∃ p q : Nat, (shp f).1 = (p : Int) ∧ (shp f).2.1 = ((2 * q + 1 : Nat) : Int) ∧ (one f).toNat = 2 ^ p ∧ lowe f = 1 - (q : Int) - (p : Int) ∧ p ≤ 52 ∧ q ≤ 1023 ∧ sgn f = 2 ^ p * (2 * q + 2) := by
  rcases hf with rfl | rfl
  · exact ⟨23, 127, rfl, rfl, by decide, by decide, by decide, by decide, by decide⟩
  · exact ⟨52, 1023, rfl, rfl, by decide, by decide, by decide, by decide, by decide⟩
theorem of_core (k : Nat) {f : Int} (hf : f = 1 ∨ f = 2) {neg : Bool} {E M : Nat} (h0 : M ≠ 0) (hM : M < 2 * (one f).toNat) (hE : E = 0 ∨ (one f).toNat ≤ M) (hs : ((E * (one f).toNat + M : Nat) : Int) < sgn f - (one f).toNat) :
    word_Of.f (k + 20) f (fm neg (2 ^ E * M) (lowe f)).1 (fm neg (2 ^ E * M) (lowe f)).2.1 (fm neg (2 ^ E * M) (lowe f)).2.2 = some (((E * (one f).toNat + M : Nat) : Int) + (if neg then sgn f else 0), 0) := by
  obtain ⟨p, q, p1, p2, p3, p4, p5, p6, p7⟩ := forms hf
  have hj : ∀ {n : Nat}, (n : Int) < sgn f → word_shape_join.f (shp f).1 (shp f).2.1 (shp f).2.2 neg 0 (n : Int) = some ((n : Int) + if neg then sgn f else 0) := fun h => join0 hf h
  have hlow := low_shape hf
  rw [p3] at hM hE hs ⊢
  have hP : 2 ^ p ≤ 2 ^ 52 := Nat.pow_le_pow_right (by decide) p5
  have hblM : bl M ≤ p + 1 := bl_le (by rw [Nat.pow_succ]; omega)
  have hbE : E = 0 ∨ bl M = p + 1 := by
    rcases hE with h | h
    · exact .inl h
    · exact .inr (bl_eq (by omega) h (by rw [Nat.pow_succ]; omega))
  have hEq : E + 1 ≤ 2 * q := by
    rcases hE with h | h
    · have : 0 < q := by rcases hf with rfl | rfl <;> (unfold lowe at p4; simp at p4; omega)
      omega
    · have h1 : ((2 ^ p * (E + 1) : Nat) : Int) < ((2 ^ p * (2 * q + 1) : Nat) : Int) := by
        have e1 : sgn f = ((2 ^ p * (2 * q + 2) : Nat) : Int) := by rw [p7]; push_cast; rfl
        have e2 : 2 ^ p * (2 * q + 2) = 2 ^ p * (2 * q + 1) + 2 ^ p := by rw [show 2 * q + 2 = (2 * q + 1) + 1 from rfl, Nat.mul_succ]
        have e3 : 2 ^ p * (E + 1) = E * 2 ^ p + 2 ^ p := by rw [Nat.mul_succ, Nat.mul_comm]
        rw [e1] at hs
        omega
      have h2 : 2 ^ p * (E + 1) < 2 ^ p * (2 * q + 1) := by exact_mod_cast h1
      have := Nat.lt_of_mul_lt_mul_left h2
      omega
  obtain ⟨j, m, rfl, hm⟩ := odd_part h0
  have hmM : m ≤ 2 ^ j * m := Nat.le_mul_of_pos_left _ (Nat.two_pow_pos _)
  have hbl : bl (2 ^ j * m) = bl m + j := by rw [Nat.mul_comm]; exact bl_shift (by omega) j
  have hbm := bl_pos (n := m) (by omega)
  have hm64 : m < 18446744073709551616 := by omega
  have e : 2 ^ E * (2 ^ j * m) = 2 ^ (E + j) * m := by rw [← Nat.mul_assoc, ← Nat.pow_add]
  rw [e, fm_mk hm]
  have hsum : E * 2 ^ p + 2 ^ j * m < 18446744073709551616 := by rcases sgn_cases f with e | e <;> rw [e] at hs <;> omega
  unfold word_Of.f
  rw [show k + 20 = (k + 19) + 1 from rfl, open_nil (k + 19) f, if_pos hf]
  simp only [Option.bind_some, if_true]
  rw [may_fm (t := 0) hm (by have := dg_length_le (n := m) (k := 2) (by omega); omega) (by omega) (by omega)]
  simp only [Option.bind_some, if_true]
  rw [show k + 19 + 1 = (k + 12) + 8 from rfl, num_val hm64]
  simp only [Option.bind_some, if_true]
  rw [show k + 12 + 8 = (k + 19) + 1 from rfl, len64 (k + 19) hm64]
  simp only [Option.bind_some, hlow]
  have t1 : wrap64 ((shp f).1 + 1) = ((p + 1 : Nat) : Int) := by rw [p1, ws (by omega) (by omega)]; omega
  have t2 : wrap64 (lowe f + ((E + j : Nat) : Int) + (bl m : Int)) = lowe f + (E : Int) + (j : Int) + (bl m : Int) := by rw [ws (by omega) (by omega)]; omega
  have t3 : wrap64 (wrap64 (Int.tdiv (shp f).2.1 2) + 1) = (q : Int) + 1 := by
    have : Int.tdiv ((2 * q + 1 : Nat) : Int) 2 = (q : Int) := by
      rw [Int.tdiv_eq_ediv_of_nonneg (by omega)]; omega
    rw [p2, this, ws (x := (q : Int)) (by omega) (by omega), ws (by omega) (by omega)]
  have t4 : mx (wrap64 (wrap64 ((lowe f + (E : Int) + (j : Int) + (bl m : Int)) - (shp f).1) - 1)) (lowe f) = lowe f + (E : Int) := by
    have e1 : wrap64 (wrap64 ((lowe f + (E : Int) + (j : Int) + (bl m : Int)) - (shp f).1) - 1) = lowe f + (E : Int) + ((j : Int) + (bl m : Int)) - (p : Int) - 1 := by
      rw [p1, ws (x := lowe f + (E : Int) + (j : Int) + (bl m : Int) - (p : Int)) (by omega) (by omega), ws (by omega) (by omega)]; omega
    rw [e1]
    unfold mx
    split <;> omega
  have t5 : wrap64 (lowe f + ((E + j : Nat) : Int) - (lowe f + (E : Int))) = (j : Int) := by rw [ws (by omega) (by omega)]; omega
  have t6 : IntKind.u64.wrap (wrap64 (lowe f + (E : Int) - lowe f)) = (E : Int) := by rw [ws (by omega) (by omega), wrapu64]; omega
  have hmj : m * 2 ^ j = 2 ^ j * m := Nat.mul_comm _ _
  have t7 : shl .u64 (E : Int) (shp f).1 = ((E * 2 ^ p : Nat) : Int) := by rw [p1]; exact shl_gen (by omega) (by omega)
  have t8 : shl .u64 (m : Int) (j : Int) = ((2 ^ j * m : Nat) : Int) := by rw [shl_gen (by omega) (by omega), hmj]
  have t9 : IntKind.u64.wrap (((E * 2 ^ p : Nat) : Int) + ((2 ^ j * m : Nat) : Int)) = ((E * 2 ^ p + 2 ^ j * m : Nat) : Int) := by
    rw [← Int.natCast_add]; exact u64_of hsum
  rw [t1, t2, t3, t4, t5, t6, t7, t8, t9, if_neg (by omega), if_neg (by omega), if_neg (by omega), if_neg (by omega), if_pos (by omega), if_pos (by omega), hj (by omega)]
  rfl
end Go.Proofs.YthiklmgdmaemgaaDoor.PA
end

section
namespace Go.Proofs.YthiklmgdmaemgaaDoor.Pure
open Go.RowKit Go.Proofs.YthiklmgdmaemgaaDoor.PA Go.Proofs.YthiklmgdmaemgaaDoorW.PrintWords Go.Proofs.YthiklmgdmaemgaaDoorW.PrintLast Go.Proofs.YthiklmgdmaemgaaDoor.Wd
set_option linter.unusedSimpArgs false
set_option linter.unusedVariables false
theorem known_k {k : Nat} (hk : 2 ≤ k) : cutplanelaw03_known.f k = some true := by
  obtain ⟨j, rfl⟩ : ∃ j, k = j + 2 := ⟨k - 2, by omega⟩
  exact known03 j
theorem same_loop {l : List Int} (hl : l.length < 1099511627776) (d : Nat) : ∀ (k i : Nat), l.length - i = d → i ≤ l.length → d < k → cutplaneref01_Same.l0 k l l (i : Int) = some true := by
  induction d with
  | zero =>
    intro k i hi h1 hk
    obtain ⟨k, rfl⟩ : ∃ m, k = m + 1 := ⟨k - 1, by omega⟩
    rw [cutplaneref01_Same.l0, if_neg (by omega)]
  | succ d ih =>
    intro k i hi h1 hk
    obtain ⟨k, rfl⟩ : ∃ m, k = m + 1 := ⟨k - 1, by omega⟩
    have w1 : wrap64 ((i : Int) + 1) = ((i + 1 : Nat) : Int) := by unfold wrap64; omega
    rw [cutplaneref01_Same.l0, if_pos (by omega), if_pos (by omega), if_pos (by omega), w1, if_pos rfl]
    exact ih k (i + 1) (by omega) (by omega) (by omega)
theorem same_self (a : Bool) (l : List Int) (e : Int) (hl : l.length < 100000) (k : Nat) (hk : 100000 < k) : cutplaneref02_Same.f k a l e a l e = some true := by
  have h := same_loop (l := l) (by omega) l.length k 0 (by omega) (by omega) (by omega)
  rw [show ((0 : Nat) : Int) = 0 from rfl] at h
  unfold cutplaneref02_Same.f cutplaneref01_Same.f
  rw [if_pos (by simp), if_pos rfl, if_pos rfl, h]
  rfl
theorem fm_len {neg : Bool} {N C : Nat} {e : Int} (h : N < 2 ^ C) (hC : C ≤ 100000) : (fm neg N e).2.1.length < 100000 := by
  by_cases z : N = 0
  · subst z; rw [fm_zero]; decide
  · obtain ⟨t, m, rfl, hm⟩ := odd_part z
    rw [fm_mk hm]
    have := len_cap (odd_cap h rfl)
    simp only
    omega
theorem ub_cap (f w : Int) : ub f w < capn := by
  have h1 := size_pos f w
  unfold ub capn
  have : (w % sgn f).toNat / (one f).toNat < 2100 := by
    rw [Nat.div_lt_iff_lt_mul (one_toNat f).2]
    rcases one_cases f with ⟨p, q, _⟩ | ⟨p, q, _⟩ <;> rw [p, q] at * <;> omega
  omega
theorem ref_Unit {f w : Int} (h : Gd f w) : cutplaneref03_Unit.f f w = some (fm false (2 ^ ub f w) (lowe f)) := by
  obtain ⟨E, F, e1, e2, e3, e4, hF, hE, ho⟩ := val_core h
  have hb := low_b f
  have d1 : dg 1 = [1] := by rw [dg1 (by decide) (by decide)]; rfl
  have e := fm_mk (neg := false) (t := ub f w) (m := 1) (e := lowe f) (by decide)
  rw [Nat.mul_one, d1] at e
  rw [e]
  unfold cutplaneref03_Unit.f cutplaneref02_Two.f
  rw [ref_Split f h.u, ref_Low3]
  simp only [Option.bind_some]
  rw [e1]
  unfold ub
  rw [e3]
  by_cases z : E = 0
  · subst z
    rw [if_pos (show ((0 : Nat) : Int) = 0 from rfl)]
    simp
  · rw [if_neg (by omega)]
    have w1 : wrap64 (wrap64 ((E : Int) - 1) + lowe f) = lowe f + ((E - 1 : Nat) : Int) := by
      rw [ws (x := (E : Int) - 1) (by omega) (by omega), ws (by omega) (by omega)]; omega
    rw [w1]
theorem unit_bad {f w : Int} (hu : U w) (h : err f w ≠ 0) (k : Nat) : word_Unit.f (k + 20) f w = some (false, [], 0, err f w) := by
  unfold word_Unit.f
  rw [show k + 20 = (k + 18) + 2 from rfl, fin_bad (k + 18) hu h]
  simp only [Option.bind_some, if_neg h]
theorem value_bad {f w : Int} (hu : U w) (h : err f w ≠ 0) (k : Nat) : word_Value.f (k + 20) f w = some (false, [], 0, err f w) := by
  unfold word_Value.f
  rw [show k + 20 = (k + 18) + 2 from rfl, fin_bad (k + 18) hu h]
  simp only [Option.bind_some, if_neg h]
theorem unit_none {f w : Int} (g : Gd f w) (h : cl f w ≥ 4) (k : Nat) : word_Unit.f (k + 20) f w = some (false, [], 0, 7) := by
  unfold word_Unit.f
  rw [show k + 20 = (k + 18) + 2 from rfl, fin_good (k + 18) g, if_pos h]
  rfl
theorem val_none {f w : Int} (g : Gd f w) (h : cl f w ≥ 4) (k : Nat) : word_Value.f (k + 20) f w = some (false, [], 0, 7) := by
  unfold word_Value.f
  rw [show k + 20 = (k + 18) + 2 from rfl, fin_good (k + 18) g, if_pos h]
  rfl
theorem of_nof (k : Nat) {f : Int} (hf : ¬ (f = 1 ∨ f = 2)) (neg : Bool) (l : List Int) (e : Int) : word_Of.f (k + 20) f neg l e = some (0, 4) := by
  unfold word_Of.f
  rw [show k + 20 = (k + 19) + 1 from rfl, open_nil (k + 19) f, if_neg hf]
  rfl
theorem may_both {l : List Int} (hd : Dg l) (neg : Bool) (e : Int) : ∃ b, dyad_May.f neg l e = some b ∧ cutplaneref02_May.f neg l e = some b ∧ (b = true → (l = [] ∧ neg = false ∧ e = 0) ∨ ∃ m, m % 2 = 1 ∧ l = dg m ∧ l.length ≤ 4096 ∧ -16777216 ≤ e ∧ e ≤ 16777216) := by
  unfold dyad_May.f cutplaneref02_May.f nat_May.f cutplaneref01_May.f dyad_inside.f
  by_cases c : (l.length : Int) ≤ 4096
  · by_cases z : (l.length : Int) = 0
    · simp only [if_pos c, if_pos z, Option.bind_some, if_true]
      cases neg
      · refine ⟨_, rfl, rfl, fun h => .inl ⟨List.length_eq_zero_iff.1 (by omega), rfl, by simpa using h⟩⟩
      · exact ⟨_, rfl, rfl, fun h => by cases h⟩
    · have w1 : wrap64 ((l.length : Int) - 1) = ((l.length - 1 : Nat) : Int) := by unfold wrap64; omega
      have hlt : l.length - 1 < l.length := by omega
      have h0 : 0 < l.length := by omega
      have g1 : (0 : Int) ≤ ((l.length - 1 : Nat) : Int) := by omega
      have g2 : ((l.length - 1 : Nat) : Int) < (l.length : Int) := by omega
      have g3 : (0 : Int) < (l.length : Int) := by omega
      have r0 : rd l 0 = l[0] := rd_at l 0 h0
      simp only [if_pos c, if_neg z, w1, if_pos g1, if_pos g2, if_pos g3, rd_at l _ hlt, Option.bind_some, r0]
      by_cases t : l[l.length - 1] = 0
      · rw [t]
        exact ⟨false, rfl, rfl, fun h => by cases h⟩
      · have et : (l[l.length - 1] != 0) = true := by simpa using t
        simp only [et, if_true]
        have hm := dg_mem hd h0
        have nn : Nm l := by
          intro hne
          rw [List.getLast_eq_getElem]
          exact t
        have el := eq_dg hd nn
        have ev : vn l % 2 = 1 ↔ l[0] % 2 = 1 := by
          cases l with
          | nil => simp at h0
          | cons x r =>
            simp only [vn, List.getElem_cons_zero]
            have : 0 ≤ x := hm.1
            omega
        have tm : Int.tmod (l[0]) 2 = l[0] % 2 := by rw [Int.tmod_eq_emod_of_nonneg hm.1]
        rw [and1 hm.1 hm.2, tm]
        by_cases o : l[0] % 2 = 1
        · by_cases a : -16777216 ≤ e
          · have a' : e ≥ -16777216 := a
            simp only [if_pos o, if_pos a, if_pos a', Option.bind_some]
            refine ⟨_, rfl, rfl, fun h => .inr ⟨vn l, ev.2 o, el, by omega, a, by simpa using h⟩⟩
          · have a' : ¬ e ≥ -16777216 := a
            simp only [if_pos o, if_neg a, if_neg a', Option.bind_some]
            exact ⟨false, rfl, rfl, fun h => by cases h⟩
        · simp only [if_neg o]
          exact ⟨false, rfl, rfl, fun h => by cases h⟩
  · simp only [if_neg c, Option.bind_some]
    exact ⟨false, rfl, rfl, fun h => by cases h⟩
theorem num_long {N : Nat} (h1 : 2 < (dg N).length) (h2 : (dg N).length ≤ 4096) (k : Nat) : nat_Num.f (k + 8) (dg N) = some (0, false) := by
  unfold nat_Num.f
  rw [may_val h2]
  simp only [Option.bind_some, if_true]
  rw [decide_eq_true (by omega), nat_Num.j0, if_pos rfl]
theorem bl_cap {m : Nat} (h : (dg m).length ≤ 4096) : bl m ≤ 131072 := by
  have h1 := len_of (X := m)
  omega
theorem of_bad (k : Nat) {f : Int} (hf : f = 1 ∨ f = 2) {neg : Bool} {m p q : Nat} {e : Int} (p1 : (shp f).1 = (p : Int)) (p2 : (shp f).2.1 = ((2 * q + 1 : Nat) : Int)) (p5 : p ≤ 52) (p6 : q ≤ 1023) (hm : m % 2 = 1) (hl : (dg m).length ≤ 4096) (e0 : -16777216 ≤ e) (e1 : e ≤ 16777216) (h : bl m > p + 1 ∨ e < lowe f ∨ e + bl m > q + 1) :
    word_Of.f (k + 20) f neg (dg m) e = some (0, 7) := by
  have hb := bl_cap hl
  have hlow := low_shape hf
  unfold word_Of.f
  rw [show k + 20 = (k + 19) + 1 from rfl, open_nil (k + 19) f, if_pos hf]
  simp only [Option.bind_some, if_true]
  rw [may_fm (t := 0) hm hl e0 e1]
  simp only [Option.bind_some, if_true]
  by_cases c : 2 < (dg m).length
  · have n0 := len64 (k + 19) (x := 0) (by decide)
    rw [show k + 19 + 1 = (k + 12) + 8 from rfl, num_long c hl]
    simp only [Option.bind_some]
    rw [show ((0 : Nat) : Int) = 0 from rfl] at n0
    rw [show k + 12 + 8 = (k + 19) + 1 from rfl, n0]
    rfl
  · have hm64 : m < 18446744073709551616 := by
      have h1 := dg_hi m
      have h2 : 4294967296 ^ (dg m).length ≤ 4294967296 ^ 2 := Nat.pow_le_pow_right (by decide) (by omega)
      omega
    rw [show k + 19 + 1 = (k + 12) + 8 from rfl, num_val hm64]
    simp only [Option.bind_some, if_true]
    rw [show k + 12 + 8 = (k + 19) + 1 from rfl, len64 (k + 19) hm64]
    simp only [Option.bind_some, hlow]
    have t1 : wrap64 ((shp f).1 + 1) = ((p + 1 : Nat) : Int) := by rw [p1, ws (by omega) (by omega)]; omega
    have t2 : wrap64 (e + (bl m : Int)) = e + (bl m : Int) := by rw [ws (by omega) (by omega)]
    have t3 : wrap64 (wrap64 (Int.tdiv (shp f).2.1 2) + 1) = (q : Int) + 1 := by
      have : Int.tdiv ((2 * q + 1 : Nat) : Int) 2 = (q : Int) := by
        rw [Int.tdiv_eq_ediv_of_nonneg (by omega)]; omega
      rw [p2, this, ws (x := (q : Int)) (by omega) (by omega), ws (by omega) (by omega)]
    rw [t1, t2, t3]
    by_cases d1 : (bl m : Int) > ((p + 1 : Nat) : Int)
    · rw [if_pos d1]
    · rw [if_neg d1, if_neg (by omega)]
      by_cases d2 : e < lowe f
      · rw [if_pos d2]
      · rw [if_neg d2, if_pos (by omega)]
theorem wide_val {f : Int} {q : Nat} (hf : f = 1 ∨ f = 2) (p2 : (shp f).2.1 = ((2 * q + 1 : Nat) : Int)) : cutplaneref03_Wide.f f = some ((q : Int) + 1) := by
  unfold cutplaneref03_Wide.f
  rcases hf with rfl | rfl
  · have e : (shp 1).2.1 = 255 := rfl
    rw [e] at p2
    rw [if_pos rfl]; congr 1; omega
  · have e : (shp 2).2.1 = 2047 := rfl
    rw [e] at p2
    rw [if_neg (by decide)]; congr 1; omega
theorem frac_val {f : Int} {p : Nat} (hf : f = 1 ∨ f = 2) (p1 : (shp f).1 = (p : Int)) : cutplaneref03_Frac.f f = some (p : Int) := by
  rw [ref_Frac, ← p1]
  rcases hf with rfl | rfl <;> rfl
theorem sign_val {m : Nat} (hm : m % 2 = 1) (neg : Bool) (e : Int) : ∃ s, s ≠ 0 ∧ cutplaneref02_Sign.f neg (dg m) e = some s := by
  have hp := dg_len_pos (n := m) (by omega)
  unfold cutplaneref02_Sign.f
  rw [if_neg (by omega)]
  cases neg
  · exact ⟨1, by decide, by rw [if_neg (by decide)]⟩
  · exact ⟨-1, by decide, by rw [if_pos rfl]⟩
theorem top_val {m : Nat} (hm : m % 2 = 1) (hl : (dg m).length ≤ 4096) (neg : Bool) {e : Int} (e0 : -16777216 ≤ e) (e1 : e ≤ 16777216) {k : Nat} (hk : 33 < k) : cutplaneref02_Top.f k neg (dg m) e = some (e + (bl m : Int)) := by
  have hp := dg_len_pos (n := m) (by omega)
  have hb := bl_cap hl
  unfold cutplaneref02_Top.f
  rw [if_neg (by omega), ref_Len (by unfold Sh; omega) k hk, Option.bind_some, ws (by omega) (by omega)]
theorem refof_bad (k : Nat) (hk : 40 < k) {f : Int} (hf : f = 1 ∨ f = 2) {neg : Bool} {m p q : Nat} {e : Int} (p1 : (shp f).1 = (p : Int)) (p2 : (shp f).2.1 = ((2 * q + 1 : Nat) : Int)) (p5 : p ≤ 52) (p6 : q ≤ 1023) (hm : m % 2 = 1) (hl : (dg m).length ≤ 4096) (e0 : -16777216 ≤ e) (e1 : e ≤ 16777216) (h : bl m > p + 1 ∨ e < lowe f ∨ e + bl m > q + 1) :
    cutplaneref03_Of.f k f neg (dg m) e = some (0, false) := by
  obtain ⟨s, s0, hs⟩ := sign_val hm neg e
  have j : cutplaneref03_Of.j0 k f (e + (bl m : Int)) true neg (dg m) e = some (0, false) := by
    obtain ⟨k, rfl⟩ : ∃ m, k = m + 1 := ⟨k - 1, by omega⟩
    rw [cutplaneref03_Of.j0, if_pos rfl]
  unfold cutplaneref03_Of.f
  rw [hs, Option.bind_some, if_neg s0, top_val hm hl neg e0 e1 (by omega), Option.bind_some, wide_val hf p2, Option.bind_some, ref_Low3, Option.bind_some]
  by_cases c1 : e + (bl m : Int) > (q : Int) + 1
  · rw [if_pos c1]; exact j
  · rw [if_neg c1]
    by_cases c2 : e < lowe f
    · rw [if_pos c2]; exact j
    · rw [if_neg c2, ref_Len (by unfold Sh; omega) k (by omega), Option.bind_some, frac_val hf p1, Option.bind_some]
      have t1 : wrap64 ((p : Int) + 1) = (p : Int) + 1 := by rw [ws (by omega) (by omega)]
      have d : (bl m : Int) > (p : Int) + 1 := by
        clear j hs p1 p2 t1 hl e0 e1
        rcases h with h | h | h
        · omega
        · exact absurd h c2
        · omega
      rw [t1, decide_eq_true d]
      exact j
theorem refof_j2 (k : Nat) {f : Int} (hf : f = 1 ∨ f = 2) {neg : Bool} {E N p q : Nat} (l : List Int) (e : Int) (p1 : (shp f).1 = (p : Int)) (p3 : (one f).toNat = 2 ^ p) (pm : most f = 2 * (q : Int) + 1) (p5 : p ≤ 52) (p6 : q ≤ 1023) (hN : N < 2 * 2 ^ p) (hE : E = 0 ∨ 2 ^ p ≤ N) (hEq : E + 1 ≤ 2 * q) :
    cutplaneref03_Of.j2 (k + 1) f (lowe f + (E : Int)) (N : Int) neg l e = some (((E * 2 ^ p + N : Nat) : Int) + (if neg then sgn f else 0), true) := by
  have hfr := frac_val hf p1
  have ho := one_toNat f
  rw [p3] at ho
  have hb := low_b f
  have hP : 2 ^ p ≤ 2 ^ 52 := Nat.pow_le_pow_right (by decide) p5
  have hsh : shr .u64 (N : Int) (p : Int) = ((N / 2 ^ p : Nat) : Int) := by
    unfold shr
    have e : min ((p : Int)).toNat IntKind.u64.bits = p := by have : IntKind.u64.bits = 64 := rfl; omega
    rw [e]; push_cast; rfl
  rw [cutplaneref03_Of.j2, hfr, Option.bind_some, if_pos (by omega), hsh]
  by_cases c : 2 ^ p ≤ N
  · have h1 : N / 2 ^ p ≠ 0 := Nat.ne_of_gt (Nat.div_pos c (Nat.two_pow_pos p))
    have h2 : shl .u64 1 (p : Int) = ((2 ^ p : Nat) : Int) := by
      have := shl_gen (y := 1) (s := p) (by omega) (by omega)
      rw [Nat.one_mul] at this
      exact this
    have t1 : wrap64 (wrap64 (lowe f + (E : Int) - lowe f) + 1) = (E : Int) + 1 := by
      rw [ws (x := lowe f + (E : Int) - lowe f) (by omega) (by omega), ws (by omega) (by omega)]; omega
    have t2 : IntKind.u64.wrap ((N : Int) - ((2 ^ p : Nat) : Int)) = ((N - 2 ^ p : Nat) : Int) := by rw [wrapu64]; omega
    have h3 : ((N / 2 ^ p : Nat) : Int) > 0 := by generalize N / 2 ^ p = D at *; omega
    have h4 : (0 : Int) ≤ (p : Int) := Int.natCast_nonneg p
    rw [if_pos h3, Option.bind_some, if_pos h4, ref_Low3, Option.bind_some, t1, h2, t2, ref_Join hf (by unfold Fit; rw [pm, ← ho.1]; omega) (by omega), Option.bind_some]
    unfold jw
    have e2 : ((E : Int) + 1) * one f + ((N - 2 ^ p : Nat) : Int) = ((E * 2 ^ p + N : Nat) : Int) := by
      rw [← ho.1]
      have : ((E : Int) + 1) * ((2 ^ p : Nat) : Int) = ((E * 2 ^ p + 2 ^ p : Nat) : Int) := by rw [← Nat.succ_mul]; push_cast; rfl
      rw [this]; omega
    rw [e2]
    cases neg <;> simp
  · have h1 : N / 2 ^ p = 0 := Nat.div_eq_of_lt (by omega)
    have z : E = 0 := by omega
    subst z
    rw [h1, if_neg (by decide), ref_Join hf (by unfold Fit; rw [pm, ← ho.1]; omega) (by omega), Option.bind_some]
    unfold jw
    cases neg <;> simp
theorem asc_ (a b : Int) : a + b - a = b := by omega
theorem up_ok {a j k : Nat} (ha : a ≤ 2) (hj : j ≤ 53) (hk : 1000 < k + 3) : a + j / 32 < 1099511627775 ∧ j / 32 + 2 * a + 3 < k + 1 := by omega
theorem u_parts {N : Nat} (h : N < 18446744073709551616) : IntKind.u64.wrap (((N / 4294967296 : Nat) : Int) * 4294967296) = ((N / 4294967296 * 4294967296 : Nat) : Int) ∧ IntKind.u64.wrap (((N % 4294967296 : Nat) : Int) + ((N / 4294967296 * 4294967296 : Nat) : Int)) = (N : Int) := by
  rw [wrapu64, wrapu64]; omega
theorem z_of {a : Int} {E j b p : Nat} (c : a + (E : Int) + (j : Int) + (b : Int) - (p : Int) - 1 < a) (h : E = 0 ∨ b + j = p + 1) : E = 0 := by omega
theorem e_of {a : Int} {E j b p : Nat} (c : ¬ (a + (E : Int) + (j : Int) + (b : Int) - (p : Int) - 1 < a)) (h : E = 0 ∨ b + j = p + 1) (h2 : b + j ≤ p + 1) : a + (E : Int) + (j : Int) + (b : Int) - (p : Int) - 1 = a + (E : Int) := by omega
theorem k3_of {k : Nat} (h : 1000 < k) : ∃ m, k = m + 3 := ⟨k - 3, by omega⟩
theorem refof_core (k : Nat) (hk : 1000 < k) {f : Int} (hf : f = 1 ∨ f = 2) {neg : Bool} {E m j p q : Nat} (p1 : (shp f).1 = (p : Int)) (p2 : (shp f).2.1 = ((2 * q + 1 : Nat) : Int)) (p3 : (one f).toNat = 2 ^ p) (p4 : lowe f = 1 - (q : Int) - (p : Int)) (p5 : p ≤ 52) (p6 : q ≤ 1023)
    (hm : m % 2 = 1) (hN : 2 ^ j * m < 2 * 2 ^ p) (hE : E = 0 ∨ 2 ^ p ≤ 2 ^ j * m) (hEq : E + 1 ≤ 2 * q) (ht : lowe f + (E : Int) + (j : Int) + (bl m : Int) ≤ (q : Int) + 1) :
    cutplaneref03_Of.f k f neg (dg m) (lowe f + (E : Int) + (j : Int)) = some (((E * 2 ^ p + 2 ^ j * m : Nat) : Int) + (if neg then sgn f else 0), true) := by
  have A : -16777216 ≤ lowe f + (E : Int) + (j : Int) ∧ lowe f + (E : Int) + (j : Int) ≤ 16777216 ∧ ¬ (lowe f + (E : Int) + (j : Int) + (bl m : Int) > (q : Int) + 1) ∧ ¬ (lowe f + (E : Int) + (j : Int) < lowe f) ∧ -1000000000 ≤ lowe f + (E : Int) + (j : Int) + (bl m : Int) - (p : Int) ∧ lowe f + (E : Int) + (j : Int) + (bl m : Int) - (p : Int) ≤ 1000000000 ∧ (j : Int) ≤ 1000000000 ∧ -1000000000 ≤ lowe f + (E : Int) + (j : Int) + (bl m : Int) - (p : Int) - 1 ∧ -1000000000 ≤ (p : Int) + 1 ∧ (p : Int) + 1 ≤ 1000000000 ∧ lowe f + (E : Int) + (j : Int) + (bl m : Int) - (p : Int) - 1 ≤ 1000000000 ∧ -1000000000 ≤ (j : Int) := by
    clear hE hN hm p1 p2 p3
    omega
  obtain ⟨A1, A2, A3, A4, A5, A6, A7, A8, A9, A10, A11, A12⟩ := A
  have pm : most f = 2 * (q : Int) + 1 := by
    have : most f = (shp f).2.1 := by rcases hf with rfl | rfl <;> rfl
    rw [this, p2]; push_cast; rfl
  have hP : 2 ^ p ≤ 2 ^ 52 := Nat.pow_le_pow_right (by decide) p5
  have h0 : m ≠ 0 := by intro z; rw [z] at hm; cases hm
  have hmM : m ≤ 2 ^ j * m := Nat.le_mul_of_pos_left _ (Nat.two_pow_pos _)
  have hM0 : 2 ^ j * m ≠ 0 := Nat.ne_of_gt (Nat.mul_pos (Nat.two_pow_pos _) (Nat.pos_of_ne_zero h0))
  have hbl : bl (2 ^ j * m) = bl m + j := by rw [Nat.mul_comm]; exact bl_shift h0 j
  have hN2 : 2 ^ j * m < 2 ^ (p + 1) := by rw [Nat.pow_succ, Nat.mul_comm (2 ^ p)]; exact hN
  have hblM : bl m + j ≤ p + 1 := by rw [← hbl]; exact bl_le hN2
  have hbE : E = 0 ∨ bl m + j = p + 1 := by
    rcases hE with h | h
    · exact .inl h
    · rw [← hbl]; exact .inr (bl_eq (Nat.succ_pos p) h hN2)
  have hN3 : 2 ^ j * m < 18446744073709551616 := by clear hE hbE A1 A2 A3 A4 A5 A6 A8 ht; omega
  have hl : (dg m).length ≤ 2 := dg_length_le (Nat.lt_of_le_of_lt hmM hN3)
  have hSh : Sh (dg m) := by unfold Sh; exact Nat.lt_of_le_of_lt hl (by decide)
  have hl2 : (dg m).length ≤ 4096 := Nat.le_trans hl (by decide)
  obtain ⟨s, s0, hs⟩ := sign_val hm neg (lowe f + (E : Int) + (j : Int))
  have t1 : wrap64 ((p : Int) + 1) = (p : Int) + 1 := ws A9 A10
  have t2 : wrap64 (wrap64 (lowe f + (E : Int) + (j : Int) + (bl m : Int) - (p : Int)) - 1) = lowe f + (E : Int) + (j : Int) + (bl m : Int) - (p : Int) - 1 := by
    rw [ws (x := lowe f + (E : Int) + (j : Int) + (bl m : Int) - (p : Int)) A5 A6, ws A8 A11]
  have d : ¬ (bl m : Int) > (p : Int) + 1 := by
    have h1 : bl m ≤ p + 1 := Nat.le_trans (Nat.le_add_right _ _) hblM
    have h2 : (bl m : Int) ≤ (p : Int) + 1 := by exact_mod_cast h1
    exact Int.not_lt.2 h2
  have k1 : 33 < k := Nat.lt_trans (show 33 < 1000 by decide) hk
  unfold cutplaneref03_Of.f
  rw [hs, Option.bind_some, if_neg s0, top_val hm hl2 neg A1 A2 k1, Option.bind_some, wide_val hf p2, Option.bind_some, ref_Low3, Option.bind_some, if_neg A3, if_neg A4, ref_Len hSh k k1, Option.bind_some, frac_val hf p1, Option.bind_some]
  obtain ⟨k, rfl⟩ := k3_of hk
  rw [t1, decide_eq_false d, cutplaneref03_Of.j0, if_neg (by decide), frac_val hf p1, Option.bind_some, ref_Low3, Option.bind_some, t2]
  have J : cutplaneref03_Of.j1 (k + 2) f (lowe f + (E : Int)) neg (dg m) (lowe f + (E : Int) + (j : Int)) = some (((E * 2 ^ p + 2 ^ j * m : Nat) : Int) + (if neg then sgn f else 0), true) := by
    have t3 : wrap64 (lowe f + (E : Int) + (j : Int) - (lowe f + (E : Int))) = (j : Int) := by
      rw [asc_]
      exact ws A12 A7
    have J2 := refof_j2 k hf (neg := neg) (E := E) (N := 2 ^ j * m) (dg m) (lowe f + (E : Int) + (j : Int)) p1 p3 pm p5 p6 hN hE hEq
    have hj : j ≤ 53 := Nat.le_trans (Nat.le_trans (Nat.le_add_left _ _) hblM) (Nat.succ_le_succ p5)
    obtain ⟨q1, q2⟩ := up_ok hl hj hk
    have hup := ref_Up1 (X := m) (n := j) hSh (Nat.lt_of_le_of_lt hj (by decide)) q1 (k + 1) q2
    rw [Nat.mul_comm m] at hup
    rw [cutplaneref03_Of.j1, t3, hup, Option.bind_some]
    clear hup t3 t2 t1 hE hN hN2 hmM hbl A1 A2 A3 A4 A5 A6 A7 A8 A9 A10 A11 A12 hbE hblM ht d
    generalize 2 ^ j * m = N at *
    by_cases c : N < 4294967296
    · have d := dg1 hM0 c
      have l1 : ((dg N).length : Int) = 1 := by rw [d]; rfl
      have r0 : rd (dg N) 0 = (N : Int) := by rw [d]; rfl
      rw [l1, if_pos (by decide), if_neg (by decide), r0, u64_of hN3]
      exact J2
    · have d := dg2 c hN3
      have l1 : ((dg N).length : Int) = 2 := by rw [d]; rfl
      have r0 : rd (dg N) 0 = ((N % 4294967296 : Nat) : Int) := by rw [d]; rfl
      have r1 : rd (dg N) 1 = ((N / 4294967296 : Nat) : Int) := by rw [d]; rfl
      obtain ⟨u1, u2⟩ := u_parts hN3
      have u3 : IntKind.u64.wrap ((N % 4294967296 : Nat) : Int) = ((N % 4294967296 : Nat) : Int) := u64_of (Nat.lt_of_le_of_lt (Nat.mod_le _ _) hN3)
      have u4 : IntKind.u64.wrap ((N / 4294967296 : Nat) : Int) = ((N / 4294967296 : Nat) : Int) := u64_of (Nat.lt_of_le_of_lt (Nat.div_le_self _ _) hN3)
      rw [l1, if_pos (by decide), if_pos (by decide), if_pos (by decide), r0, r1, u3, u4, u1, u2]
      exact J2
  by_cases c : lowe f + (E : Int) + (j : Int) + (bl m : Int) - (p : Int) - 1 < lowe f
  · have z : E = 0 := z_of c hbE
    rw [if_pos c, Option.bind_some]
    subst z
    rw [show lowe f + ((0 : Nat) : Int) = lowe f from Int.add_zero _] at J ⊢
    exact J
  · rw [if_neg c, e_of c hbE hblM]
    exact J
theorem of_both (k : Nat) (hk : 1000 < k) {f : Int} (hf : f = 1 ∨ f = 2) {neg : Bool} {m : Nat} {e : Int} (hm : m % 2 = 1) (hl : (dg m).length ≤ 4096) (e0 : -16777216 ≤ e) (e1 : e ≤ 16777216) :
    (∃ w, word_Of.f (k + 20) f neg (dg m) e = some (w, 0) ∧ cutplaneref03_Of.f (k + 20) f neg (dg m) e = some (w, true)) ∨ (word_Of.f (k + 20) f neg (dg m) e = some (0, 7) ∧ cutplaneref03_Of.f (k + 20) f neg (dg m) e = some (0, false)) := by
  obtain ⟨p, q, p1, p2, p3, p4, p5, p6, p7⟩ := forms hf
  by_cases c : bl m > p + 1 ∨ e < lowe f ∨ e + bl m > q + 1
  · exact .inr ⟨of_bad k hf p1 p2 p5 p6 hm hl e0 e1 c, refof_bad (k + 20) (by omega) hf p1 p2 p5 p6 hm hl e0 e1 c⟩
  · have c1 : bl m ≤ p + 1 := by omega
    have c2 : lowe f ≤ e := by omega
    have c3 : e + (bl m : Int) ≤ (q : Int) + 1 := by omega
    have hbm := bl_pos (n := m) (by omega)
    have hP : 2 ^ p ≤ 2 ^ 52 := Nat.pow_le_pow_right (by decide) p5
    have hlt := bl_hi m
    have hlo := bl_lo (n := m) (by omega)
    obtain ⟨E, j, he, hEj⟩ : ∃ E j : Nat, e = lowe f + (E : Int) + (j : Int) ∧ ((E = 0 ∧ bl m + j ≤ p + 1) ∨ bl m + j = p + 1) := by
      by_cases d : e + (bl m : Int) - p - 1 ≤ lowe f
      · exact ⟨0, (e - lowe f).toNat, by omega, .inl ⟨rfl, by omega⟩⟩
      · exact ⟨(e + (bl m : Int) - p - 1 - lowe f).toNat, p + 1 - bl m, by omega, .inr (by omega)⟩
    subst he
    have hN : 2 ^ j * m < 2 * 2 ^ p := by
      have h1 : 2 ^ j * m < 2 ^ j * 2 ^ bl m := Nat.mul_lt_mul_of_pos_left hlt (Nat.two_pow_pos _)
      have h2 : 2 ^ j * 2 ^ bl m ≤ 2 ^ (p + 1) := by rw [← Nat.pow_add]; exact Nat.pow_le_pow_right (by decide) (by omega)
      rw [Nat.pow_succ] at h2
      omega
    have hE : E = 0 ∨ 2 ^ p ≤ 2 ^ j * m := by
      by_cases z : E = 0
      · exact .inl z
      · have h1 : 2 ^ j * 2 ^ (bl m - 1) ≤ 2 ^ j * m := Nat.mul_le_mul_left _ hlo
        rw [← Nat.pow_add, show j + (bl m - 1) = p by omega] at h1
        exact .inr h1
    have hq : 0 < q := by rcases hf with rfl | rfl <;> (unfold lowe at p4; simp at p4; omega)
    have hEq : E + 1 ≤ 2 * q := by
      rcases hEj with ⟨z, _⟩ | z <;> omega
    have hs : ((E * (one f).toNat + 2 ^ j * m : Nat) : Int) < sgn f - (one f).toNat := by
      have e1 : sgn f = ((2 ^ p * (2 * q + 2) : Nat) : Int) := by rw [p7]; push_cast; rfl
      have h1 : 2 ^ p * (E + 3) ≤ 2 ^ p * (2 * q + 2) := Nat.mul_le_mul_left _ (by omega)
      have h2 : 2 ^ p * (E + 3) = E * 2 ^ p + 3 * 2 ^ p := by rw [Nat.mul_comm, Nat.add_mul]
      rw [p3, e1]
      omega
    have M0 : 2 ^ j * m ≠ 0 := Nat.ne_of_gt (Nat.mul_pos (Nat.two_pow_pos _) (by omega))
    have r1 := of_core k hf (neg := neg) (E := E) (M := 2 ^ j * m) M0 (by rw [p3]; exact hN) (by rw [p3]; exact hE) hs
    have r2 := refof_core (k + 20) (by omega) hf (neg := neg) (E := E) (m := m) (j := j) p1 p2 p3 p4 p5 p6 hm hN hE hEq c3
    have e2 : 2 ^ E * (2 ^ j * m) = 2 ^ (E + j) * m := by rw [← Nat.mul_assoc, ← Nat.pow_add]
    rw [e2, fm_mk hm, show lowe f + ((E + j : Nat) : Int) = lowe f + (E : Int) + (j : Int) by omega] at r1
    rw [p3] at r1
    exact .inl ⟨_, r1, r2⟩
theorem of_zero (k : Nat) {f : Int} (hf : f = 1 ∨ f = 2) : word_Of.f (k + 20) f false [] 0 = some (0, 0) ∧ cutplaneref03_Of.f (k + 20) f false [] 0 = some (0, true) := by
  constructor
  · unfold word_Of.f
    rw [show k + 20 = (k + 19) + 1 from rfl, open_nil (k + 19) f, if_pos hf]
    simp only [Option.bind_some, if_true]
    have m0 : dyad_May.f false [] 0 = some true := by decide +kernel
    have n0 := num_val (N := 0) (by decide) (k + 12)
    have l0 := len64 (k + 19) (x := 0) (by decide)
    rw [dg_zero] at n0
    rw [bl_zero] at l0
    rw [m0]
    simp only [Option.bind_some, if_true]
    rw [show k + 19 + 1 = (k + 12) + 8 from rfl, n0]
    simp only [Option.bind_some, if_true]
    rw [show k + 12 + 8 = (k + 19) + 1 from rfl, l0]
    simp only [Option.bind_some]
    have t1 : ¬ (((0 : Nat) : Int) > wrap64 ((shp f).1 + 1)) := by rcases hf with rfl | rfl <;> decide +kernel
    rw [if_neg t1, if_pos (show ((0 : Nat) : Int) = 0 from rfl)]
  · rfl
theorem values2 (k : Nat) (hk : 2000 < k) {f : Int} {l : List Int} (hd : Dg l) (neg : Bool) (e : Int) : cutplanelaw03_WordValues.j2 k f neg l e = some true := by
  obtain ⟨k, rfl⟩ : ∃ m, k = m + 21 := ⟨k - 21, by omega⟩
  have kn : cutplanelaw03_known.f (k + 20) = some true := known_k (by omega)
  rw [cutplanelaw03_WordValues.j2, ref_Is]
  by_cases hf : f = 1 ∨ f = 2
  · obtain ⟨b, m1, m2, hb⟩ := may_both hd neg e
    rw [decide_eq_true hf]
    cases b
    · have r : word_Of.f (k + 20) f neg l e = some (0, 2) := by
        unfold word_Of.f
        rw [show k + 20 = (k + 19) + 1 from rfl, open_nil (k + 19) f, if_pos hf]
        simp only [Option.bind_some, if_true, m1]
        rfl
      rw [r]
      simp only [Option.bind_some, if_true, m2, kn]
      rfl
    · have r : (∃ w, word_Of.f (k + 20) f neg l e = some (w, 0) ∧ cutplaneref03_Of.f (k + 20) f neg l e = some (w, true)) ∨ (word_Of.f (k + 20) f neg l e = some (0, 7) ∧ cutplaneref03_Of.f (k + 20) f neg l e = some (0, false)) := by
        rcases hb rfl with ⟨rfl, rfl, rfl⟩ | ⟨m, hm, rfl, hl, e0, e1⟩
        · exact .inl ⟨0, of_zero k hf⟩
        · exact of_both k (by omega) hf hm hl e0 e1
      rcases r with ⟨w, r1, r2⟩ | ⟨r1, r2⟩
      · rw [r1]
        simp only [Option.bind_some, if_true, m2, r2, kn, cutplanelaw03_is.f]
        rfl
      · rw [r1]
        simp only [Option.bind_some, if_true, m2, r2, kn, cutplanelaw03_is.f]
        rfl
  · rw [decide_eq_false hf, of_nof k hf]
    simp only [Option.bind_some, kn]
    rfl
/-- the law, told of the digits -/
def ValuesSaid : Prop := ∀ (f w : Int) (neg : Bool) (l : List Int) (e : Int), U w → Dg l → ∃ k, cutplanelaw03_WordValues.f k f w neg l e = some true
theorem fin_val (k : Nat) {f w : Int} (h : Gd f w) : cutplaneref03_Finite.f (k + 1) f w = some (decide (cl f w < 4)) := by
  unfold cutplaneref03_Finite.f
  rw [ref_Class k f h.u]
  simp only [Option.bind_some]
  have hc : cl f w = 1 ∨ cl f w = 2 ∨ cl f w = 3 ∨ cl f w = 4 ∨ cl f w = 5 := by
    unfold cl cls
    repeat' split
    all_goals simp
  rcases hc with c | c | c | c | c <;> rw [c] <;> rfl
theorem values_at (k : Nat) (hk : 500001 < k) {f w : Int} (hu : U w) (neg : Bool) {l : List Int} (hd : Dg l) (e : Int) : cutplanelaw03_WordValues.f (k + 22) f w neg l e = some true := by
  have two := values2 (k + 20) (by omega) (f := f) hd neg e
  have S0 := same_self false [] 0 (by decide) (k + 20) (by omega)
  have kn : cutplanelaw03_known.f (k + 22) = some true := known_k (by omega)
  unfold cutplanelaw03_WordValues.f
  by_cases c : (l.length : Int) > 4100
  · rw [if_pos c, kn]; rfl
  · rw [if_neg c, ref_Good, Option.bind_some]
    by_cases he : err f w = 0
    · have h := gd_of he hu
      have fv := fin_val (k + 21) h
      by_cases h4 : cl f w < 4
      · have hs := size_pos f w
        have rv := ref_Value h (k + 20) (by omega)
        have ru := ref_Unit h
        have S1 := same_self (fm (decide (w ≥ sgn f)) (magn (one f).toNat (w % sgn f).toNat) (lowe f)).1 (fm (decide (w ≥ sgn f)) (magn (one f).toNat (w % sgn f).toNat) (lowe f)).2.1 (fm (decide (w ≥ sgn f)) (magn (one f).toNat (w % sgn f).toNat) (lowe f)).2.2 (fm_len (magn_cap hs.1 hs.2) (by decide)) (k + 20) (by omega)
        have S2 := same_self (fm false (2 ^ ub f w) (lowe f)).1 (fm false (2 ^ ub f w) (lowe f)).2.1 (fm false (2 ^ ub f w) (lowe f)).2.2 (fm_len (Nat.pow_lt_pow_right (by decide) (ub_cap f w)) (by decide)) (k + 20) (by omega)
        have v1 : word_Value.f (k + 22) f w = _ := val_good h h4 (k + 2)
        have v2 : word_Unit.f (k + 22) f w = _ := unit_good h h4 (k + 2)
        generalize fm (decide (w ≥ sgn f)) (magn (one f).toNat (w % sgn f).toNat) (lowe f) = V at *
        generalize fm false (2 ^ ub f w) (lowe f) = W at *
        rw [v1, v2, he, fv, decide_eq_true h4]
        simp only [Option.bind_some, if_true]
        rw [cutplanelaw03_WordValues.j0, if_neg (by decide), cutplanelaw03_WordValues.j1, if_pos rfl, if_pos rfl, if_pos rfl, rv]
        simp only [Option.bind_some, S1, if_true, ru, S2]
        exact two
      · have v1 : word_Value.f (k + 22) f w = _ := val_none h (by omega) (k + 2)
        have v2 : word_Unit.f (k + 22) f w = _ := unit_none h (by omega) (k + 2)
        rw [v1, v2, he, fv, decide_eq_false h4]
        simp only [Option.bind_some, if_true]
        rw [if_neg (by decide), cutplanelaw03_WordValues.j0, if_pos rfl, cutplanelaw03_WordValues.j1, if_pos rfl, if_pos rfl, if_neg (by decide), S0]
        simp only [Option.bind_some, if_true, S0]
        exact two
    · have v1 : word_Value.f (k + 22) f w = _ := value_bad hu he (k + 2)
      have v2 : word_Unit.f (k + 22) f w = _ := unit_bad hu he (k + 2)
      rw [v1, v2]
      simp only [Option.bind_some]
      rw [if_neg he, cutplanelaw03_WordValues.j0, if_neg (by decide), cutplanelaw03_WordValues.j1, if_pos rfl, if_pos rfl, if_neg he, S0]
      simp only [Option.bind_some, if_true, S0]
      exact two
theorem WordValues : ValuesSaid := fun f w neg l e hu hd => ⟨500100 + 22, values_at 500100 (by omega) hu neg hd e⟩
end Go.Proofs.YthiklmgdmaemgaaDoor.Pure
end
