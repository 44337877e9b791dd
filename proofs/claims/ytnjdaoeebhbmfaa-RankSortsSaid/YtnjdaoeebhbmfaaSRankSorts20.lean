/- Steps of Go functions that the law RankSorts uses, told as plain Lean functions, each with the proof that its call comes to what it tells; words on memory; plain facts. No condition beyond those that each text names. -/
import Derived.Laws.BitsAllLaws
import Derived.Laws.BitsLemmas
import Derived.Test.YtnjdaoeebhbmfaaProg
import Derived.Below
import Derived.Deep.Draws
import Derived.Deep.AppendLies
import Derived.Maps.AppendAt
import Derived.OwnWalk
import Derived.Laws.BytesArg
import Derived.Laws.MakeOwn
import Derived.Laws.OwnMore
import Derived.Deep.OwnRows
import Derived.Tactics
import Derived.Lib.ConvBytes
import Derived.Laws.Slices
import Derived.WalkKit
import Derived.KernelRfl
import Derived.RowKit3
import Derived.Deep.LoopGhost
import Derived.Deep.QuietTactic
import Derived.BigQuiet
import Derived.WideLaws
import Derived.Deep.DeepCutAuto
import Derived.Deep.CutBlock
import Derived.Deep.RegionHeld3
import Derived.Laws.Rows
import Derived.Lib.AppendStr
import Derived.ArgAppend
import Derived.Laws.IdiomCopy
import Derived.OrdersHeld
import Derived.RowKit
import Derived.Laws.StructEq
import Derived.Lib.EndianBits
import Derived.OpenShut
import Derived.Shelf.SlSortCmp.NoneTotal
import Derived.WalkMore
import Derived.Test.YtnjdaoeebhbmfaaSRankSorts0
import Derived.Test.YtnjdaoeebhbmfaaSRankSorts1
import Derived.Test.YtnjdaoeebhbmfaaSRankSorts3
import Derived.Test.YtnjdaoeebhbmfaaSRankSorts4
import Derived.Test.YtnjdaoeebhbmfaaSRankSorts5
import Derived.Test.YtnjdaoeebhbmfaaSRankSorts6
import Derived.Test.YtnjdaoeebhbmfaaSRankSorts7
import Derived.Test.YtnjdaoeebhbmfaaSRankSorts8
import Derived.Test.YtnjdaoeebhbmfaaSRankSorts9
import Derived.Test.YtnjdaoeebhbmfaaSRankSorts10
import Derived.Test.YtnjdaoeebhbmfaaSRankSorts11
import Derived.Test.YtnjdaoeebhbmfaaSRankSorts12
import Derived.Test.YtnjdaoeebhbmfaaSRankSorts13
import Derived.Test.YtnjdaoeebhbmfaaSRankSorts14
import Derived.Test.YtnjdaoeebhbmfaaSRankSorts15
import Derived.Test.YtnjdaoeebhbmfaaSRankSorts16
import Derived.Test.YtnjdaoeebhbmfaaSRankSorts17
import Derived.Test.YtnjdaoeebhbmfaaSRankSorts18
import Derived.Test.YtnjdaoeebhbmfaaSRankSorts19
section
namespace Go.Proofs.Ytnjdaoeebhbmfaa.PA
open Go.RowKit Go.Proofs.YtnjdaoeebhbmfaaW.PrintWords Go.Proofs.YtnjdaoeebhbmfaaW.PrintLast Go.Proofs.YtnjdaoeebhbmfaaW.PrintMore Go.Proofs.Ytnjdaoeebhbmfaa.Wd
set_option linter.unusedSimpArgs false
set_option linter.unusedVariables false
/-- how many least units a size is -/
def magn (P s : Nat) : Nat := if s / P = 0 then s % P else 2 ^ (s / P - 1) * (P + s % P)
theorem magn_mono {P s s' : Nat} (hP : 0 < P) (h : s < s') : magn P s < magn P s' := by
  have d1 := Nat.div_add_mod s P
  have d2 := Nat.div_add_mod s' P
  have m1 := Nat.mod_lt s hP
  have m2 := Nat.mod_lt s' hP
  have hd : s / P ≤ s' / P := Nat.div_le_div_right (by omega)
  unfold magn
  generalize s / P = E at *
  generalize s' / P = E' at *
  generalize s % P = F at *
  generalize s' % P = F' at *
  by_cases c : E = E'
  · subst c
    have hF : F < F' := by omega
    by_cases z : E = 0
    · rw [if_pos z, if_pos z]; exact hF
    · rw [if_neg z, if_neg z]
      exact Nat.mul_lt_mul_of_pos_left (by omega) (Nat.two_pow_pos _)
  · have hE' : E' ≠ 0 := by omega
    rw [if_neg hE']
    have up : (if E = 0 then F else 2 ^ (E - 1) * (P + F)) < 2 ^ E * P := by
      by_cases z : E = 0
      · rw [if_pos z, z, Nat.pow_zero, Nat.one_mul]; exact m1
      · rw [if_neg z]
        have e : 2 ^ E = 2 ^ (E - 1) * 2 := by rw [← Nat.pow_succ]; congr 1; omega
        rw [e, Nat.mul_assoc]
        exact Nat.mul_lt_mul_of_pos_left (by omega) (Nat.two_pow_pos _)
    have h1 : 2 ^ E * P ≤ 2 ^ (E' - 1) * P := Nat.mul_le_mul_right _ (Nat.pow_le_pow_right (by decide) (by omega))
    have h2 : 2 ^ (E' - 1) * P ≤ 2 ^ (E' - 1) * (P + F') := Nat.mul_le_mul_left _ (by omega)
    omega
theorem magn_zero {P : Nat} (hP : 0 < P) : magn P 0 = 0 := by
  unfold magn; simp
def lowe (f : Int) : Int := if f = 1 then -149 else -1074
theorem ref_Low3 (f : Int) : cutplaneref03_Low.f f = some (lowe f) := by unfold cutplaneref03_Low.f lowe; split <;> rfl
theorem one_cases (f : Int) : (one f = 8388608 ∧ sgn f = 2147483648 ∧ lowe f = -149 ∧ (if f = 1 then (23 : Int) else 52) = 23) ∨ (one f = 4503599627370496 ∧ sgn f = 9223372036854775808 ∧ lowe f = -1074 ∧ (if f = 1 then (23 : Int) else 52) = 52) := by
  unfold one sgn lowe
  by_cases h : f = 1
  · left; simp [h]
  · right; simp [h]
theorem one_toNat (f : Int) : (((one f).toNat : Nat) : Int) = one f ∧ 0 < (one f).toNat := by
  rcases one_cases f with ⟨h, _⟩ | ⟨h, _⟩ <;> rw [h] <;> decide
theorem small_cap {y : Nat} (h : y < 9007199254740992) : y < 2 ^ 53 := h
def capn : Nat := 2100
theorem pow_cap {y j C : Nat} (hy : y < 2 ^ 53) (hj : j + 53 ≤ C) : 2 ^ j * y < 2 ^ C := by
  have h1 : 2 ^ j * y < 2 ^ j * 2 ^ 53 := Nat.mul_lt_mul_of_pos_left hy (Nat.two_pow_pos _)
  rw [← Nat.pow_add] at h1
  exact Nat.lt_of_lt_of_le h1 (Nat.pow_le_pow_right (by decide) hj)
theorem magn_cap {f s : Int} (h0 : 0 ≤ s) (h1 : s < sgn f) : magn (one f).toNat s.toNat < 2 ^ capn := by
  have hm : s.toNat % (one f).toNat < (one f).toNat := Nat.mod_lt _ (one_toNat f).2
  have ho : (one f).toNat ≤ 4503599627370496 := by rcases one_cases f with ⟨h, _⟩ | ⟨h, _⟩ <;> rw [h] <;> decide
  have hq : s.toNat / (one f).toNat ≤ 2048 := by
    apply Nat.div_le_of_le_mul
    rcases one_cases f with ⟨h, g, _⟩ | ⟨h, g, _⟩
    · rw [h]; rw [g] at h1
      have : (8388608 : Int).toNat = 8388608 := rfl
      rw [this]; omega
    · rw [h]; rw [g] at h1
      have : (4503599627370496 : Int).toNat = 4503599627370496 := rfl
      rw [this]; omega
  unfold magn
  generalize s.toNat / (one f).toNat = E at *
  generalize s.toNat % (one f).toNat = F at *
  generalize (one f).toNat = P at *
  have base : ∀ y j : Nat, y < 2 ^ 53 → j ≤ 2047 → 2 ^ j * y < 2 ^ capn := by
    intro y j hy hj
    exact pow_cap hy (show j + 53 ≤ capn by unfold capn; omega)
  split
  · have := base F 0 (small_cap (by omega)) (by omega)
    rw [Nat.pow_zero, Nat.one_mul] at this
    exact this
  · exact base (P + F) (E - 1) (small_cap (by omega)) (by omega)
/-- the value of a finite word, in least units -/
def zv (f w : Int) : Int := zs (decide (w ≥ sgn f)) (magn (one f).toNat (w % sgn f).toNat)
theorem ref_Value {f w : Int} (h : Gd f w) (k : Nat) (hk : 500001 < k) : cutplaneref03_Value.f k f w = some (fm (decide (w ≥ sgn f)) (magn (one f).toNat (w % sgn f).toNat) (lowe f)) := by
  have hs := size_pos f w
  have ho := one_toNat f
  have hcap := magn_cap hs.1 hs.2
  have eS : w % one f = w % sgn f % one f := by
    rcases one_cases f with ⟨a, b, _⟩ | ⟨a, b, _⟩ <;> rw [a, b] <;> omega
  unfold cutplaneref03_Value.f
  rw [ref_Split f h.u, ref_Low3]
  simp only [Option.bind_some]
  rw [eS]
  generalize w % sgn f = s at *
  have hF : s % one f = ((s.toNat % (one f).toNat : Nat) : Int) := by
    rw [Int.natCast_emod, ho.1, Int.toNat_of_nonneg hs.1]
  have hE : s / one f = ((s.toNat / (one f).toNat : Nat) : Int) := by
    rw [Int.natCast_ediv, ho.1, Int.toNat_of_nonneg hs.1]
  have hm : s.toNat % (one f).toNat < (one f).toNat := Nat.mod_lt _ ho.2
  have hlow : -1100 < lowe f ∧ lowe f < 0 ∧ (one f).toNat ≤ 4503599627370496 := by rcases one_cases f with ⟨a, _, b, _⟩ | ⟨a, _, b, _⟩ <;> rw [a, b] <;> decide
  rw [hF, hE]
  unfold magn at *
  generalize s.toNat / (one f).toNat = E at *
  generalize s.toNat % (one f).toNat = F at *
  by_cases z : E = 0
  · rw [if_pos z] at hcap ⊢
    rw [if_pos (by omega), ref_Of (by omega) (by omega) k (by omega), Option.bind_some, Int.toNat_natCast, ref_Form hcap (by decide) (by omega) (by omega) k (by omega)]
    rfl
  · rw [if_neg z] at hcap ⊢
    have hcap2 : (one f).toNat + F < 2 ^ capn := by
      exact Nat.lt_of_le_of_lt (Nat.le_mul_of_pos_left _ (Nat.two_pow_pos _)) hcap
    have hEb : E < 2200 := by
      have h1 : 2 ^ (E - 1) * 1 ≤ 2 ^ (E - 1) * ((one f).toNat + F) := Nat.mul_le_mul_left _ (by omega)
      rw [Nat.mul_one] at h1
      have : E - 1 < capn := (Nat.pow_lt_pow_iff_right (by decide)).1 (Nat.lt_of_le_of_lt h1 hcap)
      unfold capn at this
      omega
    have hsh : shl .u64 1 (if f = 1 then (23 : Int) else 52) = (((one f).toNat : Nat) : Int) := by
      rcases one_cases f with ⟨a, _, _, b⟩ | ⟨a, _, _, b⟩
      · rw [a, b]; decide +kernel
      · rw [a, b]; decide +kernel
    have w1 : wrap64 (wrap64 ((E : Int) - 1) + lowe f) = lowe f + ((E - 1 : Nat) : Int) := by unfold wrap64; omega
    have w2 : IntKind.u64.wrap ((((one f).toNat : Nat) : Int) + ((F : Nat) : Int)) = (((one f).toNat + F : Nat) : Int) := by rw [wrapu64]; omega
    rw [if_neg (by omega), ref_Frac, Option.bind_some, if_pos (by split <;> decide), hsh, w1, w2, ref_Of (by omega) (by omega) k (by omega), Option.bind_some, Int.toNat_natCast, ref_Form hcap2 (by decide) (by omega) (by omega) k (by omega), fm_shift]
    rfl
theorem cmpz_i (x y : Int) : cmpz x y = cmpi x y := rfl
theorem zv_lt {f a b : Int} (h : plc f a < plc f b) : zv f a < zv f b := by
  have ha := size_pos f a
  have hb := size_pos f b
  have ho := (one_toNat f).2
  have mono : ∀ {x y : Int}, 0 ≤ x → x < y → magn (one f).toNat x.toNat < magn (one f).toNat y.toNat := fun h0 h1 => magn_mono ho (by omega)
  have z0 : magn (one f).toNat (0 : Int).toNat = 0 := magn_zero ho
  unfold plc at h
  unfold zv zs
  generalize a % sgn f = x at *
  generalize b % sgn f = y at *
  have nn : ∀ {x : Int}, 0 < x → 0 < magn (one f).toNat x.toNat := fun h0 => by have := mono (x := 0) (by omega) h0; omega
  by_cases ca : a ≥ sgn f
  · rw [if_pos ca] at h
    rw [if_pos (by simpa using ca)]
    by_cases cb : b ≥ sgn f
    · rw [if_pos cb] at h
      rw [if_pos (by simpa using cb)]
      have := mono hb.1 (show y < x by omega)
      omega
    · rw [if_neg cb] at h
      rw [if_neg (by simpa using cb)]
      by_cases c : 0 < x
      · have := nn c; omega
      · have : x = 0 := by omega
        subst this
        have := nn (show 0 < y by omega)
        rw [z0]; omega
  · rw [if_neg ca] at h
    rw [if_neg (by simpa using ca)]
    by_cases cb : b ≥ sgn f
    · rw [if_pos cb] at h; omega
    · rw [if_neg cb] at h
      rw [if_neg (by simpa using cb)]
      have := mono ha.1 (show x < y by omega)
      omega
theorem zv_eq {f a b : Int} (h : plc f a = plc f b) : zv f a = zv f b := by
  have ha := size_pos f a
  have hb := size_pos f b
  have ho := (one_toNat f).2
  have z0 : magn (one f).toNat (0 : Int).toNat = 0 := magn_zero ho
  unfold plc at h
  unfold zv zs
  generalize a % sgn f = x at *
  generalize b % sgn f = y at *
  by_cases ca : a ≥ sgn f
  · rw [if_pos ca] at h
    rw [if_pos (by simpa using ca)]
    by_cases cb : b ≥ sgn f
    · rw [if_pos cb] at h
      rw [if_pos (by simpa using cb)]
      have : x = y := by omega
      rw [this]
    · rw [if_neg cb] at h
      rw [if_neg (by simpa using cb)]
      have h1 : x = 0 := by omega
      have h2 : y = 0 := by omega
      rw [h1, h2, z0]; rfl
  · rw [if_neg ca] at h
    rw [if_neg (by simpa using ca)]
    by_cases cb : b ≥ sgn f
    · rw [if_pos cb] at h
      rw [if_pos (by simpa using cb)]
      have h1 : x = 0 := by omega
      have h2 : y = 0 := by omega
      rw [h1, h2, z0]; rfl
    · rw [if_neg cb] at h
      rw [if_neg (by simpa using cb)]
      have : x = y := by omega
      rw [this]
theorem zv_cmp (f a b : Int) : cmpi (zv f a) (zv f b) = cmpi (plc f a) (plc f b) := by
  have h1 := cmpi_bd (plc f a) (plc f b)
  have h2 := cmpi_bd (zv f a) (zv f b)
  rcases Int.lt_trichotomy (plc f a) (plc f b) with h | h | h
  · have := zv_lt h; omega
  · have := zv_eq h; omega
  · have := zv_lt h; omega
theorem ref_Cmp7 {f a b : Int} (ha : Gd f a) (hb : Gd f b) (k : Nat) (hk : 500010 < k) : cutplaneref07_Cmp.f k f a b = some (cmpf f a b) := by
  obtain ⟨k, rfl⟩ : ∃ j, k = j + 3 := ⟨k - 3, by omega⟩
  have ga := gd_lt ha
  have gb := gd_lt hb
  have hs := sgn_cases f
  have hi := infw_lt f
  have za := sz_lo ha
  have zb := sz_lo hb
  have hbd := cmpi_bd (plc f a) (plc f b)
  unfold cutplaneref07_Cmp.f cmpf
  rw [show k + 3 = (k + 2) + 1 from rfl, ref_Class (k + 2) f ha.u, ref_Class (k + 2) f hb.u, Option.bind_some, Option.bind_some]
  by_cases ca : cl f a = 5
  · rw [if_pos ca, if_pos (.inl ca), cutplaneref07_Cmp.j0, if_pos rfl]
  by_cases cb : cl f b = 5
  · have e : (cl f b == 5) = true := by simp [cb]
    rw [if_neg ca, if_pos (.inr cb), e, cutplaneref07_Cmp.j0, if_pos rfl]
  have a5 : a % sgn f ≤ infw f := by have := mt (cl5 f a).2 ca; omega
  have b5 : b % sgn f ≤ infw f := by have := mt (cl5 f b).2 cb; omega
  have e : (cl f b == 5) = false := by simp [cb]
  have pa : (a < sgn f ∧ plc f a = a) ∨ (sgn f ≤ a ∧ plc f a = sgn f - a) := by
    unfold plc
    rcases za with ⟨u, v⟩ | ⟨u, v⟩
    · left; rw [if_neg (by omega)]; omega
    · right; rw [if_pos (by omega)]; omega
  have pb : (b < sgn f ∧ plc f b = b) ∨ (sgn f ≤ b ∧ plc f b = sgn f - b) := by
    unfold plc
    rcases zb with ⟨u, v⟩ | ⟨u, v⟩
    · left; rw [if_neg (by omega)]; omega
    · right; rw [if_pos (by omega)]; omega
  rw [if_neg ca, if_neg (by simp [ca, cb]), e, cutplaneref07_Cmp.j0, if_neg (by decide)]
  by_cases cab : a = b
  · subst cab
    rw [if_pos rfl]; exact congrArg some (by omega)
  rw [if_neg cab, ref_Inf, ref_Inf]
  simp only [Option.bind_some, Bool.false_eq_true, if_false, if_true]
  by_cases c1 : a = infw f ∨ b = infw f + sgn f
  · have j1 : ∀ x : Bool, x = true → cutplaneref07_Cmp.j1 (k + 2) f a b x = some 3 := by
      intro x hx; rw [show k + 2 = (k + 1) + 1 from rfl, cutplaneref07_Cmp.j1, if_pos hx]
    have e3 : 2 + cmpi (plc f a) (plc f b) = 3 := by omega
    rw [e3]
    by_cases c2 : a = infw f
    · rw [if_pos c2]; exact j1 true rfl
    · rw [if_neg c2]
      have : b = infw f + sgn f := by rcases c1 with h | h; exact absurd h c2; exact h
      exact j1 _ (by simp [this])
  · have n1 : ¬ a = infw f := fun h => c1 (.inl h)
    have n2 : (b == infw f + sgn f) = false := by simp; exact fun h => c1 (.inr h)
    rw [if_neg n1, n2, show k + 2 = (k + 1) + 1 from rfl, cutplaneref07_Cmp.j1, if_neg (by decide), ref_Inf, ref_Inf]
    simp only [Option.bind_some, Bool.false_eq_true, if_false, if_true]
    by_cases c2 : b = infw f ∨ a = infw f + sgn f
    · have j2 : ∀ x : Bool, x = true → cutplaneref07_Cmp.j2 (k + 1) f a b x = some 1 := by
        intro x hx; rw [cutplaneref07_Cmp.j2, if_pos hx]
      have e1 : 2 + cmpi (plc f a) (plc f b) = 1 := by omega
      rw [e1]
      by_cases c3 : b = infw f
      · rw [if_pos c3]; exact j2 true rfl
      · rw [if_neg c3]
        have : a = infw f + sgn f := by rcases c2 with h | h; exact absurd h c3; exact h
        exact j2 _ (by simp [this])
    · have n3 : ¬ b = infw f := fun h => c2 (.inl h)
      have n4 : (a == infw f + sgn f) = false := by simp; exact fun h => c2 (.inr h)
      have ca1 := magn_cap (size_pos f a).1 (size_pos f a).2
      have cb1 := magn_cap (size_pos f b).1 (size_pos f b).2
      have hl : -1000000000000 < lowe f ∧ lowe f < 1000000000000 := by unfold lowe; split <;> decide
      rw [if_neg n3, n4, cutplaneref07_Cmp.j2, if_neg (by decide), ref_Value ha k (by omega), Option.bind_some, ref_Value hb k (by omega), Option.bind_some, ref_Cmp_fm ca1 cb1 (by decide) hl.1 hl.2 k (by omega), Option.bind_some, cmpz_i]
      have ez : cmpi (zs (decide (a ≥ sgn f)) (magn (one f).toNat (a % sgn f).toNat)) (zs (decide (b ≥ sgn f)) (magn (one f).toNat (b % sgn f).toNat)) = cmpi (plc f a) (plc f b) := zv_cmp f a b
      rw [ez]
      generalize cmpi (plc f a) (plc f b) = c at *
      by_cases d1 : c < 0
      · rw [if_pos d1]; exact congrArg some (by omega)
      · rw [if_neg d1]
        by_cases d2 : c > 0
        · rw [if_pos d2]; exact congrArg some (by omega)
        · rw [if_neg d2]; exact congrArg some (by omega)
end Go.Proofs.Ytnjdaoeebhbmfaa.PA
end

section
namespace Go.Proofs.Ytnjdaoeebhbmfaa.PA
open Go.RowKit Go.Proofs.YtnjdaoeebhbmfaaW.PrintWords Go.Proofs.YtnjdaoeebhbmfaaW.PrintLast Go.Proofs.YtnjdaoeebhbmfaaW.PrintMore Go.Proofs.Ytnjdaoeebhbmfaa.Wd
theorem ref_Total7 {f a b : Int} (ha : Gd f a) (hb : Gd f b) (k : Nat) (hk : 500010 < k) : cutplaneref07_Total.f k f a b = some (tot f a b) := by
  obtain ⟨j, rfl⟩ : ∃ j, k = j + 1 := ⟨k - 1, by omega⟩
  have ga := gd_lt ha
  have gb := gd_lt hb
  have hs := sgn_cases f
  have pa := plc_cases ha
  have pb := plc_cases hb
  unfold cutplaneref07_Total.f tot
  rw [ref_Class j f ha.u, ref_Class j f hb.u, ref_Cmp7 ha hb (j + 1) hk, ref_Split f ha.u]
  simp only [Option.bind_some]
  by_cases ca : cl f a = 5
  · rw [if_pos ca, if_pos ca]
    by_cases cb : cl f b = 5
    · rw [if_pos cb, if_pos cb]
    · rw [if_neg cb, if_neg cb, if_neg (show ¬ (a = b) from fun e => cb (by rw [← e]; exact ca))]
  · rw [if_neg ca, if_neg ca]
    by_cases cab : a = b
    · subst cab
      rw [if_pos rfl, if_neg ca, cmpi_eq, if_pos rfl, cmpi_eq]
    · rw [if_neg cab]
      by_cases cb : cl f b = 5
      · rw [if_pos cb, if_pos cb]
      · rw [if_neg cb, if_neg cb]
        have ec : cmpf f a b = 2 + cmpi (plc f a) (plc f b) := by unfold cmpf; rw [if_neg (by simp [ca, cb])]
        rw [ec]
        have hbd := cmpi_bd (plc f a) (plc f b)
        have hb2 := cmpi_bd b a
        generalize cmpi (plc f a) (plc f b) = c at *
        rcases hbd with ⟨rfl, h⟩ | ⟨rfl, h⟩ | ⟨rfl, h⟩
        · rw [if_pos (by decide), if_neg (by decide)]
        · rw [if_neg (by decide), if_neg (by decide), if_neg (by decide)]
        · rw [if_neg (by decide), if_pos (by decide), if_pos rfl]
          by_cases d : a ≥ sgn f
          · rw [if_pos (by simpa using d)]; exact congrArg some (by omega)
          · rw [if_neg (by simpa using d)]; exact congrArg some (by omega)
end Go.Proofs.Ytnjdaoeebhbmfaa.PA
namespace Go.Proofs.Ytnjdaoeebhbmfaa.Pure
open Go.RowKit Go.Proofs.Ytnjdaoeebhbmfaa.PA Go.Proofs.YtnjdaoeebhbmfaaW.PrintWords Go.Proofs.YtnjdaoeebhbmfaaW.PrintLast Go.Proofs.Ytnjdaoeebhbmfaa.Wd
end Go.Proofs.Ytnjdaoeebhbmfaa.Pure
end

section
namespace Go.Proofs.Ytnjdaoeebhbmfaa.Pure
open Go.RowKit Go.Proofs.Ytnjdaoeebhbmfaa.PA Go.Proofs.YtnjdaoeebhbmfaaW.PrintWords Go.Proofs.YtnjdaoeebhbmfaaW.PrintLast Go.Proofs.YtnjdaoeebhbmfaaW.PrintMore Go.Proofs.Ytnjdaoeebhbmfaa.Wd
set_option linter.unusedSimpArgs false
set_option linter.unusedVariables false
theorem can_idem {f w : Int} (h : Gd f w) : Gd f (canw f w) ∧ canw f (canw f w) = canw f w := by
  unfold canw
  by_cases c : cl f w = 5
  · rw [if_pos c]
    rcases gd_f h with rfl | rfl
    · exact ⟨.inl ⟨rfl, by decide, by decide⟩, by decide⟩
    · exact ⟨.inr ⟨rfl, by decide, by decide⟩, by decide⟩
  · rw [if_neg c, if_neg c]; exact ⟨h, rfl⟩
/-- words that are good and have the canonical NaN -/
def Cl (f : Int) (l : List Int) : Prop := ∀ x ∈ l, Gd f x ∧ canw f x = x
theorem cl_map {f : Int} {l : List Int} (h : ∀ x ∈ l, Gd f x) : Cl f (l.map (canw f)) := by
  intro x hx
  obtain ⟨y, hy, rfl⟩ := List.mem_map.1 hx
  exact can_idem (h y hy)
def Up (f : Int) (l : List Int) : Prop := l.Pairwise (fun x y => key f x ≤ key f y)
theorem sortw_up (f : Int) (l : List Int) : Up f (sortw f l) := by
  have := List.pairwise_mergeSort (le := fun x y : Int => decide (key f x ≤ key f y)) (by intro a b c; simp; omega) (by intro a b; simp; omega) l
  exact this.imp (fun h => of_decide_eq_true h)
theorem sortw_perm (f : Int) (l : List Int) : (sortw f l).Perm l := List.mergeSort_perm _ _
theorem sortw_len (f : Int) (l : List Int) : (sortw f l).length = l.length := (sortw_perm f l).length_eq
theorem cl_perm {f : Int} {l m : List Int} (h : Cl f l) (p : m.Perm l) : Cl f m := fun x hx => h x (p.mem_iff.1 hx)
theorem up_one {f : Int} {l m : List Int} (hl : Up f l) (hm : Up f m) (p : l.Perm m) (c : Cl f m) : l = m := by
  refine List.Perm.eq_of_pairwise (le := fun x y => key f x ≤ key f y) ?_ hl hm p
  intro a b ha hb h1 h2
  have ca := cl_perm c p a ha
  have cb := c b hb
  have := (key_can ca.1 cb.1).1 (by omega)
  rw [ca.2, cb.2] at this
  exact this
theorem leo_up {α : Type} {g : Nat → Option α} (hm : ∀ k, LeO (g k) (g (k + 1))) {K : Nat} {r : α} (h : g K = some r) (k : Nat) : g (K + k) = some r := by
  induction k with
  | zero => exact h
  | succ k ih => exact hm (K + k) r ih
theorem sort_loop {f : Int} {l : List Int} (hl : l.length ≤ 4096) (hg : ∀ x ∈ l, Gd f x) (d : Nat) : ∀ (k i : Nat) (acc : List Int), i ≤ l.length → l.length - i = d → d + 2 < k → acc = (l.take i).map (canw f) →
    rank_Sort.l0 k acc l (l.length : Int) (i : Int) f = some (sortw f (l.map (canw f)), 0) := by
  induction d with
  | zero =>
    intro k i acc hi hd hk ha
    obtain ⟨k, rfl⟩ : ∃ m, k = m + 1 := ⟨k - 1, by omega⟩
    have e : i = l.length := by omega
    subst e
    rw [List.take_length] at ha
    subst ha
    have ho : okl f (l.map (canw f)) = true := by
      unfold okl
      rw [Bool.and_eq_true]
      refine ⟨decide_eq_true (by rw [List.length_map]; exact hl), List.all_eq_true.2 fun x hx => ?_⟩
      obtain ⟨a, b⟩ := cl_map hg x hx
      exact okc_in a b
    simp only [rank_Sort.l0]
    rw [if_neg (by omega), if_pos ho]
  | succ d ih =>
    intro k i acc hi hd hk ha
    obtain ⟨k, rfl⟩ : ∃ m, k = m + 1 := ⟨k - 1, by omega⟩
    obtain ⟨q, rfl⟩ : ∃ q, k = q + 2 := ⟨k - 2, by omega⟩
    have hlt : i < l.length := by omega
    have w1 : wrap64 ((i : Int) + 1) = ((i + 1 : Nat) : Int) := by unfold wrap64; omega
    have hacc : acc.length < 17592186044416 := by rw [ha]; simp; omega
    simp only [rank_Sort.l0]
    rw [if_pos (by omega), if_pos (by omega), if_pos (by omega), rd_get l i hlt, canon_good q (hg _ (List.getElem_mem hlt)), w1]
    simp only [Option.bind_some]
    rw [if_pos hacc]
    refine ih (q + 2) (i + 1) _ (by omega) (by omega) (by omega) ?_
    rw [ha, List.take_succ_eq_append_getElem hlt, List.map_append]
    rfl
theorem sort_val {f : Int} {l : List Int} (hu : ∀ x ∈ l, U x) (hl : l.length ≤ 17592186043904) {k : Nat} (hk : l.length + 10 < k) :
    rank_Sort.f k f l = some (if f = 1 ∨ f = 2 then (if 4096 < l.length then ([], 3) else if errl f l = 0 then (sortw f (l.map (canw f)), 0) else ([], errl f l)) else ([], 4)) := by
  have e0 : errl f [] = if f = 1 ∨ f = 2 then 0 else 4 := by unfold errl; simp
  unfold rank_Sort.f
  rw [open_list f [] (by simp) (by simp) k (by simp; omega), e0]
  simp only [Option.bind_some]
  by_cases hf : f = 1 ∨ f = 2
  · rw [if_pos hf, if_pos rfl, if_pos hf]
    by_cases h4 : 4096 < l.length
    · rw [if_pos h4, if_pos (by omega)]
    · rw [if_neg h4, if_neg (by omega), open_list f l (by omega) hu k (by omega)]
      simp only [Option.bind_some]
      by_cases he : errl f l = 0
      · obtain ⟨_, hg⟩ := errl_zero he hu
        rw [if_pos he, if_pos he, if_pos (by omega), if_pos (by omega)]
        have := sort_loop (by omega) hg l.length k 0 (List.replicate 0 0) (by omega) (by omega) (by omega) (by simp)
        exact this
      · rw [if_neg he, if_neg he]
  · rw [if_neg hf, if_neg (by decide), if_neg hf]
theorem ins_loop {f : Int} {l : List Int} {w : Int} {i : Int} (hw : Gd f w ∧ canw f w = w) (n : Nat) : ∀ (A B : List Int), A.length = n → A.length + B.length < 4294967296 → Cl f A → Cl f B → Up f (A ++ B) → (∀ b ∈ B, key f w < key f b) →
    ∃ out, Up f out ∧ out.Perm (A ++ w :: B) ∧ ∀ (K : Nat) (r : List Int), 500010 < K → cutplaneref07_Sort.l0 K f l out (wrap64 (i + 1)) = some r → cutplaneref07_Sort.l1 (K + n + 1) f l (A ++ w :: B) i w (n : Int) = some r := by
  induction n with
  | zero =>
    intro A B hA hlen cA cB hup hB
    have hA0 : A = [] := List.length_eq_zero_iff.1 hA
    subst hA0
    refine ⟨w :: B, ?_, List.Perm.refl _, fun K r hK h => ?_⟩
    · exact List.pairwise_cons.2 ⟨fun b hb => by have := hB b hb; omega, hup⟩
    · simp only [cutplaneref07_Sort.l1]
      rw [if_neg (by omega)]
      exact h
  | succ n ih =>
    intro A B hA hlen cA cB hup hB
    obtain ⟨A', a, rfl⟩ : ∃ A' a, A = A' ++ [a] := by
      rcases List.eq_nil_or_concat A with e | ⟨x, y, e⟩
      · subst e; simp at hA
      · exact ⟨x, y, by simpa using e⟩
    have hn : A'.length = n := by simpa using hA
    simp only [List.length_append, List.length_singleton] at hlen
    have ca := cA a (by simp)
    have cA' : Cl f A' := fun x hx => cA x (by simp [hx])
    have w1 : wrap64 (((n + 1 : Nat) : Int) - 1) = (n : Int) := by unfold wrap64; omega
    have r1 : rd (A' ++ [a] ++ w :: B) (n : Int) = a := by
      unfold rd
      rw [Int.toNat_natCast, ← hn]
      simp
    have st : ((A' ++ [a] ++ w :: B).set (((n + 1 : Nat) : Int)).toNat a).set ((n : Int)).toNat w = A' ++ w :: (a :: B) := by
      rw [Int.toNat_natCast, Int.toNat_natCast, ← hn]
      simp
    have tk : ∀ k, 500010 < k → cutplaneref07_Total.f k f a w = some (cmpi (key f a) (key f w)) := fun k hk => by rw [ref_Total7 ca.1 hw.1 k hk, tot_key ca.1 hw.1]
    have hsp : Up f (A' ++ (a :: B)) := by simpa using hup
    by_cases c : key f w < key f a
    · obtain ⟨out, h1, h2, h3⟩ := ih A' (a :: B) hn (by simp; omega) cA' (by intro x hx; rcases List.mem_cons.1 hx with rfl | hx; exact ca; exact cB x hx) hsp (by intro b hb; rcases List.mem_cons.1 hb with rfl | hb; exact c; exact hB b hb)
      refine ⟨out, h1, h2.trans ?_, fun K r hK h => ?_⟩
      · simpa using (List.Perm.swap a w B).append_left A'
      · have := h3 K r hK h
        show cutplaneref07_Sort.l1 (K + n + 1 + 1) f l (A' ++ [a] ++ w :: B) i w ((n + 1 : Nat) : Int) = some r
        simp only [cutplaneref07_Sort.l1]
        rw [if_pos (by omega), w1, if_pos (by omega), if_pos (by simp; omega), r1, tk _ (by omega)]
        simp only [Option.bind_some]
        rw [cmpi_gt c, if_pos (by decide), if_pos (by omega), if_pos (by simp; omega), st]
        exact this
    · refine ⟨A' ++ [a] ++ w :: B, ?_, List.Perm.refl _, fun K r hK h => ?_⟩
      · unfold Up at hup ⊢
        rw [List.pairwise_append] at hup ⊢
        obtain ⟨p1, p2, p3⟩ := hup
        refine ⟨p1, List.pairwise_cons.2 ⟨fun b hb => by have := hB b hb; omega, p2⟩, fun x hx y hy => ?_⟩
        rcases List.mem_cons.1 hy with rfl | hy
        · rcases List.mem_append.1 hx with hx | hx
          · have := (List.pairwise_append.1 p1).2.2 x hx a (by simp)
            omega
          · rw [List.mem_singleton.1 hx]; omega
        · exact p3 x hx y hy
      · have hm := leo_up (g := fun k => cutplaneref07_Sort.l0 k f l (A' ++ [a] ++ w :: B) (wrap64 (i + 1))) (fun k => (cutplaneref07_Sort.mono_l k).1 _ _ _ _) h (n + 1)
        show cutplaneref07_Sort.l1 (K + (n + 1) + 1) f l (A' ++ [a] ++ w :: B) i w ((n + 1 : Nat) : Int) = some r
        simp only [cutplaneref07_Sort.l1]
        rw [if_pos (by omega), w1, if_pos (by omega), if_pos (by simp; omega), r1, tk _ (by omega)]
        simp only [Option.bind_some]
        have hle : ¬ cmpi (key f a) (key f w) > 0 := by
          rcases cmpi_bd (key f a) (key f w) with ⟨e, h⟩ | ⟨e, h⟩ | ⟨e, h⟩ <;> omega
        rw [if_neg hle]
        exact hm
theorem rsort_loop {f : Int} {l : List Int} {M c : Nat} (hM : 500020 ≤ M) (hc : 5000 ≤ c) (hl : l.length ≤ 4096) (hg : ∀ x ∈ l, Gd f x) (d : Nat) : ∀ (i : Nat) (acc : List Int), i ≤ l.length → l.length - i = d → Up f acc → acc.Perm ((l.take i).map (canw f)) →
    ∃ out, Up f out ∧ out.Perm (l.map (canw f)) ∧ ∀ k, M + d * c ≤ k → cutplaneref07_Sort.l0 k f l acc (i : Int) = some out := by
  induction d with
  | zero =>
    intro i acc hi hd hup hp
    have e : i = l.length := by omega
    subst e
    rw [List.take_length] at hp
    refine ⟨acc, hup, hp, fun k hk => ?_⟩
    rw [Nat.zero_mul, Nat.add_zero] at hk
    obtain ⟨k, rfl⟩ : ∃ m, k = m + 1 := ⟨k - 1, by omega⟩
    simp only [cutplaneref07_Sort.l0]
    rw [if_neg (by omega)]
  | succ d ih =>
    intro i acc hi hd hup hp
    have hlt : i < l.length := by omega
    have hgi := hg _ (List.getElem_mem hlt)
    have hlen : acc.length = i := by rw [hp.length_eq]; simp; omega
    have cacc : Cl f acc := cl_perm (cl_map (fun x hx => hg x (List.mem_of_mem_take hx))) hp
    obtain ⟨out, h1, h2, h3⟩ := ins_loop (l := l) (i := (i : Int)) (can_idem hgi) i acc [] hlen (by simp; omega) cacc (by intro x hx; simp at hx) (by simpa using hup) (by intro b hb; simp at hb)
    have w1 : wrap64 ((i : Int) + 1) = ((i + 1 : Nat) : Int) := by unfold wrap64; omega
    obtain ⟨fin, g1, g2, g3⟩ := ih (i + 1) out (by omega) (by omega) h1 (by
      rw [List.take_succ_eq_append_getElem hlt, List.map_append]
      exact h2.trans (hp.append_right _))
    refine ⟨fin, g1, g2, fun k hk => ?_⟩
    rw [Nat.add_mul, Nat.one_mul] at hk
    obtain ⟨K, hkK, hK⟩ : ∃ K, k = K + i + 1 + 1 ∧ M + d * c ≤ K := by
      generalize d * c = z at hk ⊢
      exact ⟨k - i - 2, by omega, by omega⟩
    have hK1 : 500010 < K := Nat.lt_of_lt_of_le (by omega : 500010 < M + d * c) hK
    clear hk
    subst hkK
    simp only [cutplaneref07_Sort.l0]
    rw [if_pos (by omega), if_pos (by omega), rd_get l i hlt, ref_Canon (K + i) f hgi.u]
    simp only [Option.bind_some]
    rw [if_pos (by omega)]
    have w2 : wrap64 (((acc ++ [canw f l[i]]).length : Int) - 1) = (i : Int) := by
      rw [List.length_append, hlen]; unfold wrap64; simp; omega
    rw [w2]
    have := h3 K fin hK1 (by rw [w1]; exact g3 K hK)
    simpa using this
theorem rsort_val {f : Int} {l : List Int} (hl : l.length ≤ 4096) (hg : ∀ x ∈ l, Gd f x) {k : Nat} (hk : 500020 + l.length * 5000 ≤ k) : cutplaneref07_Sort.f k f l = some (sortw f (l.map (canw f))) := by
  obtain ⟨out, h1, h2, h3⟩ := rsort_loop (M := 500020) (c := 5000) (Nat.le_refl _) (Nat.le_refl _) hl hg l.length 0 [] (by omega) (by omega) (by simp [Up]) (by simp)
  have e : out = sortw f (l.map (canw f)) := up_one h1 (sortw_up f _) (h2.trans (sortw_perm f _).symm) (cl_perm (cl_map hg) (sortw_perm f _))
  subst e
  exact h3 k hk
theorem same_loop {a b : List Int} (hl : a.length = b.length) (hs : a.length < 4611686018427387904) (d : Nat) : ∀ (k i : Nat), i ≤ a.length → a.length - i = d → d < k → a.take i = b.take i → cutplanelaw07_same.l0 k a b (i : Int) = some (decide (a = b)) := by
  induction d with
  | zero =>
    intro k i hi hd hk h
    obtain ⟨k, rfl⟩ : ∃ m, k = m + 1 := ⟨k - 1, by omega⟩
    have e : i = a.length := by omega
    subst e
    rw [List.take_length, hl, List.take_length] at h
    simp only [cutplanelaw07_same.l0]
    rw [if_neg (by omega), decide_eq_true h]
  | succ d ih =>
    intro k i hi hd hk h
    obtain ⟨k, rfl⟩ : ∃ m, k = m + 1 := ⟨k - 1, by omega⟩
    have h1 : i < a.length := by omega
    have h2 : i < b.length := by omega
    have w1 : wrap64 ((i : Int) + 1) = ((i + 1 : Nat) : Int) := by unfold wrap64; omega
    simp only [cutplanelaw07_same.l0]
    rw [if_pos (by omega), if_pos (by omega), if_pos (by omega), rd_get a i h1, rd_get b i h2, w1]
    by_cases c : a[i] = b[i]
    · rw [if_pos c]
      refine ih k (i + 1) (by omega) (by omega) (by omega) ?_
      rw [List.take_succ_eq_append_getElem h1, List.take_succ_eq_append_getElem h2, h, c]
    · rw [if_neg c, decide_eq_false]
      rintro rfl
      exact c rfl
theorem same_val (a b : List Int) (hs : a.length < 4611686018427387904) {k : Nat} (hk : a.length < k) : cutplanelaw07_same.f k a b = some (decide (a = b)) := by
  unfold cutplanelaw07_same.f
  by_cases h : a.length = b.length
  · rw [if_pos (by omega)]
    have := same_loop h hs a.length k 0 (by omega) (by omega) hk (by simp)
    exact this
  · rw [if_neg (by omega), decide_eq_false]
    rintro rfl
    exact h rfl
end Go.Proofs.Ytnjdaoeebhbmfaa.Pure
end

section
namespace Go.Proofs.Ytnjdaoeebhbmfaa.Pure
open Go.RowKit Go.Proofs.Ytnjdaoeebhbmfaa.PA Go.Proofs.YtnjdaoeebhbmfaaW.PrintWords Go.Proofs.YtnjdaoeebhbmfaaW.PrintLast Go.Proofs.YtnjdaoeebhbmfaaW.PrintMore Go.Proofs.Ytnjdaoeebhbmfaa.Wd
set_option linter.unusedSimpArgs false
set_option linter.unusedVariables false
set_option maxHeartbeats 2000000 in
theorem sevens {l inn : List Int} {k0 : Nat} (hs : ∀ k, k0 ≤ k → cutplanelaw07_same.f k inn l = some true) (h5 : 5 ≤ k0) (d : Nat) : ∀ (k i : Nat) (s : List Int), i ≤ s.length → s.length - i = d → s.length < 4611686018427387904 → k0 + d < k → cutplanelaw07_RankSorts.l0 k l inn s true (i : Int) = some true := by
  induction d with
  | zero =>
    intro k i s hi hd hn hk
    obtain ⟨k, rfl⟩ : ∃ m, k = m + 1 := ⟨k - 1, by omega⟩
    simp only [cutplanelaw07_RankSorts.l0]
    rw [if_neg (by omega), if_pos trivial, hs k (by omega)]
    simp only [Option.bind_some, if_true]
    obtain ⟨q, rfl⟩ : ∃ q, k = q + 5 := ⟨k - 5, by omega⟩
    rw [known07 q]
    rfl
  | succ d ih =>
    intro k i s hi hd hn hk
    obtain ⟨k, rfl⟩ : ∃ m, k = m + 1 := ⟨k - 1, by omega⟩
    have w1 : wrap64 ((i : Int) + 1) = ((i + 1 : Nat) : Int) := by unfold wrap64; omega
    simp only [cutplanelaw07_RankSorts.l0]
    rw [if_pos (by omega), if_pos (by omega), w1]
    exact ih k (i + 1) _ (by simp; omega) (by simp; omega) (by simp; omega) (by omega)
set_option maxHeartbeats 2000000 in
set_option maxRecDepth 100000 in
theorem RankSorts : cutplanelaw07_RankSorts.Pure := by
  intro f l _ _ hb hw
  have hu : ∀ x ∈ l, U x := fun x hx => u_of (hw x hx)
  have hl : l.length ≤ 17592186043904 := by omega
  obtain ⟨K, hK⟩ : ∃ K, K = l.length + 4000000 := ⟨_, rfl⟩
  have hKn : ∀ j, j ≤ 100 → ∃ q, K = q + 5 + j := fun j hj => ⟨K - 5 - j, by omega⟩
  have kn : ∀ j, j ≤ 100 → cutplanelaw07_known.f (K - j) = some true := by
    intro j hj
    obtain ⟨q, hq⟩ := hKn j hj
    rw [show K - j = q + 5 by omega]
    exact known07 q
  refine ⟨K, ?_⟩
  have k1 : ∃ q, K = q + 1 + 1 + 1 + 1 + 1 := ⟨K - 5, by omega⟩
  obtain ⟨q, hq⟩ := k1
  have kq : ∀ j, j ≤ 5 → cutplanelaw07_known.f (q + j) = some true := fun j hj => by
    have := kn (5 - j) (by omega)
    rwa [show K - (5 - j) = q + j by omega] at this
  have hq1 : l.length + 1100000 < q := by omega
  have main : ¬ (l.length > 200 ∧ l.length ≤ 4096) → cutplanelaw07_RankSorts.j0 (q + 1 + 1 + 1 + 1 + 1) f l false = some true := by
    intro hn
    simp only [cutplanelaw07_RankSorts.j0, Bool.false_eq_true, if_false, Option.bind_some, List.nil_append, List.length_nil, Nat.zero_add]
    rw [if_pos (by omega)]
    try simp only [Option.bind_some]
    rw [sort_val hu hl (by omega), same_val l l (by omega) (by omega), ref_Opens f l (by omega) _ (by omega)]
    simp only [Option.bind_some, decide_true, if_true, ref_Is]
    by_cases h4 : 4096 < l.length
    · rw [if_pos (by omega)]
      by_cases hf : f = 1 ∨ f = 2
      · rw [if_pos hf, if_pos h4, decide_eq_true hf]
        simp only [cutplanelaw07_RankSorts.j1, if_true, cutplanelaw07_RankSorts.j2]
        have := kq 2 (by omega)
        simp [this]
      · rw [if_neg hf, decide_eq_false hf]
        have he : errl f l = 4 := by unfold errl; rw [if_neg hf]
        rw [he]
        simp only [cutplanelaw07_RankSorts.j1, Bool.false_eq_true, if_false, cutplanelaw07_RankSorts.j2]
        have := kq 2 (by omega)
        simp [this]
    · rw [if_neg (by omega)]
      have h200 : l.length ≤ 200 := by omega
      by_cases hf : f = 1 ∨ f = 2
      · rw [if_pos hf, if_neg h4]
        by_cases he : errl f l = 0
        · obtain ⟨_, hg⟩ := errl_zero he hu
          rw [if_pos he, he]
          simp only [cutplanelaw07_RankSorts.j1, Bool.false_eq_true, if_false, cutplanelaw07_RankSorts.j2, if_true]
          have hr : cutplaneref07_Sort.f (q + 1 + 1) f l = some (sortw f (l.map (canw f))) := rsort_val (by omega) hg (by omega)
          have hsl : (sortw f (l.map (canw f))).length = l.length := by rw [sortw_len, List.length_map]
          rw [hr]
          simp only [Option.bind_some]
          rw [same_val _ _ (by omega) (by omega)]
          simp only [Option.bind_some, decide_true, if_true, BEq.rfl, cutplanelaw07_RankSorts.j3]
          refine sevens (k0 := l.length + 10) (fun k hk => ?_) (by omega) (sortw f (l.map (canw f))).length (q + 1) 0 (sortw f (l.map (canw f))) (by omega) (by omega) (by omega) (by omega)
          rw [same_val l l (by omega) (by omega), decide_eq_true rfl]
        · rw [if_neg he]
          simp only [cutplanelaw07_RankSorts.j1, Bool.false_eq_true, if_false, cutplanelaw07_RankSorts.j2]
          have := kq 2 (by omega)
          simp [this, he]
      · rw [if_neg hf]
        have he : errl f l = 4 := by unfold errl; rw [if_neg hf]
        rw [he]
        simp only [cutplanelaw07_RankSorts.j1, Bool.false_eq_true, if_false, cutplanelaw07_RankSorts.j2]
        have := kq 2 (by omega)
        simp [this]
  unfold cutplanelaw07_RankSorts.f
  by_cases h2 : l.length > 200
  · rw [if_pos (by omega)]
    by_cases h4 : l.length ≤ 4096
    · rw [show decide ((l.length : Int) ≤ 4096) = true from decide_eq_true (by omega), hq]
      simp only [cutplanelaw07_RankSorts.j0, if_true]
      have := kq 4 (by omega)
      simp [this]
    · rw [show decide ((l.length : Int) ≤ 4096) = false from decide_eq_false (by omega), hq]
      exact main (by omega)
  · rw [if_neg (by omega), hq]
    exact main (by omega)
end Go.Proofs.Ytnjdaoeebhbmfaa.Pure
end
