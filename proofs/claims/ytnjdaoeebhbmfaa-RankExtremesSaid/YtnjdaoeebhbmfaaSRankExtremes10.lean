/- Steps of Go functions that the law RankExtremes uses, told as plain Lean functions, each with the proof that its call comes to what it tells; words on memory; plain facts. No condition beyond those that each text names. -/
import Derived.Laws.BitsAllLaws
import Derived.Laws.BitsLemmas
import Derived.Test.YtnjdaoeebhbmfaaProg
import Derived.Below
import Derived.Deep.Draws
import Derived.Deep.AppendLies
import Derived.Maps.AppendAt
import Derived.OwnWalk
import Derived.Laws.BytesArg
import Derived.Laws.MakeOwn
import Derived.Laws.OwnMore
import Derived.Deep.OwnRows
import Derived.Tactics
import Derived.Lib.ConvBytes
import Derived.Laws.Slices
import Derived.WalkKit
import Derived.KernelRfl
import Derived.RowKit3
import Derived.Deep.LoopGhost
import Derived.Deep.QuietTactic
import Derived.BigQuiet
import Derived.WideLaws
import Derived.Deep.DeepCutAuto
import Derived.Deep.CutBlock
import Derived.Deep.RegionHeld3
import Derived.Laws.Rows
import Derived.Lib.AppendStr
import Derived.ArgAppend
import Derived.Laws.IdiomCopy
import Derived.OrdersHeld
import Derived.RowKit
import Derived.Laws.StructEq
import Derived.Lib.EndianBits
import Derived.OpenShut
import Derived.Test.YtnjdaoeebhbmfaaSRankExtremes0
import Derived.Test.YtnjdaoeebhbmfaaSRankExtremes1
import Derived.Test.YtnjdaoeebhbmfaaSRankExtremes2
import Derived.Test.YtnjdaoeebhbmfaaSRankExtremes3
import Derived.Test.YtnjdaoeebhbmfaaSRankExtremes4
import Derived.Test.YtnjdaoeebhbmfaaSRankExtremes5
import Derived.Test.YtnjdaoeebhbmfaaSRankExtremes6
import Derived.Test.YtnjdaoeebhbmfaaSRankExtremes7
import Derived.Test.YtnjdaoeebhbmfaaSRankExtremes8
import Derived.Test.YtnjdaoeebhbmfaaSRankExtremes9
section
namespace Go.Proofs.Ytnjdaoeebhbmfaa.PA
open Go.RowKit Go.Proofs.YtnjdaoeebhbmfaaW.PrintWords Go.Proofs.YtnjdaoeebhbmfaaW.PrintLast Go.Proofs.YtnjdaoeebhbmfaaW.PrintMore Go.Proofs.Ytnjdaoeebhbmfaa.Wd
set_option linter.unusedSimpArgs false
set_option linter.unusedVariables false
/-- how many least units a size is -/
def magn (P s : Nat) : Nat := if s / P = 0 then s % P else 2 ^ (s / P - 1) * (P + s % P)
theorem magn_mono {P s s' : Nat} (hP : 0 < P) (h : s < s') : magn P s < magn P s' := by
  have d1 := Nat.div_add_mod s P
  have d2 := Nat.div_add_mod s' P
  have m1 := Nat.mod_lt s hP
  have m2 := Nat.mod_lt s' hP
  have hd : s / P ≤ s' / P := Nat.div_le_div_right (by omega)
  unfold magn
  generalize s / P = E at *
  generalize s' / P = E' at *
  generalize s % P = F at *
  generalize s' % P = F' at *
  by_cases c : E = E'
  · subst c
    have hF : F < F' := by omega
    by_cases z : E = 0
    · rw [if_pos z, if_pos z]; exact hF
    · rw [if_neg z, if_neg z]
      exact Nat.mul_lt_mul_of_pos_left (by omega) (Nat.two_pow_pos _)
  · have hE' : E' ≠ 0 := by omega
    rw [if_neg hE']
    have up : (if E = 0 then F else 2 ^ (E - 1) * (P + F)) < 2 ^ E * P := by
      by_cases z : E = 0
      · rw [if_pos z, z, Nat.pow_zero, Nat.one_mul]; exact m1
      · rw [if_neg z]
        have e : 2 ^ E = 2 ^ (E - 1) * 2 := by rw [← Nat.pow_succ]; congr 1; omega
        rw [e, Nat.mul_assoc]
        exact Nat.mul_lt_mul_of_pos_left (by omega) (Nat.two_pow_pos _)
    have h1 : 2 ^ E * P ≤ 2 ^ (E' - 1) * P := Nat.mul_le_mul_right _ (Nat.pow_le_pow_right (by decide) (by omega))
    have h2 : 2 ^ (E' - 1) * P ≤ 2 ^ (E' - 1) * (P + F') := Nat.mul_le_mul_left _ (by omega)
    omega
theorem magn_zero {P : Nat} (hP : 0 < P) : magn P 0 = 0 := by
  unfold magn; simp
def lowe (f : Int) : Int := if f = 1 then -149 else -1074
theorem ref_Low3 (f : Int) : cutplaneref03_Low.f f = some (lowe f) := by unfold cutplaneref03_Low.f lowe; split <;> rfl
theorem one_cases (f : Int) : (one f = 8388608 ∧ sgn f = 2147483648 ∧ lowe f = -149 ∧ (if f = 1 then (23 : Int) else 52) = 23) ∨ (one f = 4503599627370496 ∧ sgn f = 9223372036854775808 ∧ lowe f = -1074 ∧ (if f = 1 then (23 : Int) else 52) = 52) := by
  unfold one sgn lowe
  by_cases h : f = 1
  · left; simp [h]
  · right; simp [h]
theorem one_toNat (f : Int) : (((one f).toNat : Nat) : Int) = one f ∧ 0 < (one f).toNat := by
  rcases one_cases f with ⟨h, _⟩ | ⟨h, _⟩ <;> rw [h] <;> decide
theorem small_cap {y : Nat} (h : y < 9007199254740992) : y < 2 ^ 53 := h
def capn : Nat := 2100
theorem pow_cap {y j C : Nat} (hy : y < 2 ^ 53) (hj : j + 53 ≤ C) : 2 ^ j * y < 2 ^ C := by
  have h1 : 2 ^ j * y < 2 ^ j * 2 ^ 53 := Nat.mul_lt_mul_of_pos_left hy (Nat.two_pow_pos _)
  rw [← Nat.pow_add] at h1
  exact Nat.lt_of_lt_of_le h1 (Nat.pow_le_pow_right (by decide) hj)
theorem magn_cap {f s : Int} (h0 : 0 ≤ s) (h1 : s < sgn f) : magn (one f).toNat s.toNat < 2 ^ capn := by
  have hm : s.toNat % (one f).toNat < (one f).toNat := Nat.mod_lt _ (one_toNat f).2
  have ho : (one f).toNat ≤ 4503599627370496 := by rcases one_cases f with ⟨h, _⟩ | ⟨h, _⟩ <;> rw [h] <;> decide
  have hq : s.toNat / (one f).toNat ≤ 2048 := by
    apply Nat.div_le_of_le_mul
    rcases one_cases f with ⟨h, g, _⟩ | ⟨h, g, _⟩
    · rw [h]; rw [g] at h1
      have : (8388608 : Int).toNat = 8388608 := rfl
      rw [this]; omega
    · rw [h]; rw [g] at h1
      have : (4503599627370496 : Int).toNat = 4503599627370496 := rfl
      rw [this]; omega
  unfold magn
  generalize s.toNat / (one f).toNat = E at *
  generalize s.toNat % (one f).toNat = F at *
  generalize (one f).toNat = P at *
  have base : ∀ y j : Nat, y < 2 ^ 53 → j ≤ 2047 → 2 ^ j * y < 2 ^ capn := by
    intro y j hy hj
    exact pow_cap hy (show j + 53 ≤ capn by unfold capn; omega)
  split
  · have := base F 0 (small_cap (by omega)) (by omega)
    rw [Nat.pow_zero, Nat.one_mul] at this
    exact this
  · exact base (P + F) (E - 1) (small_cap (by omega)) (by omega)
/-- the value of a finite word, in least units -/
def zv (f w : Int) : Int := zs (decide (w ≥ sgn f)) (magn (one f).toNat (w % sgn f).toNat)
theorem ref_Value {f w : Int} (h : Gd f w) (k : Nat) (hk : 500001 < k) : cutplaneref03_Value.f k f w = some (fm (decide (w ≥ sgn f)) (magn (one f).toNat (w % sgn f).toNat) (lowe f)) := by
  have hs := size_pos f w
  have ho := one_toNat f
  have hcap := magn_cap hs.1 hs.2
  have eS : w % one f = w % sgn f % one f := by
    rcases one_cases f with ⟨a, b, _⟩ | ⟨a, b, _⟩ <;> rw [a, b] <;> omega
  unfold cutplaneref03_Value.f
  rw [ref_Split f h.u, ref_Low3]
  simp only [Option.bind_some]
  rw [eS]
  generalize w % sgn f = s at *
  have hF : s % one f = ((s.toNat % (one f).toNat : Nat) : Int) := by
    rw [Int.natCast_emod, ho.1, Int.toNat_of_nonneg hs.1]
  have hE : s / one f = ((s.toNat / (one f).toNat : Nat) : Int) := by
    rw [Int.natCast_ediv, ho.1, Int.toNat_of_nonneg hs.1]
  have hm : s.toNat % (one f).toNat < (one f).toNat := Nat.mod_lt _ ho.2
  have hlow : -1100 < lowe f ∧ lowe f < 0 ∧ (one f).toNat ≤ 4503599627370496 := by rcases one_cases f with ⟨a, _, b, _⟩ | ⟨a, _, b, _⟩ <;> rw [a, b] <;> decide
  rw [hF, hE]
  unfold magn at *
  generalize s.toNat / (one f).toNat = E at *
  generalize s.toNat % (one f).toNat = F at *
  by_cases z : E = 0
  · rw [if_pos z] at hcap ⊢
    rw [if_pos (by omega), ref_Of (by omega) (by omega) k (by omega), Option.bind_some, Int.toNat_natCast, ref_Form hcap (by decide) (by omega) (by omega) k (by omega)]
    rfl
  · rw [if_neg z] at hcap ⊢
    have hcap2 : (one f).toNat + F < 2 ^ capn := by
      exact Nat.lt_of_le_of_lt (Nat.le_mul_of_pos_left _ (Nat.two_pow_pos _)) hcap
    have hEb : E < 2200 := by
      have h1 : 2 ^ (E - 1) * 1 ≤ 2 ^ (E - 1) * ((one f).toNat + F) := Nat.mul_le_mul_left _ (by omega)
      rw [Nat.mul_one] at h1
      have : E - 1 < capn := (Nat.pow_lt_pow_iff_right (by decide)).1 (Nat.lt_of_le_of_lt h1 hcap)
      unfold capn at this
      omega
    have hsh : shl .u64 1 (if f = 1 then (23 : Int) else 52) = (((one f).toNat : Nat) : Int) := by
      rcases one_cases f with ⟨a, _, _, b⟩ | ⟨a, _, _, b⟩
      · rw [a, b]; decide +kernel
      · rw [a, b]; decide +kernel
    have w1 : wrap64 (wrap64 ((E : Int) - 1) + lowe f) = lowe f + ((E - 1 : Nat) : Int) := by unfold wrap64; omega
    have w2 : IntKind.u64.wrap ((((one f).toNat : Nat) : Int) + ((F : Nat) : Int)) = (((one f).toNat + F : Nat) : Int) := by rw [wrapu64]; omega
    rw [if_neg (by omega), ref_Frac, Option.bind_some, if_pos (by split <;> decide), hsh, w1, w2, ref_Of (by omega) (by omega) k (by omega), Option.bind_some, Int.toNat_natCast, ref_Form hcap2 (by decide) (by omega) (by omega) k (by omega), fm_shift]
    rfl
theorem cmpz_i (x y : Int) : cmpz x y = cmpi x y := rfl
theorem zv_lt {f a b : Int} (h : plc f a < plc f b) : zv f a < zv f b := by
  have ha := size_pos f a
  have hb := size_pos f b
  have ho := (one_toNat f).2
  have mono : ∀ {x y : Int}, 0 ≤ x → x < y → magn (one f).toNat x.toNat < magn (one f).toNat y.toNat := fun h0 h1 => magn_mono ho (by omega)
  have z0 : magn (one f).toNat (0 : Int).toNat = 0 := magn_zero ho
  unfold plc at h
  unfold zv zs
  generalize a % sgn f = x at *
  generalize b % sgn f = y at *
  have nn : ∀ {x : Int}, 0 < x → 0 < magn (one f).toNat x.toNat := fun h0 => by have := mono (x := 0) (by omega) h0; omega
  by_cases ca : a ≥ sgn f
  · rw [if_pos ca] at h
    rw [if_pos (by simpa using ca)]
    by_cases cb : b ≥ sgn f
    · rw [if_pos cb] at h
      rw [if_pos (by simpa using cb)]
      have := mono hb.1 (show y < x by omega)
      omega
    · rw [if_neg cb] at h
      rw [if_neg (by simpa using cb)]
      by_cases c : 0 < x
      · have := nn c; omega
      · have : x = 0 := by omega
        subst this
        have := nn (show 0 < y by omega)
        rw [z0]; omega
  · rw [if_neg ca] at h
    rw [if_neg (by simpa using ca)]
    by_cases cb : b ≥ sgn f
    · rw [if_pos cb] at h; omega
    · rw [if_neg cb] at h
      rw [if_neg (by simpa using cb)]
      have := mono ha.1 (show x < y by omega)
      omega
theorem zv_eq {f a b : Int} (h : plc f a = plc f b) : zv f a = zv f b := by
  have ha := size_pos f a
  have hb := size_pos f b
  have ho := (one_toNat f).2
  have z0 : magn (one f).toNat (0 : Int).toNat = 0 := magn_zero ho
  unfold plc at h
  unfold zv zs
  generalize a % sgn f = x at *
  generalize b % sgn f = y at *
  by_cases ca : a ≥ sgn f
  · rw [if_pos ca] at h
    rw [if_pos (by simpa using ca)]
    by_cases cb : b ≥ sgn f
    · rw [if_pos cb] at h
      rw [if_pos (by simpa using cb)]
      have : x = y := by omega
      rw [this]
    · rw [if_neg cb] at h
      rw [if_neg (by simpa using cb)]
      have h1 : x = 0 := by omega
      have h2 : y = 0 := by omega
      rw [h1, h2, z0]; rfl
  · rw [if_neg ca] at h
    rw [if_neg (by simpa using ca)]
    by_cases cb : b ≥ sgn f
    · rw [if_pos cb] at h
      rw [if_pos (by simpa using cb)]
      have h1 : x = 0 := by omega
      have h2 : y = 0 := by omega
      rw [h1, h2, z0]; rfl
    · rw [if_neg cb] at h
      rw [if_neg (by simpa using cb)]
      have : x = y := by omega
      rw [this]
theorem zv_cmp (f a b : Int) : cmpi (zv f a) (zv f b) = cmpi (plc f a) (plc f b) := by
  have h1 := cmpi_bd (plc f a) (plc f b)
  have h2 := cmpi_bd (zv f a) (zv f b)
  rcases Int.lt_trichotomy (plc f a) (plc f b) with h | h | h
  · have := zv_lt h; omega
  · have := zv_eq h; omega
  · have := zv_lt h; omega
theorem ref_Cmp7 {f a b : Int} (ha : Gd f a) (hb : Gd f b) (k : Nat) (hk : 500010 < k) : cutplaneref07_Cmp.f k f a b = some (cmpf f a b) := by
  obtain ⟨k, rfl⟩ : ∃ j, k = j + 3 := ⟨k - 3, by omega⟩
  have ga := gd_lt ha
  have gb := gd_lt hb
  have hs := sgn_cases f
  have hi := infw_lt f
  have za := sz_lo ha
  have zb := sz_lo hb
  have hbd := cmpi_bd (plc f a) (plc f b)
  unfold cutplaneref07_Cmp.f cmpf
  rw [show k + 3 = (k + 2) + 1 from rfl, ref_Class (k + 2) f ha.u, ref_Class (k + 2) f hb.u, Option.bind_some, Option.bind_some]
  by_cases ca : cl f a = 5
  · rw [if_pos ca, if_pos (.inl ca), cutplaneref07_Cmp.j0, if_pos rfl]
  by_cases cb : cl f b = 5
  · have e : (cl f b == 5) = true := by simp [cb]
    rw [if_neg ca, if_pos (.inr cb), e, cutplaneref07_Cmp.j0, if_pos rfl]
  have a5 : a % sgn f ≤ infw f := by have := mt (cl5 f a).2 ca; omega
  have b5 : b % sgn f ≤ infw f := by have := mt (cl5 f b).2 cb; omega
  have e : (cl f b == 5) = false := by simp [cb]
  have pa : (a < sgn f ∧ plc f a = a) ∨ (sgn f ≤ a ∧ plc f a = sgn f - a) := by
    unfold plc
    rcases za with ⟨u, v⟩ | ⟨u, v⟩
    · left; rw [if_neg (by omega)]; omega
    · right; rw [if_pos (by omega)]; omega
  have pb : (b < sgn f ∧ plc f b = b) ∨ (sgn f ≤ b ∧ plc f b = sgn f - b) := by
    unfold plc
    rcases zb with ⟨u, v⟩ | ⟨u, v⟩
    · left; rw [if_neg (by omega)]; omega
    · right; rw [if_pos (by omega)]; omega
  rw [if_neg ca, if_neg (by simp [ca, cb]), e, cutplaneref07_Cmp.j0, if_neg (by decide)]
  by_cases cab : a = b
  · subst cab
    rw [if_pos rfl]; exact congrArg some (by omega)
  rw [if_neg cab, ref_Inf, ref_Inf]
  simp only [Option.bind_some, Bool.false_eq_true, if_false, if_true]
  by_cases c1 : a = infw f ∨ b = infw f + sgn f
  · have j1 : ∀ x : Bool, x = true → cutplaneref07_Cmp.j1 (k + 2) f a b x = some 3 := by
      intro x hx; rw [show k + 2 = (k + 1) + 1 from rfl, cutplaneref07_Cmp.j1, if_pos hx]
    have e3 : 2 + cmpi (plc f a) (plc f b) = 3 := by omega
    rw [e3]
    by_cases c2 : a = infw f
    · rw [if_pos c2]; exact j1 true rfl
    · rw [if_neg c2]
      have : b = infw f + sgn f := by rcases c1 with h | h; exact absurd h c2; exact h
      exact j1 _ (by simp [this])
  · have n1 : ¬ a = infw f := fun h => c1 (.inl h)
    have n2 : (b == infw f + sgn f) = false := by simp; exact fun h => c1 (.inr h)
    rw [if_neg n1, n2, show k + 2 = (k + 1) + 1 from rfl, cutplaneref07_Cmp.j1, if_neg (by decide), ref_Inf, ref_Inf]
    simp only [Option.bind_some, Bool.false_eq_true, if_false, if_true]
    by_cases c2 : b = infw f ∨ a = infw f + sgn f
    · have j2 : ∀ x : Bool, x = true → cutplaneref07_Cmp.j2 (k + 1) f a b x = some 1 := by
        intro x hx; rw [cutplaneref07_Cmp.j2, if_pos hx]
      have e1 : 2 + cmpi (plc f a) (plc f b) = 1 := by omega
      rw [e1]
      by_cases c3 : b = infw f
      · rw [if_pos c3]; exact j2 true rfl
      · rw [if_neg c3]
        have : a = infw f + sgn f := by rcases c2 with h | h; exact absurd h c3; exact h
        exact j2 _ (by simp [this])
    · have n3 : ¬ b = infw f := fun h => c2 (.inl h)
      have n4 : (a == infw f + sgn f) = false := by simp; exact fun h => c2 (.inr h)
      have ca1 := magn_cap (size_pos f a).1 (size_pos f a).2
      have cb1 := magn_cap (size_pos f b).1 (size_pos f b).2
      have hl : -1000000000000 < lowe f ∧ lowe f < 1000000000000 := by unfold lowe; split <;> decide
      rw [if_neg n3, n4, cutplaneref07_Cmp.j2, if_neg (by decide), ref_Value ha k (by omega), Option.bind_some, ref_Value hb k (by omega), Option.bind_some, ref_Cmp_fm ca1 cb1 (by decide) hl.1 hl.2 k (by omega), Option.bind_some, cmpz_i]
      have ez : cmpi (zs (decide (a ≥ sgn f)) (magn (one f).toNat (a % sgn f).toNat)) (zs (decide (b ≥ sgn f)) (magn (one f).toNat (b % sgn f).toNat)) = cmpi (plc f a) (plc f b) := zv_cmp f a b
      rw [ez]
      generalize cmpi (plc f a) (plc f b) = c at *
      by_cases d1 : c < 0
      · rw [if_pos d1]; exact congrArg some (by omega)
      · rw [if_neg d1]
        by_cases d2 : c > 0
        · rw [if_pos d2]; exact congrArg some (by omega)
        · rw [if_neg d2]; exact congrArg some (by omega)
end Go.Proofs.Ytnjdaoeebhbmfaa.PA
end

section
namespace Go.Proofs.Ytnjdaoeebhbmfaa.PA
open Go.RowKit Go.Proofs.YtnjdaoeebhbmfaaW.PrintWords Go.Proofs.YtnjdaoeebhbmfaaW.PrintLast Go.Proofs.YtnjdaoeebhbmfaaW.PrintMore Go.Proofs.Ytnjdaoeebhbmfaa.Wd
theorem ref_Total7 {f a b : Int} (ha : Gd f a) (hb : Gd f b) (k : Nat) (hk : 500010 < k) : cutplaneref07_Total.f k f a b = some (tot f a b) := by
  obtain ⟨j, rfl⟩ : ∃ j, k = j + 1 := ⟨k - 1, by omega⟩
  have ga := gd_lt ha
  have gb := gd_lt hb
  have hs := sgn_cases f
  have pa := plc_cases ha
  have pb := plc_cases hb
  unfold cutplaneref07_Total.f tot
  rw [ref_Class j f ha.u, ref_Class j f hb.u, ref_Cmp7 ha hb (j + 1) hk, ref_Split f ha.u]
  simp only [Option.bind_some]
  by_cases ca : cl f a = 5
  · rw [if_pos ca, if_pos ca]
    by_cases cb : cl f b = 5
    · rw [if_pos cb, if_pos cb]
    · rw [if_neg cb, if_neg cb, if_neg (show ¬ (a = b) from fun e => cb (by rw [← e]; exact ca))]
  · rw [if_neg ca, if_neg ca]
    by_cases cab : a = b
    · subst cab
      rw [if_pos rfl, if_neg ca, cmpi_eq, if_pos rfl, cmpi_eq]
    · rw [if_neg cab]
      by_cases cb : cl f b = 5
      · rw [if_pos cb, if_pos cb]
      · rw [if_neg cb, if_neg cb]
        have ec : cmpf f a b = 2 + cmpi (plc f a) (plc f b) := by unfold cmpf; rw [if_neg (by simp [ca, cb])]
        rw [ec]
        have hbd := cmpi_bd (plc f a) (plc f b)
        have hb2 := cmpi_bd b a
        generalize cmpi (plc f a) (plc f b) = c at *
        rcases hbd with ⟨rfl, h⟩ | ⟨rfl, h⟩ | ⟨rfl, h⟩
        · rw [if_pos (by decide), if_neg (by decide)]
        · rw [if_neg (by decide), if_neg (by decide), if_neg (by decide)]
        · rw [if_neg (by decide), if_pos (by decide), if_pos rfl]
          by_cases d : a ≥ sgn f
          · rw [if_pos (by simpa using d)]; exact congrArg some (by omega)
          · rw [if_neg (by simpa using d)]; exact congrArg some (by omega)
end Go.Proofs.Ytnjdaoeebhbmfaa.PA
namespace Go.Proofs.Ytnjdaoeebhbmfaa.Pure
open Go.RowKit Go.Proofs.Ytnjdaoeebhbmfaa.PA Go.Proofs.YtnjdaoeebhbmfaaW.PrintWords Go.Proofs.YtnjdaoeebhbmfaaW.PrintLast Go.Proofs.Ytnjdaoeebhbmfaa.Wd
end Go.Proofs.Ytnjdaoeebhbmfaa.Pure
end

section
namespace Go.Proofs.Ytnjdaoeebhbmfaa.Pure
open Go.RowKit Go.Proofs.Ytnjdaoeebhbmfaa.PA Go.Proofs.YtnjdaoeebhbmfaaW.PrintWords Go.Proofs.YtnjdaoeebhbmfaaW.PrintLast Go.Proofs.Ytnjdaoeebhbmfaa.Wd
theorem ref_Min7 {f a b : Int} (ha : Gd f a) (hb : Gd f b) (k : Nat) (hk : 500010 < k) : cutplaneref07_Min.f k f a b = some (minw f a b) := by
  obtain ⟨j, rfl⟩ : ∃ j, k = j + 1 := ⟨k - 1, by omega⟩
  have hbd := cmpi_bd (key f a) (key f b)
  unfold cutplaneref07_Min.f minw
  rw [ref_Class j f ha.u, ref_Class j f hb.u, ref_Canon j f hb.u, ref_Total7 ha hb (j + 1) hk, tot_key ha hb]
  simp only [Option.bind_some]
  by_cases ca : cl f a = 5
  · rw [if_pos ca, if_pos ca]
  · rw [if_neg ca, if_neg ca]
    by_cases cb : cl f b = 5
    · rw [if_pos cb, if_pos cb]
    · rw [if_neg cb, if_neg cb]
      by_cases c : key f a ≤ key f b
      · rw [if_pos c, if_pos (by omega)]
      · rw [if_neg c, if_neg (by omega)]
theorem ref_Max7 {f a b : Int} (ha : Gd f a) (hb : Gd f b) (k : Nat) (hk : 500010 < k) : cutplaneref07_Max.f k f a b = some (maxw f a b) := by
  obtain ⟨j, rfl⟩ : ∃ j, k = j + 1 := ⟨k - 1, by omega⟩
  have hbd := cmpi_bd (key f a) (key f b)
  unfold cutplaneref07_Max.f maxw
  rw [ref_Class j f ha.u, ref_Class j f hb.u, ref_Canon j f hb.u, ref_Total7 ha hb (j + 1) hk, tot_key ha hb]
  simp only [Option.bind_some]
  by_cases ca : cl f a = 5
  · rw [if_pos ca, if_pos ca]
  · rw [if_neg ca, if_neg ca]
    by_cases cb : cl f b = 5
    · rw [if_pos cb, if_pos cb]
    · rw [if_neg cb, if_neg cb]
      by_cases c : key f b ≤ key f a
      · rw [if_pos c, if_pos (by omega)]
      · rw [if_neg c, if_neg (by omega)]
theorem RankExtremes : cutplanelaw07_RankExtremes.Pure := by
  intro f a b _ ha hb
  have ua := u_of ha
  have ub := u_of hb
  refine ⟨500100, ?_⟩
  unfold cutplanelaw07_RankExtremes.f
  rw [ref_Opens f [a, b] (by simp) 500100 (by simp), known07 500095]
  by_cases he : errl f [a, b] = 0
  · have hg := (errl_zero he (by simp [ua, ub])).2
    have ga := hg a (by simp)
    have gb := hg b (by simp)
    rw [min_good 500095 ga gb, max_good 500095 ga gb, ref_Min7 ga gb 500100 (by omega), ref_Max7 ga gb 500100 (by omega)]
    simp only [Option.bind_some, if_pos he, if_true]
  · rw [min_bad 500095 ua ub he, max_bad 500095 ua ub he]
    simp only [Option.bind_some, if_neg he, if_true]
end Go.Proofs.Ytnjdaoeebhbmfaa.Pure
end
