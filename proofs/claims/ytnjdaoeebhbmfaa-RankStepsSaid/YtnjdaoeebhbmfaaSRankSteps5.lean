/- Steps of Go functions that the law RankSteps uses, told as plain Lean functions, each with the proof that its call comes to what it tells; words on memory; plain facts. No condition beyond those that each text names. -/
import Derived.Laws.BitsAllLaws
import Derived.Laws.BitsLemmas
import Derived.OpenShut
import Derived.Test.YtnjdaoeebhbmfaaProg
import Derived.Below
import Derived.Deep.Draws
import Derived.Deep.AppendLies
import Derived.Maps.AppendAt
import Derived.OwnWalk
import Derived.Laws.BytesArg
import Derived.Laws.MakeOwn
import Derived.Laws.OwnMore
import Derived.Deep.OwnRows
import Derived.Tactics
import Derived.Lib.ConvBytes
import Derived.Laws.Slices
import Derived.WalkKit
import Derived.KernelRfl
import Derived.RowKit3
import Derived.Deep.LoopGhost
import Derived.Deep.QuietTactic
import Derived.BigQuiet
import Derived.WideLaws
import Derived.Deep.DeepCutAuto
import Derived.Deep.CutBlock
import Derived.Deep.RegionHeld3
import Derived.Laws.Rows
import Derived.Lib.AppendStr
import Derived.ArgAppend
import Derived.Laws.IdiomCopy
import Derived.OrdersHeld
import Derived.RowKit
import Derived.Laws.StructEq
import Derived.Test.YtnjdaoeebhbmfaaSRankSteps0
import Derived.Test.YtnjdaoeebhbmfaaSRankSteps1
import Derived.Test.YtnjdaoeebhbmfaaSRankSteps2
import Derived.Test.YtnjdaoeebhbmfaaSRankSteps3
import Derived.Test.YtnjdaoeebhbmfaaSRankSteps4
section
namespace Go.Proofs.Ytnjdaoeebhbmfaa.PA
open Go.RowKit Go.Proofs.YtnjdaoeebhbmfaaW.PrintWords Go.Proofs.YtnjdaoeebhbmfaaW.PrintLast Go.Proofs.YtnjdaoeebhbmfaaW.PrintMore Go.Proofs.Ytnjdaoeebhbmfaa.Wd
set_option linter.unusedSimpArgs false
set_option linter.unusedVariables false
theorem rd_get (l : List Int) (i : Nat) (h : i < l.length) : rd l (i : Int) = l[i] := by
  unfold rd
  simp [h]
def okw (f w : Int) : Bool := decide (err f w = 0)
def errl (f : Int) (l : List Int) : Int := if f = 1 ∨ f = 2 then (if l.all (okw f) then 0 else 6) else 4
theorem err_fmt {f w : Int} (hf : f = 1 ∨ f = 2) : err f w = 0 ∨ err f w = 6 := by
  unfold err
  rcases hf with rfl | rfl
  · simp only [if_true]; split <;> simp
  · simp
theorem open_loop (f : Int) (l : List Int) (hf : f = 1 ∨ f = 2) (hl : l.length < 4611686018427387904) (hu : ∀ w ∈ l, U w) (d : Nat) : ∀ (k i : Nat), i ≤ l.length → l.length - i = d → d + 2 < k →
    rank_open.l0 k f l (l.length : Int) (i : Int) = some (if (l.drop i).all (okw f) then 0 else 6) := by
  induction d with
  | zero =>
    intro k i hi hd hk
    obtain ⟨k, rfl⟩ : ∃ m, k = m + 1 := ⟨k - 1, by omega⟩
    have e : i = l.length := by omega
    subst e
    simp only [rank_open.l0]
    rw [if_neg (by omega)]
    simp
  | succ d ih =>
    intro k i hi hd hk
    obtain ⟨k, rfl⟩ : ∃ m, k = m + 1 := ⟨k - 1, by omega⟩
    have hlt : i < l.length := by omega
    have hg : word_Good.f k f l[i] = some (err f l[i]) := by
      obtain ⟨j, rfl⟩ : ∃ j, k = j + 2 := ⟨k - 2, by omega⟩
      exact good_word (k := j) (f := f) (hu l[i] (List.getElem_mem hlt))
    have w1 : wrap64 ((i : Int) + 1) = ((i + 1 : Nat) : Int) := by unfold wrap64; omega
    have hd : l.drop i = l[i] :: l.drop (i + 1) := List.drop_eq_getElem_cons hlt
    simp only [rank_open.l0]
    rw [if_pos (by omega), if_pos (by omega), if_pos (by omega), rd_get l i hlt, hg, w1]
    simp only [Option.bind_some]
    rw [ih k (i + 1) (by omega) (by omega) (by omega), hd]
    rcases err_fmt (w := l[i]) hf with e | e
    · rw [if_pos e, List.all_cons, show okw f l[i] = true from decide_eq_true e, Bool.true_and]
    · rw [if_neg (by omega), List.all_cons, show okw f l[i] = false from decide_eq_false (by omega), Bool.false_and, e]; rfl
theorem open_list (f : Int) (l : List Int) (hl : l.length < 4611686018427387904) (hu : ∀ w ∈ l, U w) (k : Nat) (hk : l.length + 2 < k) : rank_open.f k f l = some (errl f l) := by
  obtain ⟨j, rfl⟩ : ∃ m, k = m + 1 := ⟨k - 1, by omega⟩
  unfold rank_open.f errl
  by_cases hf : f = 1 ∨ f = 2
  · rw [none_good j hf, if_pos hf]
    simp only [Option.bind_some, if_true]
    have := open_loop f l hf hl hu l.length (j + 1) 0 (by omega) (by omega) (by omega)
    rw [show ((0 : Nat) : Int) = 0 from rfl] at this
    rw [this]; simp
  · rw [none_nof j hf, if_neg hf]
    simp only [Option.bind_some]
    rw [if_neg (by decide)]
theorem opens_loop (f : Int) (l : List Int) (hl : l.length < 4611686018427387904) (d : Nat) : ∀ (k i : Nat), i ≤ l.length → l.length - i = d → d < k →
    cutplaneref07_Opens.l0 k f l (i : Int) = some (if (l.drop i).all (okw f) then 0 else 6) := by
  induction d with
  | zero =>
    intro k i hi hd hk
    obtain ⟨k, rfl⟩ : ∃ m, k = m + 1 := ⟨k - 1, by omega⟩
    have e : i = l.length := by omega
    subst e
    simp only [cutplaneref07_Opens.l0]
    rw [if_neg (by omega)]
    simp
  | succ d ih =>
    intro k i hi hd hk
    obtain ⟨k, rfl⟩ : ∃ m, k = m + 1 := ⟨k - 1, by omega⟩
    have hlt : i < l.length := by omega
    have w1 : wrap64 ((i : Int) + 1) = ((i + 1 : Nat) : Int) := by unfold wrap64; omega
    have hd : l.drop i = l[i] :: l.drop (i + 1) := List.drop_eq_getElem_cons hlt
    simp only [cutplaneref07_Opens.l0]
    rw [if_pos (by omega), if_pos (by omega), rd_get l i hlt, ref_Good, w1]
    simp only [Option.bind_some]
    rw [ih k (i + 1) (by omega) (by omega) (by omega), hd]
    by_cases e : err f l[i] = 0
    · rw [if_pos e, List.all_cons, show okw f l[i] = true from decide_eq_true e, Bool.true_and]
    · rw [if_neg e, List.all_cons, show okw f l[i] = false from decide_eq_false e, Bool.false_and]; rfl
theorem ref_Opens (f : Int) (l : List Int) (hl : l.length < 4611686018427387904) (k : Nat) (hk : l.length < k) : cutplaneref07_Opens.f k f l = some (errl f l) := by
  unfold cutplaneref07_Opens.f errl
  rw [ref_Is]
  by_cases hf : f = 1 ∨ f = 2
  · have := opens_loop f l hl l.length k 0 (by omega) (by omega) (by omega)
    rw [show ((0 : Nat) : Int) = 0 from rfl] at this
    simp only [Option.bind_some, hf, decide_true, if_true, this]
    simp
  · simp [hf]
theorem errl_zero {f : Int} {l : List Int} (h : errl f l = 0) (hu : ∀ w ∈ l, U w) : (f = 1 ∨ f = 2) ∧ ∀ w ∈ l, Gd f w := by
  unfold errl at h
  by_cases hf : f = 1 ∨ f = 2
  · rw [if_pos hf] at h
    refine ⟨hf, fun w hw => ?_⟩
    by_cases ha : l.all (okw f) = true
    · have := List.all_eq_true.1 ha w hw
      exact gd_of (of_decide_eq_true this) (hu w hw)
    · rw [if_neg ha] at h; exact absurd h (by decide)
  · rw [if_neg hf] at h; exact absurd h (by decide)
theorem errl_good {f : Int} {l : List Int} (hf : f = 1 ∨ f = 2) (h : ∀ w ∈ l, Gd f w) : errl f l = 0 := by
  unfold errl
  rw [if_pos hf, if_pos]
  exact List.all_eq_true.2 fun w hw => decide_eq_true (h w hw).err
theorem gd_f {f w : Int} (h : Gd f w) : f = 1 ∨ f = 2 := by rcases h with ⟨e, _⟩ | ⟨e, _⟩ <;> simp [e]
theorem isnan_good (k : Nat) {f w : Int} (h : Gd f w) : rank_isNaN.f (k + 2) f w = some (cl f w == 5) := by
  unfold rank_isNaN.f
  rw [class_good k h]; rfl
/-- the place of a word that is no NaN -/
def plc (f w : Int) : Int := if w ≥ sgn f then -(w % sgn f) else w % sgn f
theorem plc_bd (f w : Int) : -9223372036854775807 ≤ plc f w ∧ plc f w ≤ 9223372036854775807 := by
  have : 0 ≤ w % sgn f ∧ w % sgn f < sgn f := by rcases sgn_cases f with h | h <;> rw [h] <;> omega
  have hs := sgn_cases f
  unfold plc
  split <;> omega
theorem sz_lo {f w : Int} (h : Gd f w) : (w < sgn f ∧ w % sgn f = w) ∨ (sgn f ≤ w ∧ w % sgn f = w - sgn f) := by
  have hf := gd_f h
  unfold sgn
  rcases h with ⟨rfl, h0, h1⟩ | ⟨rfl, h0, h1⟩
  · simp only [if_true]; omega
  · simp only [show (¬ ((2 : Int) = 1)) by decide, if_false]; omega
theorem place_good (k : Nat) {f w : Int} (h : Gd f w) (hn : cl f w ≠ 5) : rank_place.f (k + 2) f w = some (plc f w) := by
  have hs := sgn_cases f
  have hz := sz_lo h
  have hp : 0 ≤ w % sgn f ∧ w % sgn f < sgn f := by rcases hs with h | h <;> rw [h] <;> omega
  unfold rank_place.f
  rw [abs_good k h]
  have e : absw f w = w % sgn f := by unfold absw; rw [if_neg hn]
  simp only [Option.bind_some, e]
  unfold plc
  have w1 : wrap64 (w % sgn f) = w % sgn f := by unfold wrap64; omega
  have w2 : wrap64 (-(w % sgn f)) = -(w % sgn f) := by unfold wrap64; omega
  by_cases c : w ≥ sgn f
  · rw [if_neg (by omega), if_pos c, w1, w2]
  · rw [if_pos (by omega), if_neg c, w1]
def cmpi (x y : Int) : Int := if x < y then -1 else if x > y then 1 else 0
theorem compare_i (x y : Int) : cmp_Compare_int64.f x y = some (cmpi x y) := by
  unfold cmp_Compare_int64.f cmp_isNaN_int64.f cmpi
  simp
  repeat' split
  all_goals rfl
theorem cmpi_bd (x y : Int) : (cmpi x y = -1 ∧ x < y) ∨ (cmpi x y = 1 ∧ y < x) ∨ (cmpi x y = 0 ∧ x = y) := by
  unfold cmpi
  by_cases h : x < y
  · simp [h]
  · by_cases g : x > y
    · simp [h, g] <;> omega
    · simp [h, g] <;> omega
def cmpf (f a b : Int) : Int := if cl f a = 5 ∨ cl f b = 5 then 4 else 2 + cmpi (plc f a) (plc f b)
theorem rank_Cmp_good (k : Nat) {f a b : Int} (ha : Gd f a) (hb : Gd f b) : rank_Cmp.f (k + 5) f a b = some (cmpf f a b, 0) := by
  have ho : rank_open.f (k + 5) f [a, b] = some 0 := by
    rw [open_list f [a, b] (by simp) (by simp [ha.u, hb.u]) (k + 5) (by simp <;> omega), errl_good (gd_f ha) (by simp [ha, hb])]
  unfold rank_Cmp.f cmpf
  rw [ho, isnan_good (k + 3) ha, isnan_good (k + 3) hb]
  simp only [Option.bind_some, if_true]
  by_cases ca : cl f a = 5
  · simp [ca, rank_Cmp.j0]
  · by_cases cb : cl f b = 5
    · simp [ca, cb, rank_Cmp.j0]
    · have := plc_bd f a
      have := plc_bd f b
      have e1 : (cl f a == 5) = false := by simp [ca]
      have e2 : (cl f b == 5) = false := by simp [cb]
      have p1 := place_good (k + 2) ha ca
      have p2 := place_good (k + 2) hb cb
      rw [e1, e2]
      simp only [ca, cb, or_self, if_false, Bool.false_eq_true, rank_Cmp.j0, p1, p2, Option.bind_some, compare_i]
      have := cmpi_bd (plc f a) (plc f b)
      rw [show (2 + cmpi (plc f a) (plc f b) % 256) % 256 = 2 + cmpi (plc f a) (plc f b) by omega]
/-- the total order -/
def tot (f a b : Int) : Int :=
  if cl f a = 5 then (if cl f b = 5 then 0 else 1) else if cl f b = 5 then -1 else
    if cmpi (plc f a) (plc f b) = 0 then cmpi b a else cmpi (plc f a) (plc f b)
theorem compare_u (x y : Int) : cmp_Compare_uint64.f x y = some (cmpi x y) := by
  unfold cmp_Compare_uint64.f cmp_isNaN_uint64.f cmpi
  simp
  repeat' split
  all_goals rfl
theorem rank_total_good (k : Nat) {f a b : Int} (ha : Gd f a) (hb : Gd f b) : rank_total.f (k + 3) f a b = some (tot f a b) := by
  unfold rank_total.f tot
  rw [isnan_good (k + 1) ha, isnan_good (k + 1) hb]
  simp only [Option.bind_some, rank_total.j0]
  by_cases ca : cl f a = 5
  · by_cases cb : cl f b = 5 <;> simp [ca, cb]
  · by_cases cb : cl f b = 5
    · simp [ca, cb]
    · simp [ca, cb, place_good k ha ca, place_good k hb cb, compare_i, compare_u]
      split <;> rfl
theorem rank_Total_good (k : Nat) {f a b : Int} (ha : Gd f a) (hb : Gd f b) : rank_Total.f (k + 5) f a b = some (tot f a b, 0) := by
  have ho : rank_open.f (k + 5) f [a, b] = some 0 := by
    rw [open_list f [a, b] (by simp) (by simp [ha.u, hb.u]) (k + 5) (by simp <;> omega), errl_good (gd_f ha) (by simp [ha, hb])]
  unfold rank_Total.f
  rw [ho, rank_total_good (k + 2) ha hb]
  simp
def stepsf (f a b : Int) : Int := if plc f a < plc f b then plc f b - plc f a else plc f a - plc f b
theorem rank_Steps_good (k : Nat) {f a b : Int} (ha : Gd f a) (hb : Gd f b) : rank_Steps.f (k + 5) f a b = some (if cl f a = 5 ∨ cl f b = 5 then (0, 7) else (stepsf f a b, 0)) := by
  have ho : rank_open.f (k + 5) f [a, b] = some 0 := by
    rw [open_list f [a, b] (by simp) (by simp [ha.u, hb.u]) (k + 5) (by simp <;> omega), errl_good (gd_f ha) (by simp [ha, hb])]
  unfold rank_Steps.f
  rw [ho, isnan_good (k + 3) ha, isnan_good (k + 3) hb]
  simp only [Option.bind_some, if_true]
  by_cases ca : cl f a = 5
  · simp [ca, rank_Steps.j0]
  · by_cases cb : cl f b = 5
    · simp [ca, cb, rank_Steps.j0]
    · have pa := plc_bd f a
      have pb := plc_bd f b
      have e1 : (cl f a == 5) = false := by simp [ca]
      have e2 : (cl f b == 5) = false := by simp [cb]
      rw [e1, e2]
      simp only [ca, cb, or_self, if_false, rank_Steps.j0, place_good (k + 2) ha ca, place_good (k + 2) hb cb, Option.bind_some, Bool.false_eq_true]
      congr 2
      unfold stepsf mx mn
      simp only [wrapu64]
      by_cases c : plc f a < plc f b
      · have d : ¬ plc f b < plc f a := by omega
        simp only [c, d, if_true, if_false]; omega
      · by_cases d : plc f b < plc f a
        · simp only [c, d, if_true, if_false]; omega
        · simp only [c, d, if_false]; omega
theorem rank_Steps_bad (k : Nat) {f a b : Int} (ha : U a) (hb : U b) (h : errl f [a, b] ≠ 0) : rank_Steps.f (k + 5) f a b = some (0, errl f [a, b]) := by
  unfold rank_Steps.f
  rw [open_list f [a, b] (by simp) (by simp [ha, hb]) (k + 5) (by simp <;> omega)]
  simp only [Option.bind_some]
  rw [if_neg h]
theorem known07 (k : Nat) : cutplanelaw07_known.f (k + 5) = some true := by
  unfold cutplanelaw07_known.f
  have h0 : Gd 1 0 := .inl ⟨rfl, by decide, by decide⟩
  have h1 : Gd 1 2147483648 := .inl ⟨rfl, by decide, by decide⟩
  have h2 : Gd 1 2147483649 := .inl ⟨rfl, by decide, by decide⟩
  have h3 : Gd 1 1 := .inl ⟨rfl, by decide, by decide⟩
  rw [rank_Cmp_good k h1 h0, rank_Total_good k h1 h0, rank_Steps_good k h2 h3]
  decide +kernel
end Go.Proofs.Ytnjdaoeebhbmfaa.PA
end

section
namespace Go.Proofs.Ytnjdaoeebhbmfaa.PA
open Go.RowKit Go.Proofs.YtnjdaoeebhbmfaaW.PrintWords Go.Proofs.YtnjdaoeebhbmfaaW.PrintLast Go.Proofs.YtnjdaoeebhbmfaaW.PrintMore Go.Proofs.Ytnjdaoeebhbmfaa.Wd
set_option linter.unusedSimpArgs false
set_option linter.unusedVariables false
theorem size_pos (f w : Int) : 0 ≤ w % sgn f ∧ w % sgn f < sgn f := by
  rcases sgn_cases f with h | h <;> rw [h] <;> omega
theorem cl5 (f w : Int) : cl f w = 5 ↔ infw f < w % sgn f := by
  have h := size_pos f w
  have hi := infw_lt f
  unfold cl cls
  repeat' split
  all_goals constructor <;> intro <;> first | omega | (exfalso; omega)
/-- a word lies below twice the sign -/
theorem gd_lt {f w : Int} (h : Gd f w) : 0 ≤ w ∧ w < 2 * sgn f ∧ (f = 1 ∨ f = 2) := by
  unfold sgn
  rcases h with ⟨rfl, h0, h1⟩ | ⟨rfl, h0, h1⟩
  · exact ⟨h0, by simp only [if_true]; omega, .inl rfl⟩
  · exact ⟨h0, by simp only [show (¬ ((2 : Int) = 1)) by decide, if_false]; omega, .inr rfl⟩
theorem gd_mk {f w : Int} (hf : f = 1 ∨ f = 2) (h0 : 0 ≤ w) (h1 : w < 2 * sgn f) : Gd f w := by
  unfold sgn at h1
  rcases hf with rfl | rfl
  · exact .inl ⟨rfl, h0, by simpa using h1⟩
  · exact .inr ⟨rfl, h0, by simpa using h1⟩
end Go.Proofs.Ytnjdaoeebhbmfaa.PA
end

section
namespace Go.Proofs.Ytnjdaoeebhbmfaa.PA
open Go.RowKit Go.Proofs.YtnjdaoeebhbmfaaW.PrintWords Go.Proofs.YtnjdaoeebhbmfaaW.PrintLast Go.Proofs.YtnjdaoeebhbmfaaW.PrintMore Go.Proofs.Ytnjdaoeebhbmfaa.Wd
set_option linter.unusedSimpArgs false
set_option linter.unusedVariables false
/-- a number for each word, by which the total order goes -/
def key (f w : Int) : Int := if cl f w = 5 then 36893488147419103232 else 2 * plc f w + (if w = 0 then 1 else 0)
theorem plc_cases {f w : Int} (h : Gd f w) : (w < sgn f ∧ plc f w = w) ∨ (sgn f ≤ w ∧ plc f w = sgn f - w) := by
  unfold plc
  rcases sz_lo h with ⟨a, b⟩ | ⟨a, b⟩
  · left; rw [if_neg (by omega)]; omega
  · right; rw [if_pos (by omega)]; omega
def mvw (f p n : Int) : Option Int := if (0 < n ∧ infw f - n < p) ∨ (n < 0 ∧ p < -infw f - n) then none else some (if p + n < 0 then sgn f - (p + n) else p + n)
theorem plc_inf {f w : Int} (h : Gd f w) (hn : cl f w ≠ 5) : -infw f ≤ plc f w ∧ plc f w ≤ infw f := by
  have c5 : w % sgn f ≤ infw f := by have := mt (cl5 f w).2 hn; omega
  have h0 := size_pos f w
  unfold plc
  split <;> omega
theorem move_good (k : Nat) {f w n : Int} (h : Gd f w) (b0 : -9223372036854775808 ≤ n) (b1 : n ≤ 9223372036854775807) :
    rank_Move.f (k + 5) f w n = some (if cl f w = 5 then ((0 : Int), (7 : Int)) else if n = 0 then (w, 0) else match mvw f (plc f w) n with | some v => (v, 0) | none => (0, 20)) := by
  have ho : rank_open.f (k + 5) f [w] = some 0 := by
    rw [open_list f [w] (by simp) (by simp [h.u]) (k + 5) (by simp <;> omega), errl_good (gd_f h) (by simp [h])]
  have hf := gd_f h
  unfold rank_Move.f
  rw [ho, isnan_good (k + 3) h]
  by_cases ca : cl f w = 5
  · simp [ca]
  · have hp := plc_inf h ca
    have hi := infw_lt f
    have hs := sgn_cases f
    have hb : (cl f w == 5) = false := by simp [ca]
    rw [place_good (k + 3) h ca, show k + 5 = (k + 4) + 1 from rfl, inf_good (k + 4) hf false, hb]
    simp only [Option.bind_some, if_true, Bool.false_eq_true, if_false, ca]
    have w1 : wrap64 (infw f) = infw f := by unfold wrap64; omega
    have w2 : wrap64 (-infw f) = -infw f := by unfold wrap64; omega
    rw [w1, w2]
    by_cases c0 : n = 0
    · rw [if_pos c0, if_pos c0]
    · rw [if_neg c0, if_neg c0]
      unfold mvw
      have key : ∀ x : Bool, ((plc f w) + n < -infw f ∨ infw f < plc f w + n ↔ x = true) → rank_Move.j0 (k + 4 + 1) f n (plc f w) x = some (match (if (0 < n ∧ infw f - n < plc f w) ∨ (n < 0 ∧ plc f w < -infw f - n) then none else some (if plc f w + n < 0 then sgn f - (plc f w + n) else plc f w + n)) with | some v => (v, 0) | none => (0, 20)) := by
        intro x hx
        cases x
        · have hc : ¬ ((plc f w) + n < -infw f ∨ infw f < plc f w + n) := by rw [hx]; decide
          rw [if_neg (by omega)]
          have w3 : wrap64 (plc f w + n) = plc f w + n := by unfold wrap64; omega
          have w4 : wrap64 (-(plc f w + n)) = -(plc f w + n) := by unfold wrap64; omega
          simp only [rank_Move.j0, Bool.false_eq_true, if_false, w3, w4, wrapu64]
          by_cases c : plc f w + n < 0
          · have g : Gd f (-(plc f w + n)) := gd_mk hf (by omega) (by omega)
            rw [if_pos c, if_pos c, Int.emod_eq_of_lt (by omega) (by omega), show k + 4 = (k + 2) + 2 from rfl, neg_good (k + 2) g]
            have z : cl f (-(plc f w + n)) ≠ 5 := by
              intro z
              have z5 := (cl5 f _).1 z
              have zs := sz_lo g
              omega
            have e : negw f (-(plc f w + n)) = sgn f - (plc f w + n) := by
              unfold negw flipw
              rw [if_neg z, if_neg (by omega)]; omega
            rw [e]; rfl
          · rw [if_neg c, if_neg c, Int.emod_eq_of_lt (by omega) (by omega)]
        · have hc : ((plc f w) + n < -infw f ∨ infw f < plc f w + n) := by rw [hx]
          rw [if_pos (by omega)]
          simp only [rank_Move.j0, if_true]
      by_cases c1 : n > 0
      · have w5 : wrap64 (infw f - n) = infw f - n := by unfold wrap64; omega
        rw [if_pos c1, w5]
        by_cases c2 : plc f w > infw f - n
        · rw [if_pos c2]; exact key true (by simp; omega)
        · rw [if_neg c2, if_neg (by omega)]; exact key false (by simp; omega)
      · have w6 : wrap64 (-infw f - n) = -infw f - n := by unfold wrap64; omega
        rw [if_neg c1, if_pos (by omega), w6]
        exact key _ (by simp; omega)
theorem move_bad (k : Nat) {f w n : Int} (hu : U w) (h : errl f [w] ≠ 0) : rank_Move.f (k + 5) f w n = some (0, errl f [w]) := by
  unfold rank_Move.f
  rw [open_list f [w] (by simp) (by simp [hu]) (k + 5) (by simp <;> omega)]
  simp only [Option.bind_some]
  rw [if_neg h]
theorem ref_Place {f w : Int} (h : Gd f w) : cutplaneref07_Place.f f w = some (plc f w) := by
  have hs := sgn_cases f
  have hz := size_pos f w
  unfold cutplaneref07_Place.f plc
  have h0 := gd_lt h
  have e1 : Int.tmod w (sgn f) = w % sgn f := Int.tmod_eq_emod_of_nonneg h0.1
  rw [ref_Sign, ref_Split f h.u]
  simp only [Option.bind_some, e1]
  have w1 : wrap64 (w % sgn f) = w % sgn f := by unfold wrap64; omega
  have w2 : wrap64 (-(w % sgn f)) = -(w % sgn f) := by unfold wrap64; omega
  rw [if_neg (by omega), w1, w2]
  by_cases c : w ≥ sgn f
  · rw [if_pos (by simp [c]), if_pos c]
  · rw [if_neg (by simp [c]), if_neg c]
theorem ref_Steps {f a b : Int} (ha : Gd f a) (hb : Gd f b) : cutplaneref07_Steps.f f a b = some (stepsf f a b) := by
  have pa := plc_cases ha
  have pb := plc_cases hb
  have ga := gd_lt ha
  have gb := gd_lt hb
  have hs := sgn_cases f
  have wr : ∀ z : Int, 0 ≤ z → z < 18446744073709551616 → wrap64 z % 18446744073709551616 = z := by intro z h0 h1; unfold wrap64; omega
  unfold cutplaneref07_Steps.f stepsf
  rw [ref_Place ha, ref_Place hb]
  simp only [Option.bind_some, wrapu64]
  by_cases c : plc f a < plc f b
  · rw [if_pos c, if_pos c, wr _ (by omega) (by omega)]
  · rw [if_neg c, if_neg c, wr _ (by omega) (by omega)]
theorem ref_Move (k : Nat) {f w n : Int} (h : Gd f w) (ca : cl f w ≠ 5) (b0 : -9223372036854775808 ≤ n) (b1 : n ≤ 9223372036854775807) :
    cutplaneref07_Move.f (k + 1) f w n = some (if n = 0 then (w, true) else match mvw f (plc f w) n with | some v => (v, true) | none => (0, false)) := by
  have hf := gd_f h
  have hp := plc_inf h ca
  have hi := infw_lt f
  have hs := sgn_cases f
  unfold cutplaneref07_Move.f
  rw [ref_Inf, ref_Place h]
  simp only [Option.bind_some, Bool.false_eq_true, if_false]
  have w1 : wrap64 (infw f) = infw f := by unfold wrap64; omega
  have w2 : wrap64 (-infw f) = -infw f := by unfold wrap64; omega
  rw [w1, w2]
  by_cases c0 : n = 0
  · rw [if_pos c0, if_pos c0]
  · rw [if_neg c0, if_neg c0]
    unfold mvw
    have key : ∀ x : Bool, ((plc f w) + n < -infw f ∨ infw f < plc f w + n ↔ x = true) → cutplaneref07_Move.j0 (k + 1) f n (plc f w) x = some (match (if (0 < n ∧ infw f - n < plc f w) ∨ (n < 0 ∧ plc f w < -infw f - n) then none else some (if plc f w + n < 0 then sgn f - (plc f w + n) else plc f w + n)) with | some v => (v, true) | none => (0, false)) := by
      intro x hx
      cases x
      · have hc : ¬ ((plc f w) + n < -infw f ∨ infw f < plc f w + n) := by rw [hx]; decide
        rw [if_neg (by omega)]
        have w3 : wrap64 (plc f w + n) = plc f w + n := by unfold wrap64; omega
        have w4 : wrap64 (-(plc f w + n)) = -(plc f w + n) := by unfold wrap64; omega
        simp only [cutplaneref07_Move.j0, Bool.false_eq_true, if_false, w3, w4, wrapu64]
        by_cases c : plc f w + n < 0
        · have g : Gd f (-(plc f w + n)) := gd_mk hf (by omega) (by omega)
          have zs := sz_lo g
          rw [if_pos c, if_pos c, Int.emod_eq_of_lt (by omega) (by omega), ref_Signed f g.u]
          simp only [Option.bind_some, if_true]
          rw [show -(plc f w + n) % sgn f + sgn f = sgn f - (plc f w + n) by omega]
        · rw [if_neg c, if_neg c, Int.emod_eq_of_lt (by omega) (by omega)]
      · have hc : ((plc f w) + n < -infw f ∨ infw f < plc f w + n) := by rw [hx]
        rw [if_pos (by omega)]
        simp only [cutplaneref07_Move.j0, if_true]
    by_cases c1 : n > 0
    · have w5 : wrap64 (infw f - n) = infw f - n := by unfold wrap64; omega
      rw [if_pos c1, w5]
      by_cases c2 : plc f w > infw f - n
      · rw [if_pos c2]; exact key true (by simp; omega)
      · rw [if_neg c2, if_neg (by omega)]; exact key false (by simp; omega)
    · have w6 : wrap64 (-infw f - n) = -infw f - n := by unfold wrap64; omega
      rw [if_neg c1, if_pos (by omega), w6]
      exact key _ (by simp; omega)
end Go.Proofs.Ytnjdaoeebhbmfaa.PA
end

section
namespace Go.Proofs.Ytnjdaoeebhbmfaa.Pure
open Go.RowKit Go.Proofs.Ytnjdaoeebhbmfaa.PA Go.Proofs.YtnjdaoeebhbmfaaW.PrintWords Go.Proofs.YtnjdaoeebhbmfaaW.PrintLast Go.Proofs.Ytnjdaoeebhbmfaa.Wd
set_option linter.unusedSimpArgs false
set_option linter.unusedVariables false
theorem errl_more {f a b : Int} (h : errl f [a] ≠ 0) : errl f [a, b] = errl f [a] := by
  unfold errl at *
  by_cases hf : f = 1 ∨ f = 2
  · rw [if_pos hf] at h ⊢
    rw [if_pos hf]
    by_cases c : okw f a = true
    · simp [c] at h
    · simp [c]
  · rw [if_neg hf, if_neg hf]
theorem steps_tail {f a b : Int} (ga : Gd f a) (ub : U b) (hn : cl f a ≠ 5) :
    ((rank_Steps.f 9 f a b).bind fun bt583 => ((cutplaneref07_Opens.f 9 f (([a, b] : List Int))).bind fun t603 => (if t603 = 0 then ((cutplaneref03_Class.f 9 f b).bind fun t604 => (if t604 = 5 then (if bt583.1 = 0 then (if bt583.2 = 7 then ((cutplanelaw07_known.f 9).bind fun t605 => (some t605)) else (none)) else (none)) else ((cutplaneref07_Steps.f f a b).bind fun t606 => (if bt583.1 = t606 then (if bt583.2 = 0 then ((cutplanelaw07_known.f 9).bind fun t607 => (some t607)) else (none)) else (none))))) else (if bt583.1 = 0 then (if bt583.2 = t603 then ((cutplanelaw07_known.f 9).bind fun t608 => (some t608)) else (none)) else (none))))) = some true := by
  rw [ref_Opens f [a, b] (by simp) 9 (by simp), known07 4]
  by_cases he : errl f [a, b] = 0
  · have gb := (errl_zero he (by simp [ga.u, ub])).2 b (by simp)
    rw [rank_Steps_good 4 ga gb, ref_Class 8 f ub, ref_Steps ga gb]
    simp only [Option.bind_some, if_pos he, hn, false_or]
    by_cases cb : cl f b = 5
    · simp [cb]
    · simp [cb]
  · rw [rank_Steps_bad 4 ga.u ub he]
    simp only [Option.bind_some, if_neg he, if_true]
theorem RankSteps : cutplanelaw07_RankSteps.Pure := by
  intro f a b n _ ha hb hn
  have ua := u_of ha
  have ub := u_of hb
  have bn := bounds_i64 hn
  refine ⟨9, ?_⟩
  unfold cutplanelaw07_RankSteps.f
  rw [ref_Opens f [a] (by simp) 9 (by simp)]
  by_cases he : errl f [a] = 0
  · have ga := (errl_zero he (by simp [ua])).2 a (by simp)
    rw [move_good 4 ga (by omega) (by omega), ref_Class 8 f ua]
    by_cases ca : cl f a = 5
    · rw [ref_Opens f [a, b] (by simp) 9 (by simp), known07 4]
      by_cases h2 : errl f [a, b] = 0
      · have gb := (errl_zero h2 (by simp [ua, ub])).2 b (by simp)
        rw [rank_Steps_good 4 ga gb]
        simp only [Option.bind_some, he, h2, ca, if_true, true_or]
      · rw [rank_Steps_bad 4 ua ub h2]
        simp only [Option.bind_some, he, if_neg h2, ca, if_true]
    · have ht := steps_tail ga ub ca
      rw [ref_Move 8 ga ca (by omega) (by omega)]
      obtain ⟨s, hs⟩ : ∃ s, rank_Steps.f 9 f a b = some s := by
        by_cases h2 : errl f [a, b] = 0
        · have gb := (errl_zero h2 (by simp [ua, ub])).2 b (by simp)
          exact ⟨_, rank_Steps_good 4 ga gb⟩
        · exact ⟨_, rank_Steps_bad 4 ua ub h2⟩
      rw [hs] at ht ⊢
      simp only [Option.bind_some, if_pos he, if_neg ca] at ht ⊢
      by_cases c0 : n = 0
      · simp only [if_pos c0, if_true]
        exact ht
      · simp only [if_neg c0]
        rcases mvw f (plc f a) n with _ | v
        · simp only [if_true, Bool.false_eq_true, if_false]
          exact ht
        · simp only [if_true]
          exact ht
  · have e2 := errl_more (b := b) he
    rw [rank_Steps_bad 4 ua ub (by rw [e2]; exact he), move_bad 4 ua he, known07 4, e2]
    simp only [Option.bind_some, if_neg he, if_true]
end Go.Proofs.Ytnjdaoeebhbmfaa.Pure
end
