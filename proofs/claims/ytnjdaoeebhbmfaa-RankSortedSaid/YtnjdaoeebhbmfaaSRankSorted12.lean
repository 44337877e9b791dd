/- Steps of Go functions that the law RankSorted uses, told as plain Lean functions, each with the proof that its call comes to what it tells; words on memory; plain facts. No condition beyond those that each text names. -/
import Derived.Laws.BitsAllLaws
import Derived.Laws.BitsLemmas
import Derived.Test.YtnjdaoeebhbmfaaProg
import Derived.Below
import Derived.Deep.Draws
import Derived.Deep.AppendLies
import Derived.Maps.AppendAt
import Derived.OwnWalk
import Derived.Laws.BytesArg
import Derived.Laws.MakeOwn
import Derived.Laws.OwnMore
import Derived.Deep.OwnRows
import Derived.Tactics
import Derived.Lib.ConvBytes
import Derived.Laws.Slices
import Derived.WalkKit
import Derived.KernelRfl
import Derived.RowKit3
import Derived.Deep.LoopGhost
import Derived.Deep.QuietTactic
import Derived.BigQuiet
import Derived.WideLaws
import Derived.Deep.DeepCutAuto
import Derived.Deep.CutBlock
import Derived.Deep.RegionHeld3
import Derived.Laws.Rows
import Derived.Lib.AppendStr
import Derived.ArgAppend
import Derived.Laws.IdiomCopy
import Derived.OrdersHeld
import Derived.RowKit
import Derived.Laws.StructEq
import Derived.Lib.EndianBits
import Derived.OpenShut
import Derived.Shelf.SlSortCmp.NoneTotal
import Derived.WalkMore
import Derived.Test.YtnjdaoeebhbmfaaSRankSorted0
import Derived.Test.YtnjdaoeebhbmfaaSRankSorted1
import Derived.Test.YtnjdaoeebhbmfaaSRankSorted2
import Derived.Test.YtnjdaoeebhbmfaaSRankSorted3
import Derived.Test.YtnjdaoeebhbmfaaSRankSorted4
import Derived.Test.YtnjdaoeebhbmfaaSRankSorted5
import Derived.Test.YtnjdaoeebhbmfaaSRankSorted6
import Derived.Test.YtnjdaoeebhbmfaaSRankSorted7
import Derived.Test.YtnjdaoeebhbmfaaSRankSorted8
import Derived.Test.YtnjdaoeebhbmfaaSRankSorted9
import Derived.Test.YtnjdaoeebhbmfaaSRankSorted10
import Derived.Test.YtnjdaoeebhbmfaaSRankSorted11
section
namespace Go.Proofs.Ytnjdaoeebhbmfaa.PA
open Go.RowKit Go.Proofs.YtnjdaoeebhbmfaaW.PrintWords Go.Proofs.YtnjdaoeebhbmfaaW.PrintLast Go.Proofs.YtnjdaoeebhbmfaaW.PrintMore Go.Proofs.Ytnjdaoeebhbmfaa.Wd
set_option linter.unusedSimpArgs false
set_option linter.unusedVariables false
/-- a whole number of units -/
def zs (neg : Bool) (N : Nat) : Int := if neg then -(N : Int) else N
end Go.Proofs.Ytnjdaoeebhbmfaa.PA
end

section
namespace Go.Proofs.Ytnjdaoeebhbmfaa.Pure
open Go.RowKit Go.Proofs.Ytnjdaoeebhbmfaa.PA Go.Proofs.YtnjdaoeebhbmfaaW.PrintWords Go.Proofs.YtnjdaoeebhbmfaaW.PrintLast Go.Proofs.YtnjdaoeebhbmfaaW.PrintMore Go.Proofs.Ytnjdaoeebhbmfaa.Wd
set_option linter.unusedSimpArgs false
set_option linter.unusedVariables false
theorem can_idem {f w : Int} (h : Gd f w) : Gd f (canw f w) ∧ canw f (canw f w) = canw f w := by
  unfold canw
  by_cases c : cl f w = 5
  · rw [if_pos c]
    rcases gd_f h with rfl | rfl
    · exact ⟨.inl ⟨rfl, by decide, by decide⟩, by decide⟩
    · exact ⟨.inr ⟨rfl, by decide, by decide⟩, by decide⟩
  · rw [if_neg c, if_neg c]; exact ⟨h, rfl⟩
/-- words that are good and have the canonical NaN -/
def Cl (f : Int) (l : List Int) : Prop := ∀ x ∈ l, Gd f x ∧ canw f x = x
theorem cl_map {f : Int} {l : List Int} (h : ∀ x ∈ l, Gd f x) : Cl f (l.map (canw f)) := by
  intro x hx
  obtain ⟨y, hy, rfl⟩ := List.mem_map.1 hx
  exact can_idem (h y hy)
def Up (f : Int) (l : List Int) : Prop := l.Pairwise (fun x y => key f x ≤ key f y)
theorem sortw_up (f : Int) (l : List Int) : Up f (sortw f l) := by
  have := List.pairwise_mergeSort (le := fun x y : Int => decide (key f x ≤ key f y)) (by intro a b c; simp; omega) (by intro a b; simp; omega) l
  exact this.imp (fun h => of_decide_eq_true h)
theorem sortw_perm (f : Int) (l : List Int) : (sortw f l).Perm l := List.mergeSort_perm _ _
theorem sortw_len (f : Int) (l : List Int) : (sortw f l).length = l.length := (sortw_perm f l).length_eq
theorem cl_perm {f : Int} {l m : List Int} (h : Cl f l) (p : m.Perm l) : Cl f m := fun x hx => h x (p.mem_iff.1 hx)
theorem sort_loop {f : Int} {l : List Int} (hl : l.length ≤ 4096) (hg : ∀ x ∈ l, Gd f x) (d : Nat) : ∀ (k i : Nat) (acc : List Int), i ≤ l.length → l.length - i = d → d + 2 < k → acc = (l.take i).map (canw f) →
    rank_Sort.l0 k acc l (l.length : Int) (i : Int) f = some (sortw f (l.map (canw f)), 0) := by
  induction d with
  | zero =>
    intro k i acc hi hd hk ha
    obtain ⟨k, rfl⟩ : ∃ m, k = m + 1 := ⟨k - 1, by omega⟩
    have e : i = l.length := by omega
    subst e
    rw [List.take_length] at ha
    subst ha
    have ho : okl f (l.map (canw f)) = true := by
      unfold okl
      rw [Bool.and_eq_true]
      refine ⟨decide_eq_true (by rw [List.length_map]; exact hl), List.all_eq_true.2 fun x hx => ?_⟩
      obtain ⟨a, b⟩ := cl_map hg x hx
      exact okc_in a b
    simp only [rank_Sort.l0]
    rw [if_neg (by omega), if_pos ho]
  | succ d ih =>
    intro k i acc hi hd hk ha
    obtain ⟨k, rfl⟩ : ∃ m, k = m + 1 := ⟨k - 1, by omega⟩
    obtain ⟨q, rfl⟩ : ∃ q, k = q + 2 := ⟨k - 2, by omega⟩
    have hlt : i < l.length := by omega
    have w1 : wrap64 ((i : Int) + 1) = ((i + 1 : Nat) : Int) := by unfold wrap64; omega
    have hacc : acc.length < 17592186044416 := by rw [ha]; simp; omega
    simp only [rank_Sort.l0]
    rw [if_pos (by omega), if_pos (by omega), if_pos (by omega), rd_get l i hlt, canon_good q (hg _ (List.getElem_mem hlt)), w1]
    simp only [Option.bind_some]
    rw [if_pos hacc]
    refine ih (q + 2) (i + 1) _ (by omega) (by omega) (by omega) ?_
    rw [ha, List.take_succ_eq_append_getElem hlt, List.map_append]
    rfl
theorem sort_val {f : Int} {l : List Int} (hu : ∀ x ∈ l, U x) (hl : l.length ≤ 17592186043904) {k : Nat} (hk : l.length + 10 < k) :
    rank_Sort.f k f l = some (if f = 1 ∨ f = 2 then (if 4096 < l.length then ([], 3) else if errl f l = 0 then (sortw f (l.map (canw f)), 0) else ([], errl f l)) else ([], 4)) := by
  have e0 : errl f [] = if f = 1 ∨ f = 2 then 0 else 4 := by unfold errl; simp
  unfold rank_Sort.f
  rw [open_list f [] (by simp) (by simp) k (by simp; omega), e0]
  simp only [Option.bind_some]
  by_cases hf : f = 1 ∨ f = 2
  · rw [if_pos hf, if_pos rfl, if_pos hf]
    by_cases h4 : 4096 < l.length
    · rw [if_pos h4, if_pos (by omega)]
    · rw [if_neg h4, if_neg (by omega), open_list f l (by omega) hu k (by omega)]
      simp only [Option.bind_some]
      by_cases he : errl f l = 0
      · obtain ⟨_, hg⟩ := errl_zero he hu
        rw [if_pos he, if_pos he, if_pos (by omega), if_pos (by omega)]
        have := sort_loop (by omega) hg l.length k 0 (List.replicate 0 0) (by omega) (by omega) (by omega) (by simp)
        exact this
      · rw [if_neg he, if_neg he]
  · rw [if_neg hf, if_neg (by decide), if_neg hf]
end Go.Proofs.Ytnjdaoeebhbmfaa.Pure
end

section
namespace Go.Proofs.Ytnjdaoeebhbmfaa.Pure
open Go.RowKit Go.Proofs.Ytnjdaoeebhbmfaa.PA Go.Proofs.YtnjdaoeebhbmfaaW.PrintWords Go.Proofs.YtnjdaoeebhbmfaaW.PrintLast Go.Proofs.YtnjdaoeebhbmfaaW.PrintMore Go.Proofs.Ytnjdaoeebhbmfaa.Wd
set_option linter.unusedSimpArgs false
set_option linter.unusedVariables false
/-- how often a word stands in a row, as a whole number -/
def cnt (x : Int) (l : List Int) : Int := ((l.count x : Nat) : Int)
theorem cnt_snoc (x y : Int) (l : List Int) : cnt x (l ++ [y]) = cnt x l + (if y = x then 1 else 0) := by
  unfold cnt
  rw [List.count_append, List.count_singleton]
  by_cases h : y = x
  · simp [h]
  · simp [h]
theorem cnt_bd (x : Int) (l : List Int) : 0 ≤ cnt x l ∧ cnt x l ≤ l.length := ⟨Int.natCast_nonneg _, Int.ofNat_le.2 List.count_le_length⟩
theorem w_inc {j : Nat} (h : j < 4294967296) : wrap64 ((j : Int) + 1) = ((j + 1 : Nat) : Int) := by unfold wrap64; omega
theorem w_cnt {n : Int} (h : -200 ≤ n ∧ n ≤ 200) : wrap64 ((wrap64 (n + 1)) - 1) = n ∧ wrap64 (n + 1) = n + 1 ∧ wrap64 (n - 1) = n - 1 := by
  unfold wrap64
  omega
theorem cmpi_le {x y : Int} (h : x ≤ y) : ¬ cmpi x y > 0 := by
  rcases cmpi_bd x y with ⟨e, h⟩ | ⟨e, h⟩ | ⟨e, h⟩ <;> omega
theorem inner {f : Int} {l s : List Int} {i : Nat} (hl : l.length ≤ 200) (hsl : s.length = l.length) (hi : i < s.length) (hg : ∀ x ∈ l, Gd f x) (C : Nat → Int) (hC0 : C l.length = 0) (hCb : ∀ j, -200 ≤ C j ∧ C j ≤ 200)
    (hCs : ∀ j (h1 : j < l.length) (h2 : j < s.length), C (j + 1) = C j + (if canw f l[j] = s[i] then 1 else 0) - (if s[j] = s[i] then 1 else 0)) (R : Nat → Option Bool) (hR : ∀ k, 0 < k → cutplanelaw07_RankSorted.l0 k f l s (wrap64 ((i : Int) + 1)) = R k) (d : Nat) :
    ∀ (k j : Nat), j ≤ l.length → l.length - j = d → d + 10 < k → cutplanelaw07_RankSorted.l1 k f l s (i : Int) (C j) (j : Int) = R (k - d - 1) := by
  induction d with
  | zero =>
    intro k j hj hd hk
    obtain ⟨k, rfl⟩ : ∃ m, k = m + 1 := ⟨k - 1, by omega⟩
    have e : j = l.length := by omega
    have hlt : ¬ (j : Int) < (l.length : Int) := by omega
    have hk0 : 0 < k := by omega
    simp only [cutplanelaw07_RankSorted.l1]
    rw [if_neg hlt, e, hC0, if_pos rfl, hR k hk0]
    rfl
  | succ d ih =>
    intro k j hj hd hk
    obtain ⟨k, rfl⟩ : ∃ m, k = m + 1 := ⟨k - 1, by omega⟩
    have h1 : j < l.length := by omega
    have h2 : j < s.length := by omega
    have g1 : (j : Int) < (l.length : Int) := by omega
    have g2 : (j : Int) < (s.length : Int) := by omega
    have g3 : (i : Int) < (s.length : Int) := by omega
    have g4 : (0 : Int) ≤ (j : Int) := by omega
    have g5 : (0 : Int) ≤ (i : Int) := by omega
    have gj := hg _ (List.getElem_mem h1)
    have hcan : cutplaneref03_Canon.f k f l[j] = some (canw f l[j]) := by
      obtain ⟨q, rfl⟩ : ∃ q, k = q + 1 := ⟨k - 1, by omega⟩
      exact ref_Canon q f gj.u
    have w1 : wrap64 ((j : Int) + 1) = ((j + 1 : Nat) : Int) := w_inc (by omega)
    obtain ⟨n1, n2, n3⟩ := w_cnt (hCb j)
    have next : cutplanelaw07_RankSorted.l1 k f l s (i : Int) (C (j + 1)) (((j + 1 : Nat) : Int)) = R (k - d - 1) := ih k (j + 1) (by omega) (by omega) (by omega)
    have e : k + 1 - (d + 1) - 1 = k - d - 1 := by omega
    have hs := hCs j h1 h2
    clear hCs hCb hC0 ih hR
    rw [e]
    simp only [cutplanelaw07_RankSorted.l1]
    rw [if_pos g1, if_pos g4, rd_get l j h1, hcan]
    simp only [Option.bind_some]
    rw [if_pos g5, if_pos g3, rd_get s i hi, rd_get s j h2, w1]
    by_cases c1 : canw f l[j] = s[i]
    · rw [if_pos c1, if_pos g2]
      rw [if_pos c1] at hs
      by_cases c2 : s[j] = s[i]
      · rw [if_pos c2]
        rw [if_pos c2] at hs
        rw [n1, ← show C (j + 1) = C j by rw [hs]; exact Int.add_sub_cancel _ _]
        exact next
      · rw [if_neg c2]
        rw [if_neg c2, Int.sub_zero] at hs
        rw [n2, ← hs]
        exact next
    · rw [if_neg c1, if_pos g2]
      rw [if_neg c1, Int.add_zero] at hs
      by_cases c2 : s[j] = s[i]
      · rw [if_pos c2]
        rw [if_pos c2] at hs
        rw [n3, ← hs]
        exact next
      · rw [if_neg c2]
        rw [if_neg c2, Int.sub_zero] at hs
        rw [← hs]
        exact next
theorem bal_bd (x : Int) (a b : List Int) (ha : a.length ≤ 200) (hb : b.length ≤ 200) : -200 ≤ cnt x a - cnt x b ∧ cnt x a - cnt x b ≤ 200 := by
  have h1 := cnt_bd x a
  have h2 := cnt_bd x b
  generalize cnt x a = p at *
  generalize cnt x b = q at *
  generalize a.length = m at *
  generalize b.length = n at *
  omega
set_option maxHeartbeats 2000000 in
theorem outer {f : Int} {l s : List Int} {c : Nat} (hc3 : 300 ≤ c) (hl : l.length ≤ 200) (hsl : s.length = l.length) (hg : ∀ x ∈ l, Gd f x) (hc : Cl f s) (hup : Up f s) (hp : s.Perm (l.map (canw f))) (d : Nat) :
    ∀ (k i : Nat), i ≤ s.length → s.length - i = d → d * c + 300 < k → cutplanelaw07_RankSorted.l0 k f l s (i : Int) = some true := by
  induction d with
  | zero =>
    intro k i hi hd hk
    rw [Nat.zero_mul, Nat.zero_add] at hk
    obtain ⟨q, rfl⟩ : ∃ q, k = q + 5 + 1 := ⟨k - 6, by omega⟩
    simp only [cutplanelaw07_RankSorted.l0]
    rw [if_neg (by omega), known07 q]
    rfl
  | succ d ih =>
    intro k i hi hd hk
    rw [Nat.add_mul, Nat.one_mul] at hk
    generalize hz : d * c = z at hk ih
    obtain ⟨q, rfl⟩ : ∃ q, k = q + 5 + 1 := ⟨k - 6, by omega⟩
    have hlt : i < s.length := by omega
    have w2 : wrap64 ((i : Int) + 1) = ((i + 1 : Nat) : Int) := by unfold wrap64; omega
    have hk5 : l.length + 10 < q + 5 := by omega
    have hi1 : i + 1 ≤ s.length := by omega
    have hi2 : s.length - (i + 1) = d := by omega
    have hi3 : z + 300 < q + 5 - l.length - 1 := by omega
    have hin : cutplanelaw07_RankSorted.l1 (q + 5) f l s (i : Int) 0 0 = some true := by
      have h := inner hl hsl hlt hg (fun j => cnt s[i] ((l.take j).map (canw f)) - cnt s[i] (s.take j)) (by
          have ht : s.take l.length = s := by rw [← hsl, List.take_length]
          show cnt s[i] ((l.take l.length).map (canw f)) - cnt s[i] (s.take l.length) = 0
          rw [List.take_length, ht]
          unfold cnt
          rw [hp.count_eq]
          exact Int.sub_self _) (fun j => bal_bd _ _ _ (by rw [List.length_map, List.length_take]; exact Nat.le_trans (Nat.min_le_right _ _) hl) (by rw [List.length_take]; exact Nat.le_trans (Nat.min_le_right _ _) (hsl ▸ hl)))
        (fun j h1 h2 => by
          show cnt s[i] ((l.take (j + 1)).map (canw f)) - cnt s[i] (s.take (j + 1)) = _
          rw [List.take_succ_eq_append_getElem h1, List.take_succ_eq_append_getElem h2, List.map_append, List.map_singleton, cnt_snoc, cnt_snoc]
          generalize cnt s[i] ((l.take j).map (canw f)) = p
          generalize cnt s[i] (s.take j) = q
          generalize (if canw f l[j] = s[i] then (1 : Int) else 0) = u
          generalize (if s[j] = s[i] then (1 : Int) else 0) = v
          omega) (fun k => cutplanelaw07_RankSorted.l0 k f l s (wrap64 ((i : Int) + 1))) (fun k _ => rfl) l.length (q + 5) 0 (Nat.zero_le _) (Nat.sub_zero _) hk5
      have h00 : cnt s[i] ((l.take 0).map (canw f)) - cnt s[i] (s.take 0) = 0 := by simp [cnt]
      simp only [h00] at h
      have h2 : cutplanelaw07_RankSorted.l1 (q + 5) f l s (i : Int) 0 0 = cutplanelaw07_RankSorted.l0 (q + 5 - l.length - 1) f l s (wrap64 ((i : Int) + 1)) := h
      rw [h2, w2]
      exact ih _ (i + 1) hi1 hi2 hi3
    simp only [cutplanelaw07_RankSorted.l0]
    rw [if_pos (by omega)]
    by_cases h0 : i = 0
    · subst h0
      rw [if_neg (by omega)]
      exact hin
    · have hii : i - 1 < i := by omega
      have w1 : wrap64 ((i : Int) - 1) = ((i - 1 : Nat) : Int) := by unfold wrap64; omega
      have hlt1 : i - 1 < s.length := by omega
      rw [if_pos (by omega), w1, if_pos (by omega), if_pos (by omega), if_pos (by omega), rd_get s (i - 1) hlt1, rd_get s i hlt]
      have ga := (hc _ (List.getElem_mem hlt1)).1
      have gb := (hc _ (List.getElem_mem hlt)).1
      rw [rank_Total_good q ga gb, tot_key ga gb]
      simp only [Option.bind_some, if_true]
      have hle : key f s[i - 1] ≤ key f s[i] := List.pairwise_iff_getElem.1 hup (i - 1) i hlt1 hlt hii
      rw [if_neg (cmpi_le hle)]
      exact hin
set_option maxHeartbeats 2000000 in
set_option maxRecDepth 100000 in
theorem RankSorted : cutplanelaw07_RankSorted.Pure := by
  intro f l _ _ hb hw
  have hu : ∀ x ∈ l, U x := fun x hx => u_of (hw x hx)
  have hl : l.length ≤ 17592186043904 := by omega
  refine ⟨l.length + 4000000, ?_⟩
  have kn : cutplanelaw07_known.f (l.length + 4000000) = some true := known07 (l.length + 3999995)
  unfold cutplanelaw07_RankSorted.f
  by_cases h2 : l.length > 200
  · rw [if_pos (by omega), kn]; rfl
  · rw [if_neg (by omega), ref_Opens f l (by omega) _ (by omega)]
    simp only [Option.bind_some]
    by_cases he : errl f l = 0
    · obtain ⟨hf, hg⟩ := errl_zero he hu
      rw [if_pos he]
      simp only [List.nil_append, List.length_nil, Nat.zero_add]
      rw [if_pos (by omega), sort_val hu hl (by omega), if_pos hf, if_neg (by omega), if_pos he]
      have hsl : (sortw f (l.map (canw f))).length = l.length := by rw [sortw_len, List.length_map]
      simp only [Option.bind_some, if_true]
      rw [if_pos (by omega)]
      exact outer (c := 300) (Nat.le_refl _) (by omega) hsl hg (cl_perm (cl_map hg) (sortw_perm f _)) (sortw_up f _) (sortw_perm f _) (sortw f (l.map (canw f))).length _ 0 (by omega) (by omega) (by omega)
    · rw [if_neg he, kn]; rfl
end Go.Proofs.Ytnjdaoeebhbmfaa.Pure
end
