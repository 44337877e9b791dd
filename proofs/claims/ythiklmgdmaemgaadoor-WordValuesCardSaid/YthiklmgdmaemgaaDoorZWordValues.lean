/- The law WordValues of the program: the row holds for every input that can be read: the call returns true and each argument reads as it did. No further condition. -/
import Derived.Test.YthiklmgdmaemgaaDoorSWordValues0
import Derived.Test.YthiklmgdmaemgaaDoorSWordValues1
import Derived.Test.YthiklmgdmaemgaaDoorSWordValues2
import Derived.Test.YthiklmgdmaemgaaDoorSWordValues3
import Derived.Test.YthiklmgdmaemgaaDoorSWordValues4
import Derived.Test.YthiklmgdmaemgaaDoorSWordValues5
import Derived.Test.YthiklmgdmaemgaaDoorSWordValues6
import Derived.Test.YthiklmgdmaemgaaDoorSWordValues7
import Derived.Test.YthiklmgdmaemgaaDoorSWordValues8
import Derived.Test.YthiklmgdmaemgaaDoorSWordValues9
import Derived.Test.YthiklmgdmaemgaaDoorTie
import Derived.Test.YthiklmgdmaemgaaDoorCards
import Derived.LaidMore
import Derived.SevenTiedAt
import Derived.Stop.Joined
import Derived.FnData
import Derived.Test.YthiklmgdmaemgaaDoorRows
import Derived.WalkKit
import Derived.ProofKit
import Derived.OpenShut
import Derived.ShutString
import Derived.ChangeOld
import Derived.Below
import Derived.SizedLaws
import Derived.Lib.SmallJoins
namespace Go.Proofs.YthiklmgdmaemgaaDoor.wordValues
open Go.ChangeShapes Go.WideShapes Go.ChangeAt Go.RowKit
open Go.ChangeMaps (open_string shut_string)
open Go.Proofs.YthiklmgdmaemgaaDoor.PA Go.Proofs.YthiklmgdmaemgaaDoorW.PrintWords Go.Proofs.YthiklmgdmaemgaaDoorW.PrintLast Go.Proofs.YthiklmgdmaemgaaDoorW.PrintMore
open Go.Proofs.YthiklmgdmaemgaaDoorW
set_option linter.unusedVariables false
theorem own : ownKnob Tryd.prog.godebug = none := by kernel_rfl
theorem gTab : Tryd.prog.globalNamed "math/bits.deBruijn32tab" = some 0 := by kernel_rfl
theorem tTab : (Tryd.prog.globals[0]?).map (·.type) = some 100 := by kernel_rfl
/-- The door's own heap meets the condition: closed facts. -/
theorem door_met (os : Os) (args : Array Value) : laidMetH Tryd.prog [("math/bits.deBruijn32tab", Rows.laid_math_bits_deBruijn32tab)] ((World.doorLaid Tryd.prog 400 os).forCall (fun _ _ => 0) ⟨#[], args, []⟩).memory :=
  laidMetH_of_parts3 (fuel := 8) (laidMet_of_run' 8 (by kernel_rfl) (by kernel_rfl)) (by kernel_rfl) (by kernel_rfl)
theorem tab_at : ∀ j, j < 32 → (Rows.laid_math_bits_deBruijn32tab : DataW Unit) = .agg ((List.range 32).map fun i => .lit (.int .u8 ((Go.Lib.deBruijn32tab.getD i 0 : Nat) : Int))) := fun _ _ => by rfl
/-- What the condition gives the walks: the table's cells. -/
theorem of_laid {W : World} (h : laidMetH Tryd.prog [("math/bits.deBruijn32tab", Rows.laid_math_bits_deBruijn32tab)] W) : TabT W := by
  rw [MakeChecks.laidMetH_plain _ _ _ (by kernel_rfl)] at h
  obtain ⟨ps, ⟨g0, t0, cs0, f0, p0, q0, hg0, ht0, hv0, hd0, _⟩, _⟩ := h
  obtain rfl := Option.some.inj (gTab.symm.trans hg0)
  obtain rfl := Option.some.inj (tTab.symm.trans ht0)
  obtain ⟨xs, m1, rfl, hx1, hlen, hn, hel⟩ := DataW.trod_array Tryd.underlying100 hd0
  have c1 : Tryd.prog.cellsOf 5 = 1 := by kernel_rfl
  have c2 : Tryd.prog.cellsOf 100 = 32 := by kernel_rfl
  intro j hj
  have hj2 : j < xs.length := by omega
  have h0 := hel j (by omega)
  rw [c1, List.getElem?_eq_getElem hj2] at h0
  simp only [Prod.mk.injEq] at hx1
  have hx2 := hx1.1
  rw [tab_at j hj] at hx2
  have hx3 : ((List.range 32).map fun i => (DataW.lit (.int .u8 ((Go.Lib.deBruijn32tab.getD i 0 : Nat) : Int)) : DataW Unit)) = xs.map (·.1) := DataW.agg.inj hx2
  have hx4 : (DataW.lit (.int .u8 ((Go.Lib.deBruijn32tab.getD j 0 : Nat) : Int)) : DataW Unit) = (xs[j]).1 := by
    have e := congrArg (fun l => l[j]?) hx3
    simp only [List.getElem?_map, List.getElem?_range hj, Option.map_some, List.getElem?_eq_getElem hj2] at e
    exact Option.some.inj e
  obtain ⟨k, e1, e2, _⟩ := DataW.trod_int Tryd.underlying5 h0
  have hk : k = ((Go.Lib.deBruijn32tab.getD j 0 : Nat) : Int) := by
    have e3 : (xs[j]).1 = _ := congrArg Prod.fst e2
    rw [e3] at hx4
    injection hx4 with q
    injection q with _ q
    exact q.symm
  have := World.var?_cell hg0 hv0 j
  rw [this, ← hk]
  have hl2 : j < cs0.toList.length := by rw [hlen, c2]; exact hj
  rw [Nat.mul_one, List.drop_eq_getElem_cons hl2] at e1
  simp only [List.take_succ_cons, List.take_zero, List.cons.injEq, and_true] at e1
  rw [← Array.getElem?_toList, List.getElem?_eq_getElem hl2, e1]
theorem laidOut : laidOutB Tryd.prog = true := by kernel_rfl
def IsRow (k : IntKind) (w : World) (a : Option Addr) (len cap : Nat) (zs : List Int) : Prop :=
  (a = none ∧ len = 0 ∧ cap = 0 ∧ zs = []) ∨
  ∃ x, a = some x ∧ len ≤ cap ∧ cap ≤ maxLen ∧ zs.length = cap ∧ (∀ i, i < zs.length → w.cell? (x.add i) = some (.int k (zs.getD i 0))) ∧ ∀ n ∈ zs, (Lit.int k n).wf = true
theorem row_of {W : World} {a : Addr} {len cap : Nat} {zs : List Int} (hl : len ≤ cap) (hm : cap ≤ maxLen) (hz : zs.length = cap) (hcell : ∀ i, i < zs.length → W.cell? (a.add i) = some (.int .u32 (zs.getD i 0))) : Kd.C (Kd.int .u32) W (some a) (zs.take len).length (zs.take len) := by
  have hn : (zs.take len).length = len := by rw [List.length_take]; omega
  have hM : maxLen ≤ 9223372036854775807 := by decide
  refine ⟨rfl, by omega, fun _ => ⟨a, rfl, fun j p hp => ⟨[.int .u32 p], rfl, rfl, fun i u hu => ?_⟩⟩⟩
  obtain ⟨hj, hp2⟩ := List.getElem?_eq_some_iff.1 hp
  rw [List.getElem_take] at hp2
  cases i with
  | succ i => simp at hu
  | zero =>
    simp only [List.getElem?_cons_zero, Option.some.injEq] at hu
    subst hu
    have h := hcell j (by omega)
    rw [List.getD_eq_getElem?_getD, List.getElem?_eq_getElem (by omega)] at h
    show W.cell? (a.add (j * 1 + 0)) = _
    rw [Nat.mul_one, Nat.add_zero, h]
    simp only [Option.getD_some]
    rw [hp2]
set_option maxRecDepth 100000 in
theorem lifted (os : Os) (started : os.Started) (H : Type) (enc : TypeId × Value → H) :
    ReturnsInHanded {} Tryd.checked os 4 .any (fun w args => (Rows.wordValuesSpec.pre enc Tryd.prog Tryd.f4 [] false w args ∧ laidMetH Tryd.prog [("math/bits.deBruijn32tab", Rows.laid_math_bits_deBruijn32tab)] w) ∧ sizedMet enc Tryd.prog Tryd.f4 (OpenSpec.ofChange Rows.wordValuesSpec) false w args) (Rows.wordValuesSpec.post enc Tryd.prog Tryd.f4 false true false false) := by
  refine returnsInHanded_of_change_and (C := Tryd.checked) (X := fun w _ => laidMetH Tryd.prog [("math/bits.deBruijn32tab", Rows.laid_math_bits_deBruijn32tab)] w) (fun _ _ _ hh h => h.of_heap hh) own started (by kernel_rfl) Tryd.func4
    (ChangeSpec.witness_shaped (enc := enc) (C := Tryd.checked) (os := os) (X := fun w _ => laidMetH Tryd.prog [("math/bits.deBruijn32tab", Rows.laid_math_bits_deBruijn32tab)] w) false (World.doorLaid Tryd.prog 400 os) #[.int .u8 0, .int .u64 0, .agg #[.bool false, .slice none 0 0, .int .i64 0]] 8 rfl (World.shaped_of_RefB (by kernel_rfl) (by kernel_rfl)) (by kernel_rfl) (by kernel_rfl) (by kernel_rfl) (door_met os _)) ?_
  intro W base args ds gs before hval0 hW hcnd hsz0 hL _
  have hsz : (DataW.weightsEach Tryd.prog (Tryd.f4.params.toList ++ Rows.wordValuesSpec.plain.varTypes Tryd.prog) (ds ++ gs)).all (· ≤ reachBytes) = true := hsz0
  have hval : ∀ (j : Nat) t v, Tryd.f4.params[j]? = some t → args[j]? = some v → Value.okWide Tryd.prog W .any base t v := hval0
  have hW' := hW
  obtain ⟨p, q, hA0, hV, rfl, hfz, hnd⟩ := hW
  have hA : DataW.TrodAll enc Tryd.prog W 0 (fun _ => true) true Tryd.f4.params.toList args.toList ds p := hA0
  rw [Tryd.params4] at hA hval hsz
  obtain ⟨v0, vs0, d0, ds0, p0, q0, hargs, rfl, rfl, h0, r0⟩ := trodAll_cons hA
  obtain ⟨v1, vs1, d1, ds1, p1, q1, rfl, rfl, rfl, h1, r1⟩ := trodAll_cons r0
  obtain ⟨v2, vs2, d2, ds2, p2, q2, rfl, rfl, rfl, h2, r2⟩ := trodAll_cons r1
  obtain ⟨rfl, rfl, rfl⟩ := trodAll_nil r2
  obtain rfl : args = #[v0, v1, v2] := by cases args; simp_all
  obtain ⟨rfl, rfl⟩ := trodVars_none hV
  obtain ⟨a0, rfl, rfl, rfl, w0⟩ := open_int Tryd.underlying22 (hval 0 22 v0 rfl rfl) h0
  obtain ⟨a1, rfl, rfl, rfl, w1⟩ := open_int Tryd.underlying23 (hval 1 23 v1 rfl rfl) h1
  have k2 := h2
  have lt2 : ∀ x ∈ p2, x.block < W.heap.size := by obtain ⟨m, hm⟩ := k2; exact DataW.trod_lt m _ _ _ hm
  obtain ⟨c2_0, c2_1, c2_2, z2_0, z2_1, z2_2, m2, rfl, rfl, rfl, hy2_0, hy2_1, hy2_2⟩ := Joins.open_agg3 Tryd.underlying26 (by kernel_rfl) (show Tryd.prog.cellsOf 26 = 3 by kernel_rfl) (hval 2 26 v2 rfl rfl) h2
  obtain ⟨a2_0, ee, rfl⟩ := DataW.trod_bool Tryd.underlying4 hy2_0
  obtain rfl : c2_0 = _ := List.head_eq_of_cons_eq ee
  clear ee
  obtain ⟨a2_2, ee, rfl, w2_2⟩ := DataW.trod_int Tryd.underlying3 hy2_2
  obtain rfl : c2_2 = _ := List.head_eq_of_cons_eq ee
  clear ee
  obtain ⟨A2, l2, e2, rfl, hC2, hc2, hd2⟩ : ∃ (A : Option Addr) (l : List Int) (c : Nat), c2_1 = .slice A l.length c ∧ Kd.C (Kd.int .u32) W A l.length l ∧ l.length ≤ c ∧ Wd.Dg l := by
    rcases open_ints Tryd.underlying24 Tryd.underlying78 (by kernel_rfl) hy2_1 with ⟨hcs, _⟩ | ⟨x, n, c, zs, hcs, _, hl, hm, hz, _, hcell, hwz⟩
    · obtain rfl : c2_1 = _ := List.head_eq_of_cons_eq hcs
      exact ⟨none, [], 0, rfl, ⟨rfl, Nat.zero_le _, fun h => absurd h (Nat.lt_irrefl _)⟩, Nat.le_refl _, fun d h => by cases h⟩
    · obtain rfl : c2_1 = _ := List.head_eq_of_cons_eq hcs
      have hz' : zs.length = c := by simpa using hz
      have hn : (zs.take n).length = n := by rw [List.length_take]; omega
      exact ⟨some x, zs.take n, c, by rw [hn], row_of hl hm hz' hcell, by omega, fun d h => by have := bounds_u32 (hwz d (List.mem_of_mem_take h)); omega⟩
  clear hA0 hval0 hsz0 hsz
  obtain ⟨kk, hk⟩ := Pure.WordValues a0 a1 a2_0 l2 a2_2 (PA.u_of w1) hd2
  refine (PA.cutplanelaw03_WordValues.calls kk a0 a1 a2_0 A2 e2 l2 a2_2 true W hC2 hc2 hk (A0_ (of_laid hL))).mono fun e W' ⟨he, bel⟩ => ?_
  subst he
  exact ⟨_, rfl, _, _, _, [], _, [], hW', trodAll_mk1 (shut_bool Tryd.underlying4 _), (trodAll_cons_mk (shut_int Tryd.underlying22 w0) (trodAll_cons_mk (shut_int Tryd.underlying23 w1) (trodAll_cons_mk (Below.trod laidOut (by kernel_rfl) (of_decide_eq_true (by kernel_rfl)) k2 bel lt2) trodAll_mk0))), rfl, bel.frame _, fun h => by cases h⟩
theorem over : Rows.wordValuesRow.holds Tryd.pinned (OpenSpec.ofChange Rows.wordValuesSpec) :=
  OpenClaim.holds_of_wide 4 Tryd.f4 rfl rfl rfl rfl rfl rfl rfl ⟨rfl, rfl, rfl, rfl, rfl⟩ rfl rfl rfl rfl rfl (by kernel_rfl) Tryd.func4 (by kernel_rfl)
    (of_decide_eq_true (by kernel_rfl)) (by unfold Func.isWrapper; first | (rw [if_pos (by decide +kernel)]; kernel_rfl) | (rw [if_neg (by decide +kernel)]; exact ⟨rfl, rfl⟩))
    (fun os started H enc _ => lifted os started H enc)
theorem proved : Rows.WordValuesSaid := over
theorem carded : Rows.WordValuesCardSaid :=
  Claim7.holds_tied_plain_at .later [] [.data] true (true, "d8d98cec911981a2f4da70b40ba0b79f0f5408e51e7b9e08d0f400617edf82fe") false
    proved (fun _ h => by cases h) (by kernel_rfl) (fun _ h => by cases h) wordValues_row_tie rfl ⟨rfl, rfl⟩ (by kernel_rfl) rfl
    (fun f fn hf hfn => by
      obtain rfl : f = 4 := Option.some.inj ((show Tryd.prog.funcNamed "cutplane/cutplanelaw03.WordValues" = some 4 by kernel_rfl).symm.trans hf) |>.symm
      obtain rfl : fn = Tryd.f4 := (Option.some.inj (Tryd.func4.symm.trans hfn)).symm
      exact ⟨by kernel_rfl, fun j t ht => by
        rw [Tryd.params4] at ht
        have hm : t ∈ [22, 23, 26] := by simpa using Array.mem_of_getElem? ht
        have hall : ([22, 23, 26].all fun u => !Tryd.prog.wantsStandIn u) = true := by kernel_rfl
        exact (show Tryd.prog.wantsStandIn t = false by simpa using List.all_eq_true.1 hall t hm)⟩)
    (by kernel_rfl)
#print axioms carded
end Go.Proofs.YthiklmgdmaemgaaDoor.wordValues
namespace Go.Proofs.YthiklmgdmaemgaaDoor
/-- The row, under a short name, for the claim. -/
theorem wordValues_holds : Rows.WordValuesCardSaid := wordValues.carded
end Go.Proofs.YthiklmgdmaemgaaDoor
