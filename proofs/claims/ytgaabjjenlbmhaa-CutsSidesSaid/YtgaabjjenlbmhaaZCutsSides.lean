/- The law CutsSides of the program: the row holds for every input that can be read: the call returns true and each argument reads as it did. No further condition. -/
import Derived.Test.YtgaabjjenlbmhaaSCutsSides0
import Derived.Test.YtgaabjjenlbmhaaSCutsSides1
import Derived.Test.YtgaabjjenlbmhaaSCutsSides2
import Derived.Test.YtgaabjjenlbmhaaSCutsSides3
import Derived.Test.YtgaabjjenlbmhaaSCutsSides4
import Derived.Test.YtgaabjjenlbmhaaSCutsSides5
import Derived.Test.YtgaabjjenlbmhaaSCutsSides6
import Derived.Test.YtgaabjjenlbmhaaSCutsSides7
import Derived.Test.YtgaabjjenlbmhaaSCutsSides8
import Derived.Test.YtgaabjjenlbmhaaSCutsSides9
import Derived.Test.YtgaabjjenlbmhaaSCutsSides10
import Derived.Test.YtgaabjjenlbmhaaSCutsSides11
import Derived.Test.YtgaabjjenlbmhaaSCutsSides12
import Derived.Test.YtgaabjjenlbmhaaSCutsSides13
import Derived.Test.YtgaabjjenlbmhaaRows
import Derived.WalkKit
import Derived.ProofKit
import Derived.OpenShut
import Derived.ShutString
import Derived.ChangeOld
import Derived.Below
import Derived.SizedLaws
import Derived.Lib.SmallJoins
namespace Go.Proofs.Ytgaabjjenlbmhaa.cutsSides
open Go.ChangeShapes Go.WideShapes Go.ChangeAt Go.RowKit
open Go.ChangeMaps (open_string shut_string)
open Go.Proofs.YtgaabjjenlbmhaaW
set_option linter.unusedVariables false
theorem own : ownKnob Try.prog.godebug = none := by kernel_rfl
theorem laidOut : laidOutB Try.prog = true := by kernel_rfl
def IsRow (k : IntKind) (w : World) (a : Option Addr) (len cap : Nat) (zs : List Int) : Prop :=
  (a = none ∧ len = 0 ∧ cap = 0 ∧ zs = []) ∨
  ∃ x, a = some x ∧ len ≤ cap ∧ cap ≤ maxLen ∧ zs.length = cap ∧ (∀ i, i < zs.length → w.cell? (x.add i) = some (.int k (zs.getD i 0))) ∧ ∀ n ∈ zs, (Lit.int k n).wf = true
set_option maxRecDepth 100000 in
theorem lifted (os : Os) (started : os.Started) (H : Type) (enc : TypeId × Value → H) :
    ReturnsInHanded {} Try.checked os 8 .any (Rows.cutsSidesSpec.pre6 enc Try.prog Try.f8 Rows.cutsSidesRow.domain false) (Rows.cutsSidesSpec.post enc Try.prog Try.f8 false true false false) := by
  refine returnsInHanded_of_change_sized (C := Try.checked) own started (by kernel_rfl) Try.func8
    (ChangeSpec.witness6 (enc := enc) (C := Try.checked) false ⟨#[], #[.int .u8 0, .int .u8 0, .agg #[.int .u64 0, .int .u64 0]], []⟩ 8 (by kernel_rfl) (by kernel_rfl) (by kernel_rfl) (by kernel_rfl)) ?_
  intro W base args ds gs before hval0 hW hcnd hsz0 _
  have hsz : (DataW.weightsEach Try.prog (Try.f8.params.toList ++ Rows.cutsSidesSpec.plain.varTypes Try.prog) (ds ++ gs)).all (· ≤ reachBytes) = true := hsz0
  have hval : ∀ (j : Nat) t v, Try.f8.params[j]? = some t → args[j]? = some v → Value.okWide Try.prog W .any base t v := hval0
  have hW' := hW
  obtain ⟨p, q, hA0, hV, rfl, hfz, hnd⟩ := hW
  have hA : DataW.TrodAll enc Try.prog W 0 (fun _ => true) true Try.f8.params.toList args.toList ds p := hA0
  rw [Try.params8] at hA hval hsz
  obtain ⟨v0, vs0, d0, ds0, p0, q0, hargs, rfl, rfl, h0, r0⟩ := trodAll_cons hA
  obtain ⟨v1, vs1, d1, ds1, p1, q1, rfl, rfl, rfl, h1, r1⟩ := trodAll_cons r0
  obtain ⟨v2, vs2, d2, ds2, p2, q2, rfl, rfl, rfl, h2, r2⟩ := trodAll_cons r1
  obtain ⟨rfl, rfl, rfl⟩ := trodAll_nil r2
  obtain rfl : args = #[v0, v1, v2] := by cases args; simp_all
  obtain ⟨rfl, rfl⟩ := trodVars_none hV
  obtain ⟨a0, rfl, rfl, rfl, w0⟩ := open_int Try.underlying22 (hval 0 22 v0 rfl rfl) h0
  obtain ⟨a1, rfl, rfl, rfl, w1⟩ := open_int Try.underlying46 (hval 1 46 v1 rfl rfl) h1
  have k2 := h2
  have lt2 : ∀ x ∈ p2, x.block < W.heap.size := by obtain ⟨m, hm⟩ := k2; exact DataW.trod_lt m _ _ _ hm
  obtain ⟨c2_0, c2_1, z2_0, z2_1, m2, rfl, rfl, rfl, hy2_0, hy2_1⟩ := Joins.open_agg2 Try.underlying25 (by kernel_rfl) (show Try.prog.cellsOf 25 = 2 by kernel_rfl) (hval 2 25 v2 rfl rfl) h2
  obtain ⟨a2_0, ee, rfl, w2_0⟩ := DataW.trod_int Try.underlying23 hy2_0
  obtain rfl : c2_0 = _ := List.head_eq_of_cons_eq ee
  clear ee
  obtain ⟨a2_1, ee, rfl, w2_1⟩ := DataW.trod_int Try.underlying23 hy2_1
  obtain rfl : c2_1 = _ := List.head_eq_of_cons_eq ee
  clear ee
  clear hA0 hval0 hsz0 hsz
  refine (PA.cutplanelaw20_CutsSides.walk Pure.CutsSides a0 a1 a2_0 a2_1 W w0 w1 w2_0 w2_1).mono fun e W' ⟨he, bel⟩ => ?_
  subst he
  exact ⟨_, rfl, _, _, _, [], _, [], hW', trodAll_mk1 (shut_bool Try.underlying4 _), (trodAll_cons_mk (shut_int Try.underlying22 w0) (trodAll_cons_mk (shut_int Try.underlying46 w1) (trodAll_cons_mk (Below.trod laidOut (by kernel_rfl) (of_decide_eq_true (by kernel_rfl)) k2 bel lt2) trodAll_mk0))), rfl, bel.frame _, fun h => by cases h⟩
theorem over : Rows.cutsSidesRow.holds Try.pinned (OpenSpec.ofChange Rows.cutsSidesSpec) :=
  OpenClaim.holds_of_wide 8 Try.f8 rfl rfl rfl rfl rfl rfl rfl ⟨rfl, rfl, rfl, rfl, rfl⟩ rfl rfl rfl rfl rfl (by kernel_rfl) Try.func8 (by kernel_rfl)
    (of_decide_eq_true (by kernel_rfl)) (by unfold Func.isWrapper; first | (rw [if_pos (by decide +kernel)]; kernel_rfl) | (rw [if_neg (by decide +kernel)]; exact ⟨rfl, rfl⟩))
    (fun os started H enc _ => lifted os started H enc)
theorem proved : Rows.CutsSidesSaid := over
#print axioms proved
end Go.Proofs.Ytgaabjjenlbmhaa.cutsSides
namespace Go.Proofs.Ytgaabjjenlbmhaa
/-- The row, under a short name, for the claim. -/
theorem cutsSides_holds : Rows.CutsSidesSaid := cutsSides.proved
end Go.Proofs.Ytgaabjjenlbmhaa
