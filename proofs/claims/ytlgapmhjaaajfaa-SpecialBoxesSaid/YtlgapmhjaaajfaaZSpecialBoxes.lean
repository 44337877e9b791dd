/- The law SpecialBoxes of the program: the row holds for every input that can be read: the call returns true and each argument reads as it did. No further condition. -/
import Derived.Test.YtlgapmhjaaajfaaSSpecialBoxes0
import Derived.Test.YtlgapmhjaaajfaaSSpecialBoxes1
import Derived.Test.YtlgapmhjaaajfaaSSpecialBoxes2
import Derived.Test.YtlgapmhjaaajfaaSSpecialBoxes3
import Derived.Test.YtlgapmhjaaajfaaSSpecialBoxes4
import Derived.Test.YtlgapmhjaaajfaaSSpecialBoxes5
import Derived.Test.YtlgapmhjaaajfaaSSpecialBoxes6
import Derived.Test.YtlgapmhjaaajfaaSSpecialBoxes7
import Derived.Test.YtlgapmhjaaajfaaSSpecialBoxes8
import Derived.Test.YtlgapmhjaaajfaaSSpecialBoxes9
import Derived.Test.YtlgapmhjaaajfaaSSpecialBoxes10
import Derived.Test.YtlgapmhjaaajfaaRows
import Derived.WalkKit
import Derived.ProofKit
import Derived.OpenShut
import Derived.ShutString
import Derived.ChangeOld
import Derived.Below
import Derived.SizedLaws
import Derived.Lib.SmallJoins
namespace Go.Proofs.Ytlgapmhjaaajfaa.specialBoxes
open Go.ChangeShapes Go.WideShapes Go.ChangeAt Go.RowKit
open Go.ChangeMaps (open_string shut_string)
open Go.Proofs.YtlgapmhjaaajfaaW
set_option linter.unusedVariables false
theorem own : ownKnob Try.prog.godebug = none := by kernel_rfl
theorem laidOut : laidOutB Try.prog = true := by kernel_rfl
def IsRow (k : IntKind) (w : World) (a : Option Addr) (len cap : Nat) (zs : List Int) : Prop :=
  (a = none ∧ len = 0 ∧ cap = 0 ∧ zs = []) ∨
  ∃ x, a = some x ∧ len ≤ cap ∧ cap ≤ maxLen ∧ zs.length = cap ∧ (∀ i, i < zs.length → w.cell? (x.add i) = some (.int k (zs.getD i 0))) ∧ ∀ n ∈ zs, (Lit.int k n).wf = true
set_option maxRecDepth 100000 in
theorem lifted (os : Os) (started : os.Started) (H : Type) (enc : TypeId × Value → H) :
    ReturnsInHanded {} Try.checked os 4 .any (Rows.specialBoxesSpec.pre6 enc Try.prog Try.f4 Rows.specialBoxesRow.domain false) (Rows.specialBoxesSpec.post enc Try.prog Try.f4 false true false false) := by
  refine returnsInHanded_of_change_sized (C := Try.checked) own started (by kernel_rfl) Try.func4
    (ChangeSpec.witness6 (enc := enc) (C := Try.checked) false ⟨#[], #[.int .u8 0, .agg #[.int .u64 0, .int .u64 0]], []⟩ 8 (by kernel_rfl) (by kernel_rfl) (by kernel_rfl) (by kernel_rfl)) ?_
  intro W base args ds gs before hval0 hW hcnd hsz0 _
  have hsz : (DataW.weightsEach Try.prog (Try.f4.params.toList ++ Rows.specialBoxesSpec.plain.varTypes Try.prog) (ds ++ gs)).all (· ≤ reachBytes) = true := hsz0
  have hval : ∀ (j : Nat) t v, Try.f4.params[j]? = some t → args[j]? = some v → Value.okWide Try.prog W .any base t v := hval0
  have hW' := hW
  obtain ⟨p, q, hA0, hV, rfl, hfz, hnd⟩ := hW
  have hA : DataW.TrodAll enc Try.prog W 0 (fun _ => true) true Try.f4.params.toList args.toList ds p := hA0
  rw [Try.params4] at hA hval hsz
  obtain ⟨v0, vs0, d0, ds0, p0, q0, hargs, rfl, rfl, h0, r0⟩ := trodAll_cons hA
  obtain ⟨v1, vs1, d1, ds1, p1, q1, rfl, rfl, rfl, h1, r1⟩ := trodAll_cons r0
  obtain ⟨rfl, rfl, rfl⟩ := trodAll_nil r1
  obtain rfl : args = #[v0, v1] := by cases args; simp_all
  obtain ⟨rfl, rfl⟩ := trodVars_none hV
  obtain ⟨a0, rfl, rfl, rfl, w0⟩ := open_int Try.underlying22 (hval 0 22 v0 rfl rfl) h0
  have k1 := h1
  have lt1 : ∀ x ∈ p1, x.block < W.heap.size := by obtain ⟨m, hm⟩ := k1; exact DataW.trod_lt m _ _ _ hm
  obtain ⟨c1_0, c1_1, z1_0, z1_1, m1, rfl, rfl, rfl, hy1_0, hy1_1⟩ := Joins.open_agg2 Try.underlying26 (by kernel_rfl) (show Try.prog.cellsOf 26 = 2 by kernel_rfl) (hval 1 26 v1 rfl rfl) h1
  obtain ⟨a1_0, ee, rfl, w1_0⟩ := DataW.trod_int Try.underlying24 hy1_0
  obtain rfl : c1_0 = _ := List.head_eq_of_cons_eq ee
  clear ee
  obtain ⟨a1_1, ee, rfl, w1_1⟩ := DataW.trod_int Try.underlying24 hy1_1
  obtain rfl : c1_1 = _ := List.head_eq_of_cons_eq ee
  clear ee
  clear hA0 hval0 hsz0 hsz
  refine (PA.cutplanelaw11_SpecialBoxes.walk Pure.SpecialBoxes a0 a1_0 a1_1 W w0 w1_0 w1_1).mono fun e W' ⟨he, bel⟩ => ?_
  subst he
  exact ⟨_, rfl, _, _, _, [], _, [], hW', trodAll_mk1 (shut_bool Try.underlying4 _), (trodAll_cons_mk (shut_int Try.underlying22 w0) (trodAll_cons_mk (Below.trod laidOut (by kernel_rfl) (of_decide_eq_true (by kernel_rfl)) k1 bel lt1) trodAll_mk0)), rfl, bel.frame _, fun h => by cases h⟩
theorem over : Rows.specialBoxesRow.holds Try.pinned (OpenSpec.ofChange Rows.specialBoxesSpec) :=
  OpenClaim.holds_of_wide 4 Try.f4 rfl rfl rfl rfl rfl rfl rfl ⟨rfl, rfl, rfl, rfl, rfl⟩ rfl rfl rfl rfl rfl (by kernel_rfl) Try.func4 (by kernel_rfl)
    (of_decide_eq_true (by kernel_rfl)) (by unfold Func.isWrapper; first | (rw [if_pos (by decide +kernel)]; kernel_rfl) | (rw [if_neg (by decide +kernel)]; exact ⟨rfl, rfl⟩))
    (fun os started H enc _ => lifted os started H enc)
theorem proved : Rows.SpecialBoxesSaid := over
#print axioms proved
end Go.Proofs.Ytlgapmhjaaajfaa.specialBoxes
namespace Go.Proofs.Ytlgapmhjaaajfaa
/-- The row, under a short name, for the claim. -/
theorem specialBoxes_holds : Rows.SpecialBoxesSaid := specialBoxes.proved
end Go.Proofs.Ytlgapmhjaaajfaa
