/- The law SpecialQuotients of the program: the row holds for every input that can be read: the call returns true and each argument reads as it did. No further condition. -/
import Derived.Test.YtlgapmhjaaajfaaGreatSSpecialQuotients0
import Derived.Test.YtlgapmhjaaajfaaGreatSSpecialQuotients1
import Derived.Test.YtlgapmhjaaajfaaGreatSSpecialQuotients2
import Derived.Test.YtlgapmhjaaajfaaGreatSSpecialQuotients3
import Derived.Test.YtlgapmhjaaajfaaGreatSSpecialQuotients4
import Derived.Test.YtlgapmhjaaajfaaGreatSSpecialQuotients5
import Derived.Test.YtlgapmhjaaajfaaGreatSSpecialQuotients6
import Derived.Test.YtlgapmhjaaajfaaGreatSSpecialQuotients7
import Derived.Test.YtlgapmhjaaajfaaGreatSSpecialQuotients8
import Derived.Test.YtlgapmhjaaajfaaGreatSSpecialQuotients9
import Derived.Test.YtlgapmhjaaajfaaGreatSSpecialQuotients10
import Derived.Test.YtlgapmhjaaajfaaGreatSSpecialQuotients11
import Derived.Test.YtlgapmhjaaajfaaGreatSSpecialQuotients12
import Derived.Test.YtlgapmhjaaajfaaGreatSSpecialQuotients13
import Derived.Test.YtlgapmhjaaajfaaGreatSSpecialQuotients14
import Derived.Test.YtlgapmhjaaajfaaGreatRows
import Derived.WalkKit
import Derived.ProofKit
import Derived.OpenShut
import Derived.ShutString
import Derived.ChangeOld
import Derived.Below
import Derived.SizedLaws
import Derived.Lib.SmallJoins
namespace Go.Proofs.YtlgapmhjaaajfaaGreat.specialQuotients
open Go.ChangeShapes Go.WideShapes Go.ChangeAt Go.RowKit
open Go.ChangeMaps (open_string shut_string)
open Go.Proofs.YtlgapmhjaaajfaaGreatW
set_option linter.unusedVariables false
theorem own : ownKnob Tryz.prog.godebug = none := by kernel_rfl
theorem laidOut : laidOutB Tryz.prog = true := by kernel_rfl
def IsRow (k : IntKind) (w : World) (a : Option Addr) (len cap : Nat) (zs : List Int) : Prop :=
  (a = none ∧ len = 0 ∧ cap = 0 ∧ zs = []) ∨
  ∃ x, a = some x ∧ len ≤ cap ∧ cap ≤ maxLen ∧ zs.length = cap ∧ (∀ i, i < zs.length → w.cell? (x.add i) = some (.int k (zs.getD i 0))) ∧ ∀ n ∈ zs, (Lit.int k n).wf = true
set_option maxRecDepth 100000 in
theorem lifted (os : Os) (started : os.Started) (H : Type) (enc : TypeId × Value → H) :
    ReturnsInHanded {} Tryz.checked os 3 .any (Rows.specialQuotientsSpec.pre6 enc Tryz.prog Tryz.f3 Rows.specialQuotientsRow.domain false) (Rows.specialQuotientsSpec.post enc Tryz.prog Tryz.f3 false true false false) := by
  refine returnsInHanded_of_change_sized (C := Tryz.checked) own started (by kernel_rfl) Tryz.func3
    (ChangeSpec.witness6 (enc := enc) (C := Tryz.checked) false ⟨#[], #[.int .u8 0, .int .u8 0, .agg #[.int .u64 0, .int .u64 0], .agg #[.int .u64 0, .int .u64 0]], []⟩ 8 (by kernel_rfl) (by kernel_rfl) (by kernel_rfl) (by kernel_rfl)) ?_
  intro W base args ds gs before hval0 hW hcnd hsz0 _
  have hsz : (DataW.weightsEach Tryz.prog (Tryz.f3.params.toList ++ Rows.specialQuotientsSpec.plain.varTypes Tryz.prog) (ds ++ gs)).all (· ≤ reachBytes) = true := hsz0
  have hval : ∀ (j : Nat) t v, Tryz.f3.params[j]? = some t → args[j]? = some v → Value.okWide Tryz.prog W .any base t v := hval0
  have hW' := hW
  obtain ⟨p, q, hA0, hV, rfl, hfz, hnd⟩ := hW
  have hA : DataW.TrodAll enc Tryz.prog W 0 (fun _ => true) true Tryz.f3.params.toList args.toList ds p := hA0
  rw [Tryz.params3] at hA hval hsz
  obtain ⟨v0, vs0, d0, ds0, p0, q0, hargs, rfl, rfl, h0, r0⟩ := trodAll_cons hA
  obtain ⟨v1, vs1, d1, ds1, p1, q1, rfl, rfl, rfl, h1, r1⟩ := trodAll_cons r0
  obtain ⟨v2, vs2, d2, ds2, p2, q2, rfl, rfl, rfl, h2, r2⟩ := trodAll_cons r1
  obtain ⟨v3, vs3, d3, ds3, p3, q3, rfl, rfl, rfl, h3, r3⟩ := trodAll_cons r2
  obtain ⟨rfl, rfl, rfl⟩ := trodAll_nil r3
  obtain rfl : args = #[v0, v1, v2, v3] := by cases args; simp_all
  obtain ⟨rfl, rfl⟩ := trodVars_none hV
  obtain ⟨a0, rfl, rfl, rfl, w0⟩ := open_int Tryz.underlying22 (hval 0 22 v0 rfl rfl) h0
  obtain ⟨a1, rfl, rfl, rfl, w1⟩ := open_int Tryz.underlying23 (hval 1 23 v1 rfl rfl) h1
  have k2 := h2
  have lt2 : ∀ x ∈ p2, x.block < W.heap.size := by obtain ⟨m, hm⟩ := k2; exact DataW.trod_lt m _ _ _ hm
  obtain ⟨c2_0, c2_1, z2_0, z2_1, m2, rfl, rfl, rfl, hy2_0, hy2_1⟩ := Joins.open_agg2 Tryz.underlying26 (by kernel_rfl) (show Tryz.prog.cellsOf 26 = 2 by kernel_rfl) (hval 2 26 v2 rfl rfl) h2
  obtain ⟨a2_0, ee, rfl, w2_0⟩ := DataW.trod_int Tryz.underlying24 hy2_0
  obtain rfl : c2_0 = _ := List.head_eq_of_cons_eq ee
  clear ee
  obtain ⟨a2_1, ee, rfl, w2_1⟩ := DataW.trod_int Tryz.underlying24 hy2_1
  obtain rfl : c2_1 = _ := List.head_eq_of_cons_eq ee
  clear ee
  have k3 := h3
  have lt3 : ∀ x ∈ p3, x.block < W.heap.size := by obtain ⟨m, hm⟩ := k3; exact DataW.trod_lt m _ _ _ hm
  obtain ⟨c3_0, c3_1, z3_0, z3_1, m3, rfl, rfl, rfl, hy3_0, hy3_1⟩ := Joins.open_agg2 Tryz.underlying26 (by kernel_rfl) (show Tryz.prog.cellsOf 26 = 2 by kernel_rfl) (hval 3 26 v3 rfl rfl) h3
  obtain ⟨a3_0, ee, rfl, w3_0⟩ := DataW.trod_int Tryz.underlying24 hy3_0
  obtain rfl : c3_0 = _ := List.head_eq_of_cons_eq ee
  clear ee
  obtain ⟨a3_1, ee, rfl, w3_1⟩ := DataW.trod_int Tryz.underlying24 hy3_1
  obtain rfl : c3_1 = _ := List.head_eq_of_cons_eq ee
  clear ee
  clear hA0 hval0 hsz0 hsz
  refine (PA.cutplanelaw11_SpecialQuotients.walk Pure.SpecialQuotients a0 a1 a2_0 a2_1 a3_0 a3_1 W w0 w1 w2_0 w2_1 w3_0 w3_1).mono fun e W' ⟨he, bel⟩ => ?_
  subst he
  exact ⟨_, rfl, _, _, _, [], _, [], hW', trodAll_mk1 (shut_bool Tryz.underlying4 _), (trodAll_cons_mk (shut_int Tryz.underlying22 w0) (trodAll_cons_mk (shut_int Tryz.underlying23 w1) (trodAll_cons_mk (Below.trod laidOut (by kernel_rfl) (of_decide_eq_true (by kernel_rfl)) k2 bel lt2) (trodAll_cons_mk (Below.trod laidOut (by kernel_rfl) (of_decide_eq_true (by kernel_rfl)) k3 bel lt3) trodAll_mk0)))), rfl, bel.frame _, fun h => by cases h⟩
theorem over : Rows.specialQuotientsRow.holds Tryz.pinned (OpenSpec.ofChange Rows.specialQuotientsSpec) :=
  OpenClaim.holds_of_wide 3 Tryz.f3 rfl rfl rfl rfl rfl rfl rfl ⟨rfl, rfl, rfl, rfl, rfl⟩ rfl rfl rfl rfl rfl (by kernel_rfl) Tryz.func3 (by kernel_rfl)
    (of_decide_eq_true (by kernel_rfl)) (by unfold Func.isWrapper; first | (rw [if_pos (by decide +kernel)]; kernel_rfl) | (rw [if_neg (by decide +kernel)]; exact ⟨rfl, rfl⟩))
    (fun os started H enc _ => lifted os started H enc)
theorem proved : Rows.SpecialQuotientsSaid := over
#print axioms proved
end Go.Proofs.YtlgapmhjaaajfaaGreat.specialQuotients
namespace Go.Proofs.YtlgapmhjaaajfaaGreat
/-- The row, under a short name, for the claim. -/
theorem specialQuotients_holds : Rows.SpecialQuotientsSaid := specialQuotients.proved
end Go.Proofs.YtlgapmhjaaajfaaGreat
