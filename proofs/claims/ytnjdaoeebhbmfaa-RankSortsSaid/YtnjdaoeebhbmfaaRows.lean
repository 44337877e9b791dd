/-
  No cell of these rows narrows 'for every input' (looked for: loops, veiled, ifaces, maps, wideKeys, modest, calm, conditions, laid).
  DERIVED. THE GIVEN ROWS OF THIS SEAT. 8 by the template 'for every input the law returns true; each argument reads behind the call as it read before'; 0 by the template 'total and deterministic' (their statements: YtnjdaoeebhbmfaaTotals.lean).
  GIVEN WITH THE SEED: the statements are not yours to turn. If you find one false, say at which input.
  Laid BY PROGRAM, IN A SANDBOX (cutbox-rows.mjs): the forced cells as the released guide's own fill.sh prints them over the translation 60e416c6fbdec2c0… (all of the seat's roots in one cut). By AI agents, Wed Nov 11 2026. No macro, syntax, notation, axiom, sorry.
-/
import Derived.Test.YtnjdaoeebhbmfaaChecked
import GoSem.Claim
import GoSem.ClaimJoined
import GoSem.ClaimMapViews
import Derived.JoinedTies
import Derived.KernelRfl
namespace Go.Proofs.Ytnjdaoeebhbmfaa
/- THE CELL 'sum', in the pinned program and in every row, IS THE sha256 OF THE DUMP (.gsa) THAT YtnjdaoeebhbmfaaProg.lean LOADS. Nothing in Lean hashes anything: it is a label: what it is worth is what the hold of that sum in a sandbox is worth. -/
noncomputable def Try.pinned : Pinned := { name := "ytnjdaoeebhbmfaa", sum := "60e416c6fbdec2c02be66754b38ce8ae3639a91437acd3a5d28d562f4b5c7b94", checked := Try.checked }
namespace Rows
def none {H : Type} : Left H := { results := [], args := [] }

/-- 'cutplanelaw07.RankOrders': WHATEVER THE INPUT: true; the input reads as it did. -/
def rankOrdersSpec : ChangeSpec := { name := "rankOrders", fn := fun _ => fun
  | [d1, d2, d3] => { results := [.lit (.bool true)], args := [d1, d2, d3] }
  | _ => none }
def rankOrdersRow : OpenClaim := { program := "ytnjdaoeebhbmfaa", sum := "60e416c6fbdec2c02be66754b38ce8ae3639a91437acd3a5d28d562f4b5c7b94", func := "cutplane/cutplanelaw07.RankOrders", spec := "rankOrders", unfollowed := true, recurses := true, apart := false }
def RankOrdersSaid : Prop := rankOrdersRow.holds Try.pinned (OpenSpec.ofChange rankOrdersSpec)

/-- ITS FALSE NEIGHBOUR: 'it returns false'. Refute it at one input. -/
def rankOrdersWrong : ChangeSpec := { name := "rankOrders", fn := fun _ => fun
  | [d1, d2, d3] => { results := [.lit (.bool false)], args := [d1, d2, d3] }
  | _ => none }
def RankOrdersWrongFalsely : Prop := rankOrdersRow.holds Try.pinned (OpenSpec.ofChange rankOrdersWrong)

/-- 'cutplanelaw07.RankTotal': WHATEVER THE INPUT: true; the input reads as it did. -/
def rankTotalSpec : ChangeSpec := { name := "rankTotal", fn := fun _ => fun
  | [d1, d2, d3, d4] => { results := [.lit (.bool true)], args := [d1, d2, d3, d4] }
  | _ => none }
def rankTotalRow : OpenClaim := { program := "ytnjdaoeebhbmfaa", sum := "60e416c6fbdec2c02be66754b38ce8ae3639a91437acd3a5d28d562f4b5c7b94", func := "cutplane/cutplanelaw07.RankTotal", spec := "rankTotal", unfollowed := true, recurses := true, apart := false }
def RankTotalSaid : Prop := rankTotalRow.holds Try.pinned (OpenSpec.ofChange rankTotalSpec)

/-- ITS FALSE NEIGHBOUR: 'it returns false'. Refute it at one input. -/
def rankTotalWrong : ChangeSpec := { name := "rankTotal", fn := fun _ => fun
  | [d1, d2, d3, d4] => { results := [.lit (.bool false)], args := [d1, d2, d3, d4] }
  | _ => none }
def RankTotalWrongFalsely : Prop := rankTotalRow.holds Try.pinned (OpenSpec.ofChange rankTotalWrong)

/-- 'cutplanelaw07.RankExtremes': WHATEVER THE INPUT: true; the input reads as it did. -/
def rankExtremesSpec : ChangeSpec := { name := "rankExtremes", fn := fun _ => fun
  | [d1, d2, d3] => { results := [.lit (.bool true)], args := [d1, d2, d3] }
  | _ => none }
def rankExtremesRow : OpenClaim := { program := "ytnjdaoeebhbmfaa", sum := "60e416c6fbdec2c02be66754b38ce8ae3639a91437acd3a5d28d562f4b5c7b94", func := "cutplane/cutplanelaw07.RankExtremes", spec := "rankExtremes", unfollowed := true, recurses := true, apart := false }
def RankExtremesSaid : Prop := rankExtremesRow.holds Try.pinned (OpenSpec.ofChange rankExtremesSpec)

/-- ITS FALSE NEIGHBOUR: 'it returns false'. Refute it at one input. -/
def rankExtremesWrong : ChangeSpec := { name := "rankExtremes", fn := fun _ => fun
  | [d1, d2, d3] => { results := [.lit (.bool false)], args := [d1, d2, d3] }
  | _ => none }
def RankExtremesWrongFalsely : Prop := rankExtremesRow.holds Try.pinned (OpenSpec.ofChange rankExtremesWrong)

/-- 'cutplanelaw07.RankLattice': WHATEVER THE INPUT: true; the input reads as it did. -/
def rankLatticeSpec : ChangeSpec := { name := "rankLattice", fn := fun _ => fun
  | [d1, d2, d3, d4] => { results := [.lit (.bool true)], args := [d1, d2, d3, d4] }
  | _ => none }
def rankLatticeRow : OpenClaim := { program := "ytnjdaoeebhbmfaa", sum := "60e416c6fbdec2c02be66754b38ce8ae3639a91437acd3a5d28d562f4b5c7b94", func := "cutplane/cutplanelaw07.RankLattice", spec := "rankLattice", unfollowed := true, recurses := true, apart := false }
def RankLatticeSaid : Prop := rankLatticeRow.holds Try.pinned (OpenSpec.ofChange rankLatticeSpec)

/-- ITS FALSE NEIGHBOUR: 'it returns false'. Refute it at one input. -/
def rankLatticeWrong : ChangeSpec := { name := "rankLattice", fn := fun _ => fun
  | [d1, d2, d3, d4] => { results := [.lit (.bool false)], args := [d1, d2, d3, d4] }
  | _ => none }
def RankLatticeWrongFalsely : Prop := rankLatticeRow.holds Try.pinned (OpenSpec.ofChange rankLatticeWrong)

/-- 'cutplanelaw07.RankSteps': WHATEVER THE INPUT: true; the input reads as it did. -/
def rankStepsSpec : ChangeSpec := { name := "rankSteps", fn := fun _ => fun
  | [d1, d2, d3, d4] => { results := [.lit (.bool true)], args := [d1, d2, d3, d4] }
  | _ => none }
def rankStepsRow : OpenClaim := { program := "ytnjdaoeebhbmfaa", sum := "60e416c6fbdec2c02be66754b38ce8ae3639a91437acd3a5d28d562f4b5c7b94", func := "cutplane/cutplanelaw07.RankSteps", spec := "rankSteps", unfollowed := true, recurses := true, apart := false }
def RankStepsSaid : Prop := rankStepsRow.holds Try.pinned (OpenSpec.ofChange rankStepsSpec)

/-- ITS FALSE NEIGHBOUR: 'it returns false'. Refute it at one input. -/
def rankStepsWrong : ChangeSpec := { name := "rankSteps", fn := fun _ => fun
  | [d1, d2, d3, d4] => { results := [.lit (.bool false)], args := [d1, d2, d3, d4] }
  | _ => none }
def RankStepsWrongFalsely : Prop := rankStepsRow.holds Try.pinned (OpenSpec.ofChange rankStepsWrong)

/-- 'cutplanelaw07.RankWalk': WHATEVER THE INPUT: true; the input reads as it did. -/
def rankWalkSpec : ChangeSpec := { name := "rankWalk", fn := fun _ => fun
  | [d1, d2, d3] => { results := [.lit (.bool true)], args := [d1, d2, d3] }
  | _ => none }
def rankWalkRow : OpenClaim := { program := "ytnjdaoeebhbmfaa", sum := "60e416c6fbdec2c02be66754b38ce8ae3639a91437acd3a5d28d562f4b5c7b94", func := "cutplane/cutplanelaw07.RankWalk", spec := "rankWalk", unfollowed := true, recurses := true, apart := false }
def RankWalkSaid : Prop := rankWalkRow.holds Try.pinned (OpenSpec.ofChange rankWalkSpec)

/-- ITS FALSE NEIGHBOUR: 'it returns false'. Refute it at one input. -/
def rankWalkWrong : ChangeSpec := { name := "rankWalk", fn := fun _ => fun
  | [d1, d2, d3] => { results := [.lit (.bool false)], args := [d1, d2, d3] }
  | _ => none }
def RankWalkWrongFalsely : Prop := rankWalkRow.holds Try.pinned (OpenSpec.ofChange rankWalkWrong)

/-- 'cutplanelaw07.RankSorts': WHATEVER THE INPUT: true; the input reads as it did. -/
def rankSortsSpec : ChangeSpec := { name := "rankSorts", fn := fun _ => fun
  | [d1, d2] => { results := [.lit (.bool true)], args := [d1, d2] }
  | _ => none }
def rankSortsRow : OpenClaim := { program := "ytnjdaoeebhbmfaa", sum := "60e416c6fbdec2c02be66754b38ce8ae3639a91437acd3a5d28d562f4b5c7b94", func := "cutplane/cutplanelaw07.RankSorts", spec := "rankSorts", unfollowed := true, recurses := true, apart := false }
def RankSortsSaid : Prop := rankSortsRow.holds Try.pinned (OpenSpec.ofChange rankSortsSpec)

/-- ITS FALSE NEIGHBOUR: 'it returns false'. Refute it at one input. -/
def rankSortsWrong : ChangeSpec := { name := "rankSorts", fn := fun _ => fun
  | [d1, d2] => { results := [.lit (.bool false)], args := [d1, d2] }
  | _ => none }
def RankSortsWrongFalsely : Prop := rankSortsRow.holds Try.pinned (OpenSpec.ofChange rankSortsWrong)

/-- 'cutplanelaw07.RankSorted': WHATEVER THE INPUT: true; the input reads as it did. -/
def rankSortedSpec : ChangeSpec := { name := "rankSorted", fn := fun _ => fun
  | [d1, d2] => { results := [.lit (.bool true)], args := [d1, d2] }
  | _ => none }
def rankSortedRow : OpenClaim := { program := "ytnjdaoeebhbmfaa", sum := "60e416c6fbdec2c02be66754b38ce8ae3639a91437acd3a5d28d562f4b5c7b94", func := "cutplane/cutplanelaw07.RankSorted", spec := "rankSorted", unfollowed := true, recurses := true, apart := false }
def RankSortedSaid : Prop := rankSortedRow.holds Try.pinned (OpenSpec.ofChange rankSortedSpec)

/-- ITS FALSE NEIGHBOUR: 'it returns false'. Refute it at one input. -/
def rankSortedWrong : ChangeSpec := { name := "rankSorted", fn := fun _ => fun
  | [d1, d2] => { results := [.lit (.bool false)], args := [d1, d2] }
  | _ => none }
def RankSortedWrongFalsely : Prop := rankSortedRow.holds Try.pinned (OpenSpec.ofChange rankSortedWrong)

/- THE SECOND FORM. 'bulk': how many values and letters a reading holds, each counted each time it is reached (what is shared counts as often as it is met; a slice's spare places count too). A statement '..UptoSaid' is the law's where the arguments, and the package variables that the reading takes, are together of bulk at most 1048576: NARROWER than '..Said'. Prove '..Said' where nothing that the law and all that it calls make is longer than what came in: it says more and counts as full. Else prove '..UptoSaid'. A law counts once. -/
mutual
def uptoBulk {H : Type} : DataW H → Nat
  | .lit (.string bytes) => bytes.length + 1
  | .lit _ => 1
  | .nil => 1
  | .ptr d => uptoBulk d + 1
  | .slice elems spare => uptoBulkAll elems + uptoBulkAll spare + 1
  | .agg parts => uptoBulkAll parts + 1
  | .iface _ d => uptoBulk d + 1
  | .map entries => uptoBulkEntries entries + 1
  | .held _ => 1
def uptoBulkAll {H : Type} : List (DataW H) → Nat
  | [] => 0
  | d :: r => uptoBulk d + uptoBulkAll r
def uptoBulkEntries {H : Type} : List (Lit × DataW H) → Nat
  | [] => 0
  | x :: r => uptoBulkEntry x + uptoBulkEntries r
def uptoBulkEntry {H : Type} : Lit × DataW H → Nat
  | (.string bytes, d) => bytes.length + uptoBulk d + 1
  | (_, d) => uptoBulk d + 1
 end
def uptoSmall : (H : Type) → List (DataW H) → Bool := fun _ ds => decide (uptoBulkAll ds ≤ 1048576)
def OpenSpec.upto (s : _root_.Go.ChangeSpec) : _root_.Go.OpenSpec := { _root_.Go.OpenSpec.ofChange s with cond := some uptoSmall }

/-- 'cutplanelaw07.RankOrders', WHERE WHAT IT READS IS OF BULK AT MOST 1048576: true; the input reads as it did. -/
def rankOrdersUptoRow : OpenClaim := { program := "ytnjdaoeebhbmfaa", sum := "60e416c6fbdec2c02be66754b38ce8ae3639a91437acd3a5d28d562f4b5c7b94", func := "cutplane/cutplanelaw07.RankOrders", spec := "rankOrders", unfollowed := true, recurses := true, apart := false, narrowed := true }
def RankOrdersUptoSaid : Prop := rankOrdersUptoRow.holds Try.pinned (OpenSpec.upto rankOrdersSpec)

/-- 'cutplanelaw07.RankTotal', WHERE WHAT IT READS IS OF BULK AT MOST 1048576: true; the input reads as it did. -/
def rankTotalUptoRow : OpenClaim := { program := "ytnjdaoeebhbmfaa", sum := "60e416c6fbdec2c02be66754b38ce8ae3639a91437acd3a5d28d562f4b5c7b94", func := "cutplane/cutplanelaw07.RankTotal", spec := "rankTotal", unfollowed := true, recurses := true, apart := false, narrowed := true }
def RankTotalUptoSaid : Prop := rankTotalUptoRow.holds Try.pinned (OpenSpec.upto rankTotalSpec)

/-- 'cutplanelaw07.RankExtremes', WHERE WHAT IT READS IS OF BULK AT MOST 1048576: true; the input reads as it did. -/
def rankExtremesUptoRow : OpenClaim := { program := "ytnjdaoeebhbmfaa", sum := "60e416c6fbdec2c02be66754b38ce8ae3639a91437acd3a5d28d562f4b5c7b94", func := "cutplane/cutplanelaw07.RankExtremes", spec := "rankExtremes", unfollowed := true, recurses := true, apart := false, narrowed := true }
def RankExtremesUptoSaid : Prop := rankExtremesUptoRow.holds Try.pinned (OpenSpec.upto rankExtremesSpec)

/-- 'cutplanelaw07.RankLattice', WHERE WHAT IT READS IS OF BULK AT MOST 1048576: true; the input reads as it did. -/
def rankLatticeUptoRow : OpenClaim := { program := "ytnjdaoeebhbmfaa", sum := "60e416c6fbdec2c02be66754b38ce8ae3639a91437acd3a5d28d562f4b5c7b94", func := "cutplane/cutplanelaw07.RankLattice", spec := "rankLattice", unfollowed := true, recurses := true, apart := false, narrowed := true }
def RankLatticeUptoSaid : Prop := rankLatticeUptoRow.holds Try.pinned (OpenSpec.upto rankLatticeSpec)

/-- 'cutplanelaw07.RankSteps', WHERE WHAT IT READS IS OF BULK AT MOST 1048576: true; the input reads as it did. -/
def rankStepsUptoRow : OpenClaim := { program := "ytnjdaoeebhbmfaa", sum := "60e416c6fbdec2c02be66754b38ce8ae3639a91437acd3a5d28d562f4b5c7b94", func := "cutplane/cutplanelaw07.RankSteps", spec := "rankSteps", unfollowed := true, recurses := true, apart := false, narrowed := true }
def RankStepsUptoSaid : Prop := rankStepsUptoRow.holds Try.pinned (OpenSpec.upto rankStepsSpec)

/-- 'cutplanelaw07.RankWalk', WHERE WHAT IT READS IS OF BULK AT MOST 1048576: true; the input reads as it did. -/
def rankWalkUptoRow : OpenClaim := { program := "ytnjdaoeebhbmfaa", sum := "60e416c6fbdec2c02be66754b38ce8ae3639a91437acd3a5d28d562f4b5c7b94", func := "cutplane/cutplanelaw07.RankWalk", spec := "rankWalk", unfollowed := true, recurses := true, apart := false, narrowed := true }
def RankWalkUptoSaid : Prop := rankWalkUptoRow.holds Try.pinned (OpenSpec.upto rankWalkSpec)

/-- 'cutplanelaw07.RankSorts', WHERE WHAT IT READS IS OF BULK AT MOST 1048576: true; the input reads as it did. -/
def rankSortsUptoRow : OpenClaim := { program := "ytnjdaoeebhbmfaa", sum := "60e416c6fbdec2c02be66754b38ce8ae3639a91437acd3a5d28d562f4b5c7b94", func := "cutplane/cutplanelaw07.RankSorts", spec := "rankSorts", unfollowed := true, recurses := true, apart := false, narrowed := true }
def RankSortsUptoSaid : Prop := rankSortsUptoRow.holds Try.pinned (OpenSpec.upto rankSortsSpec)

/-- 'cutplanelaw07.RankSorted', WHERE WHAT IT READS IS OF BULK AT MOST 1048576: true; the input reads as it did. -/
def rankSortedUptoRow : OpenClaim := { program := "ytnjdaoeebhbmfaa", sum := "60e416c6fbdec2c02be66754b38ce8ae3639a91437acd3a5d28d562f4b5c7b94", func := "cutplane/cutplanelaw07.RankSorted", spec := "rankSorted", unfollowed := true, recurses := true, apart := false, narrowed := true }
def RankSortedUptoSaid : Prop := rankSortedUptoRow.holds Try.pinned (OpenSpec.upto rankSortedSpec)

end Rows
end Go.Proofs.Ytnjdaoeebhbmfaa
