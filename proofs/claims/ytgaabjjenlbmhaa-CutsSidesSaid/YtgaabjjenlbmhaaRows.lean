/-
  No cell of these rows narrows 'for every input' (looked for: loops, veiled, ifaces, maps, wideKeys, modest, calm, conditions, laid).
  DERIVED. THE GIVEN ROWS OF THIS SEAT. 9 by the template 'for every input the law returns true; each argument reads behind the call as it read before'; 0 by the template 'total and deterministic' (their statements: YtgaabjjenlbmhaaTotals.lean).
  GIVEN WITH THE SEED: the statements are not yours to turn. If you find one false, say at which input.
  Laid BY PROGRAM, IN A SANDBOX (cutbox-rows.mjs): the forced cells as the released guide's own fill.sh prints them over the translation 3d4059c3f1f449d8… (all of the seat's roots in one cut). By AI agents, Wed Nov 11 2026. No macro, syntax, notation, axiom, sorry.
-/
import Derived.Test.YtgaabjjenlbmhaaChecked
import GoSem.Claim
import GoSem.ClaimJoined
import GoSem.ClaimMapViews
import Derived.JoinedTies
import Derived.KernelRfl
namespace Go.Proofs.Ytgaabjjenlbmhaa
/- THE CELL 'sum', in the pinned program and in every row, IS THE sha256 OF THE DUMP (.gsa) THAT YtgaabjjenlbmhaaProg.lean LOADS. Nothing in Lean hashes anything: it is a label: what it is worth is what the hold of that sum in a sandbox is worth. -/
noncomputable def Try.pinned : Pinned := { name := "ytgaabjjenlbmhaa", sum := "3d4059c3f1f449d8fd1befbe9ed66c0869a13238e9b56ec8e3d105cd72e8f6c1", checked := Try.checked }
namespace Rows
def none {H : Type} : Left H := { results := [], args := [] }

/-- 'cutplanelaw10.PairGroup': WHATEVER THE INPUT: true; the input reads as it did. -/
def pairGroupSpec : ChangeSpec := { name := "pairGroup", fn := fun _ => fun
  | [d1, d2, d3, d4] => { results := [.lit (.bool true)], args := [d1, d2, d3, d4] }
  | _ => none }
def pairGroupRow : OpenClaim := { program := "ytgaabjjenlbmhaa", sum := "3d4059c3f1f449d8fd1befbe9ed66c0869a13238e9b56ec8e3d105cd72e8f6c1", func := "cutplane/cutplanelaw10.PairGroup", spec := "pairGroup", unfollowed := true, recurses := true, apart := false }
def PairGroupSaid : Prop := pairGroupRow.holds Try.pinned (OpenSpec.ofChange pairGroupSpec)

/-- ITS FALSE NEIGHBOUR: 'it returns false'. Refute it at one input. -/
def pairGroupWrong : ChangeSpec := { name := "pairGroup", fn := fun _ => fun
  | [d1, d2, d3, d4] => { results := [.lit (.bool false)], args := [d1, d2, d3, d4] }
  | _ => none }
def PairGroupWrongFalsely : Prop := pairGroupRow.holds Try.pinned (OpenSpec.ofChange pairGroupWrong)

/-- 'cutplanelaw10.PairTurns': WHATEVER THE INPUT: true; the input reads as it did. -/
def pairTurnsSpec : ChangeSpec := { name := "pairTurns", fn := fun _ => fun
  | [d1, d2, d3] => { results := [.lit (.bool true)], args := [d1, d2, d3] }
  | _ => none }
def pairTurnsRow : OpenClaim := { program := "ytgaabjjenlbmhaa", sum := "3d4059c3f1f449d8fd1befbe9ed66c0869a13238e9b56ec8e3d105cd72e8f6c1", func := "cutplane/cutplanelaw10.PairTurns", spec := "pairTurns", unfollowed := true, recurses := true, apart := false }
def PairTurnsSaid : Prop := pairTurnsRow.holds Try.pinned (OpenSpec.ofChange pairTurnsSpec)

/-- ITS FALSE NEIGHBOUR: 'it returns false'. Refute it at one input. -/
def pairTurnsWrong : ChangeSpec := { name := "pairTurns", fn := fun _ => fun
  | [d1, d2, d3] => { results := [.lit (.bool false)], args := [d1, d2, d3] }
  | _ => none }
def PairTurnsWrongFalsely : Prop := pairTurnsRow.holds Try.pinned (OpenSpec.ofChange pairTurnsWrong)

/-- 'cutplanelaw10.PairClasses': WHATEVER THE INPUT: true; the input reads as it did. -/
def pairClassesSpec : ChangeSpec := { name := "pairClasses", fn := fun _ => fun
  | [d1, d2] => { results := [.lit (.bool true)], args := [d1, d2] }
  | _ => none }
def pairClassesRow : OpenClaim := { program := "ytgaabjjenlbmhaa", sum := "3d4059c3f1f449d8fd1befbe9ed66c0869a13238e9b56ec8e3d105cd72e8f6c1", func := "cutplane/cutplanelaw10.PairClasses", spec := "pairClasses", unfollowed := true, recurses := true, apart := false }
def PairClassesSaid : Prop := pairClassesRow.holds Try.pinned (OpenSpec.ofChange pairClassesSpec)

/-- ITS FALSE NEIGHBOUR: 'it returns false'. Refute it at one input. -/
def pairClassesWrong : ChangeSpec := { name := "pairClasses", fn := fun _ => fun
  | [d1, d2] => { results := [.lit (.bool false)], args := [d1, d2] }
  | _ => none }
def PairClassesWrongFalsely : Prop := pairClassesRow.holds Try.pinned (OpenSpec.ofChange pairClassesWrong)

/-- 'cutplanelaw10.PairProjects': WHATEVER THE INPUT: true; the input reads as it did. -/
def pairProjectsSpec : ChangeSpec := { name := "pairProjects", fn := fun _ => fun
  | [d1, d2] => { results := [.lit (.bool true)], args := [d1, d2] }
  | _ => none }
def pairProjectsRow : OpenClaim := { program := "ytgaabjjenlbmhaa", sum := "3d4059c3f1f449d8fd1befbe9ed66c0869a13238e9b56ec8e3d105cd72e8f6c1", func := "cutplane/cutplanelaw10.PairProjects", spec := "pairProjects", unfollowed := true, recurses := true, apart := false }
def PairProjectsSaid : Prop := pairProjectsRow.holds Try.pinned (OpenSpec.ofChange pairProjectsSpec)

/-- ITS FALSE NEIGHBOUR: 'it returns false'. Refute it at one input. -/
def pairProjectsWrong : ChangeSpec := { name := "pairProjects", fn := fun _ => fun
  | [d1, d2] => { results := [.lit (.bool false)], args := [d1, d2] }
  | _ => none }
def PairProjectsWrongFalsely : Prop := pairProjectsRow.holds Try.pinned (OpenSpec.ofChange pairProjectsWrong)

/-- 'cutplanelaw10.PairAlike': WHATEVER THE INPUT: true; the input reads as it did. -/
def pairAlikeSpec : ChangeSpec := { name := "pairAlike", fn := fun _ => fun
  | [d1, d2, d3] => { results := [.lit (.bool true)], args := [d1, d2, d3] }
  | _ => none }
def pairAlikeRow : OpenClaim := { program := "ytgaabjjenlbmhaa", sum := "3d4059c3f1f449d8fd1befbe9ed66c0869a13238e9b56ec8e3d105cd72e8f6c1", func := "cutplane/cutplanelaw10.PairAlike", spec := "pairAlike", unfollowed := true, recurses := true, apart := false }
def PairAlikeSaid : Prop := pairAlikeRow.holds Try.pinned (OpenSpec.ofChange pairAlikeSpec)

/-- ITS FALSE NEIGHBOUR: 'it returns false'. Refute it at one input. -/
def pairAlikeWrong : ChangeSpec := { name := "pairAlike", fn := fun _ => fun
  | [d1, d2, d3] => { results := [.lit (.bool false)], args := [d1, d2, d3] }
  | _ => none }
def PairAlikeWrongFalsely : Prop := pairAlikeRow.holds Try.pinned (OpenSpec.ofChange pairAlikeWrong)

/-- 'cutplanelaw20.CutsSides': WHATEVER THE INPUT: true; the input reads as it did. -/
def cutsSidesSpec : ChangeSpec := { name := "cutsSides", fn := fun _ => fun
  | [d1, d2, d3] => { results := [.lit (.bool true)], args := [d1, d2, d3] }
  | _ => none }
def cutsSidesRow : OpenClaim := { program := "ytgaabjjenlbmhaa", sum := "3d4059c3f1f449d8fd1befbe9ed66c0869a13238e9b56ec8e3d105cd72e8f6c1", func := "cutplane/cutplanelaw20.CutsSides", spec := "cutsSides", unfollowed := true, recurses := true, apart := false }
def CutsSidesSaid : Prop := cutsSidesRow.holds Try.pinned (OpenSpec.ofChange cutsSidesSpec)

/-- ITS FALSE NEIGHBOUR: 'it returns false'. Refute it at one input. -/
def cutsSidesWrong : ChangeSpec := { name := "cutsSides", fn := fun _ => fun
  | [d1, d2, d3] => { results := [.lit (.bool false)], args := [d1, d2, d3] }
  | _ => none }
def CutsSidesWrongFalsely : Prop := cutsSidesRow.holds Try.pinned (OpenSpec.ofChange cutsSidesWrong)

/-- 'cutplanelaw20.CutsApart': WHATEVER THE INPUT: true; the input reads as it did. -/
def cutsApartSpec : ChangeSpec := { name := "cutsApart", fn := fun _ => fun
  | [d1, d2, d3] => { results := [.lit (.bool true)], args := [d1, d2, d3] }
  | _ => none }
def cutsApartRow : OpenClaim := { program := "ytgaabjjenlbmhaa", sum := "3d4059c3f1f449d8fd1befbe9ed66c0869a13238e9b56ec8e3d105cd72e8f6c1", func := "cutplane/cutplanelaw20.CutsApart", spec := "cutsApart", unfollowed := true, recurses := true, apart := false }
def CutsApartSaid : Prop := cutsApartRow.holds Try.pinned (OpenSpec.ofChange cutsApartSpec)

/-- ITS FALSE NEIGHBOUR: 'it returns false'. Refute it at one input. -/
def cutsApartWrong : ChangeSpec := { name := "cutsApart", fn := fun _ => fun
  | [d1, d2, d3] => { results := [.lit (.bool false)], args := [d1, d2, d3] }
  | _ => none }
def CutsApartWrongFalsely : Prop := cutsApartRow.holds Try.pinned (OpenSpec.ofChange cutsApartWrong)

/-- 'cutplanelaw20.CutsTable': WHATEVER THE INPUT: true; the input reads as it did. -/
def cutsTableSpec : ChangeSpec := { name := "cutsTable", fn := fun _ => fun
  | [d] => { results := [.lit (.bool true)], args := [d] }
  | _ => none }
def cutsTableRow : OpenClaim := { program := "ytgaabjjenlbmhaa", sum := "3d4059c3f1f449d8fd1befbe9ed66c0869a13238e9b56ec8e3d105cd72e8f6c1", func := "cutplane/cutplanelaw20.CutsTable", spec := "cutsTable", unfollowed := true, recurses := true, apart := false }
def CutsTableSaid : Prop := cutsTableRow.holds Try.pinned (OpenSpec.ofChange cutsTableSpec)

/-- ITS FALSE NEIGHBOUR: 'it returns false'. Refute it at one input. -/
def cutsTableWrong : ChangeSpec := { name := "cutsTable", fn := fun _ => fun
  | [d] => { results := [.lit (.bool false)], args := [d] }
  | _ => none }
def CutsTableWrongFalsely : Prop := cutsTableRow.holds Try.pinned (OpenSpec.ofChange cutsTableWrong)

/-- 'cutplanelaw20.CutsMirror': WHATEVER THE INPUT: true; the input reads as it did. -/
def cutsMirrorSpec : ChangeSpec := { name := "cutsMirror", fn := fun _ => fun
  | [d1, d2, d3] => { results := [.lit (.bool true)], args := [d1, d2, d3] }
  | _ => none }
def cutsMirrorRow : OpenClaim := { program := "ytgaabjjenlbmhaa", sum := "3d4059c3f1f449d8fd1befbe9ed66c0869a13238e9b56ec8e3d105cd72e8f6c1", func := "cutplane/cutplanelaw20.CutsMirror", spec := "cutsMirror", unfollowed := true, recurses := true, apart := false }
def CutsMirrorSaid : Prop := cutsMirrorRow.holds Try.pinned (OpenSpec.ofChange cutsMirrorSpec)

/-- ITS FALSE NEIGHBOUR: 'it returns false'. Refute it at one input. -/
def cutsMirrorWrong : ChangeSpec := { name := "cutsMirror", fn := fun _ => fun
  | [d1, d2, d3] => { results := [.lit (.bool false)], args := [d1, d2, d3] }
  | _ => none }
def CutsMirrorWrongFalsely : Prop := cutsMirrorRow.holds Try.pinned (OpenSpec.ofChange cutsMirrorWrong)

/- THE SECOND FORM. 'bulk': how many values and letters a reading holds, each counted each time it is reached (what is shared counts as often as it is met; a slice's spare places count too). A statement '..UptoSaid' is the law's where the arguments, and the package variables that the reading takes, are together of bulk at most 1048576: NARROWER than '..Said'. Prove '..Said' where nothing that the law and all that it calls make is longer than what came in: it says more and counts as full. Else prove '..UptoSaid'. A law counts once. -/
mutual
def uptoBulk {H : Type} : DataW H → Nat
  | .lit (.string bytes) => bytes.length + 1
  | .lit _ => 1
  | .nil => 1
  | .ptr d => uptoBulk d + 1
  | .slice elems spare => uptoBulkAll elems + uptoBulkAll spare + 1
  | .agg parts => uptoBulkAll parts + 1
  | .iface _ d => uptoBulk d + 1
  | .map entries => uptoBulkEntries entries + 1
  | .held _ => 1
def uptoBulkAll {H : Type} : List (DataW H) → Nat
  | [] => 0
  | d :: r => uptoBulk d + uptoBulkAll r
def uptoBulkEntries {H : Type} : List (Lit × DataW H) → Nat
  | [] => 0
  | x :: r => uptoBulkEntry x + uptoBulkEntries r
def uptoBulkEntry {H : Type} : Lit × DataW H → Nat
  | (.string bytes, d) => bytes.length + uptoBulk d + 1
  | (_, d) => uptoBulk d + 1
 end
def uptoSmall : (H : Type) → List (DataW H) → Bool := fun _ ds => decide (uptoBulkAll ds ≤ 1048576)
def OpenSpec.upto (s : _root_.Go.ChangeSpec) : _root_.Go.OpenSpec := { _root_.Go.OpenSpec.ofChange s with cond := some uptoSmall }

/-- 'cutplanelaw10.PairGroup', WHERE WHAT IT READS IS OF BULK AT MOST 1048576: true; the input reads as it did. -/
def pairGroupUptoRow : OpenClaim := { program := "ytgaabjjenlbmhaa", sum := "3d4059c3f1f449d8fd1befbe9ed66c0869a13238e9b56ec8e3d105cd72e8f6c1", func := "cutplane/cutplanelaw10.PairGroup", spec := "pairGroup", unfollowed := true, recurses := true, apart := false, narrowed := true }
def PairGroupUptoSaid : Prop := pairGroupUptoRow.holds Try.pinned (OpenSpec.upto pairGroupSpec)

/-- 'cutplanelaw10.PairTurns', WHERE WHAT IT READS IS OF BULK AT MOST 1048576: true; the input reads as it did. -/
def pairTurnsUptoRow : OpenClaim := { program := "ytgaabjjenlbmhaa", sum := "3d4059c3f1f449d8fd1befbe9ed66c0869a13238e9b56ec8e3d105cd72e8f6c1", func := "cutplane/cutplanelaw10.PairTurns", spec := "pairTurns", unfollowed := true, recurses := true, apart := false, narrowed := true }
def PairTurnsUptoSaid : Prop := pairTurnsUptoRow.holds Try.pinned (OpenSpec.upto pairTurnsSpec)

/-- 'cutplanelaw10.PairClasses', WHERE WHAT IT READS IS OF BULK AT MOST 1048576: true; the input reads as it did. -/
def pairClassesUptoRow : OpenClaim := { program := "ytgaabjjenlbmhaa", sum := "3d4059c3f1f449d8fd1befbe9ed66c0869a13238e9b56ec8e3d105cd72e8f6c1", func := "cutplane/cutplanelaw10.PairClasses", spec := "pairClasses", unfollowed := true, recurses := true, apart := false, narrowed := true }
def PairClassesUptoSaid : Prop := pairClassesUptoRow.holds Try.pinned (OpenSpec.upto pairClassesSpec)

/-- 'cutplanelaw10.PairProjects', WHERE WHAT IT READS IS OF BULK AT MOST 1048576: true; the input reads as it did. -/
def pairProjectsUptoRow : OpenClaim := { program := "ytgaabjjenlbmhaa", sum := "3d4059c3f1f449d8fd1befbe9ed66c0869a13238e9b56ec8e3d105cd72e8f6c1", func := "cutplane/cutplanelaw10.PairProjects", spec := "pairProjects", unfollowed := true, recurses := true, apart := false, narrowed := true }
def PairProjectsUptoSaid : Prop := pairProjectsUptoRow.holds Try.pinned (OpenSpec.upto pairProjectsSpec)

/-- 'cutplanelaw10.PairAlike', WHERE WHAT IT READS IS OF BULK AT MOST 1048576: true; the input reads as it did. -/
def pairAlikeUptoRow : OpenClaim := { program := "ytgaabjjenlbmhaa", sum := "3d4059c3f1f449d8fd1befbe9ed66c0869a13238e9b56ec8e3d105cd72e8f6c1", func := "cutplane/cutplanelaw10.PairAlike", spec := "pairAlike", unfollowed := true, recurses := true, apart := false, narrowed := true }
def PairAlikeUptoSaid : Prop := pairAlikeUptoRow.holds Try.pinned (OpenSpec.upto pairAlikeSpec)

/-- 'cutplanelaw20.CutsSides', WHERE WHAT IT READS IS OF BULK AT MOST 1048576: true; the input reads as it did. -/
def cutsSidesUptoRow : OpenClaim := { program := "ytgaabjjenlbmhaa", sum := "3d4059c3f1f449d8fd1befbe9ed66c0869a13238e9b56ec8e3d105cd72e8f6c1", func := "cutplane/cutplanelaw20.CutsSides", spec := "cutsSides", unfollowed := true, recurses := true, apart := false, narrowed := true }
def CutsSidesUptoSaid : Prop := cutsSidesUptoRow.holds Try.pinned (OpenSpec.upto cutsSidesSpec)

/-- 'cutplanelaw20.CutsApart', WHERE WHAT IT READS IS OF BULK AT MOST 1048576: true; the input reads as it did. -/
def cutsApartUptoRow : OpenClaim := { program := "ytgaabjjenlbmhaa", sum := "3d4059c3f1f449d8fd1befbe9ed66c0869a13238e9b56ec8e3d105cd72e8f6c1", func := "cutplane/cutplanelaw20.CutsApart", spec := "cutsApart", unfollowed := true, recurses := true, apart := false, narrowed := true }
def CutsApartUptoSaid : Prop := cutsApartUptoRow.holds Try.pinned (OpenSpec.upto cutsApartSpec)

/-- 'cutplanelaw20.CutsTable', WHERE WHAT IT READS IS OF BULK AT MOST 1048576: true; the input reads as it did. -/
def cutsTableUptoRow : OpenClaim := { program := "ytgaabjjenlbmhaa", sum := "3d4059c3f1f449d8fd1befbe9ed66c0869a13238e9b56ec8e3d105cd72e8f6c1", func := "cutplane/cutplanelaw20.CutsTable", spec := "cutsTable", unfollowed := true, recurses := true, apart := false, narrowed := true }
def CutsTableUptoSaid : Prop := cutsTableUptoRow.holds Try.pinned (OpenSpec.upto cutsTableSpec)

/-- 'cutplanelaw20.CutsMirror', WHERE WHAT IT READS IS OF BULK AT MOST 1048576: true; the input reads as it did. -/
def cutsMirrorUptoRow : OpenClaim := { program := "ytgaabjjenlbmhaa", sum := "3d4059c3f1f449d8fd1befbe9ed66c0869a13238e9b56ec8e3d105cd72e8f6c1", func := "cutplane/cutplanelaw20.CutsMirror", spec := "cutsMirror", unfollowed := true, recurses := true, apart := false, narrowed := true }
def CutsMirrorUptoSaid : Prop := cutsMirrorUptoRow.holds Try.pinned (OpenSpec.upto cutsMirrorSpec)

end Rows
end Go.Proofs.Ytgaabjjenlbmhaa
