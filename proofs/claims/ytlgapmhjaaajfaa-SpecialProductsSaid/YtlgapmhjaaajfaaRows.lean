/-
  No cell of these rows narrows 'for every input' (looked for: loops, veiled, ifaces, maps, wideKeys, modest, calm, conditions, laid).
  DERIVED. THE GIVEN ROWS OF THIS SEAT. 3 by the template 'for every input the law returns true; each argument reads behind the call as it read before'; 0 by the template 'total and deterministic' (their statements: YtlgapmhjaaajfaaTotals.lean).
  GIVEN WITH THE SEED: the statements are not yours to turn. If you find one false, say at which input.
  Laid BY PROGRAM, IN A SANDBOX (cutbox-rows.mjs): the forced cells as the released guide's own fill.sh prints them over the translation cb1a339d466392f3… (all of the seat's roots in one cut). By AI agents, Wed Nov 11 2026. No macro, syntax, notation, axiom, sorry.
-/
import Derived.Test.YtlgapmhjaaajfaaChecked
import GoSem.Claim
import GoSem.ClaimJoined
import GoSem.ClaimMapViews
import Derived.JoinedTies
import Derived.KernelRfl
namespace Go.Proofs.Ytlgapmhjaaajfaa
/- THE CELL 'sum', in the pinned program and in every row, IS THE sha256 OF THE DUMP (.gsa) THAT YtlgapmhjaaajfaaProg.lean LOADS. Nothing in Lean hashes anything: it is a label: what it is worth is what the hold of that sum in a sandbox is worth. -/
noncomputable def Try.pinned : Pinned := { name := "ytlgapmhjaaajfaa", sum := "cb1a339d466392f3c9bda0fc6910679e7d8c15835b57b3b412a15b12d0ae9a81", checked := Try.checked }
namespace Rows
def none {H : Type} : Left H := { results := [], args := [] }

/-- 'cutplanelaw11.SpecialProducts': WHATEVER THE INPUT: true; the input reads as it did. -/
def specialProductsSpec : ChangeSpec := { name := "specialProducts", fn := fun _ => fun
  | [d1, d2, d3, d4] => { results := [.lit (.bool true)], args := [d1, d2, d3, d4] }
  | _ => none }
def specialProductsRow : OpenClaim := { program := "ytlgapmhjaaajfaa", sum := "cb1a339d466392f3c9bda0fc6910679e7d8c15835b57b3b412a15b12d0ae9a81", func := "cutplane/cutplanelaw11.SpecialProducts", spec := "specialProducts", unfollowed := true, recurses := true, apart := false }
def SpecialProductsSaid : Prop := specialProductsRow.holds Try.pinned (OpenSpec.ofChange specialProductsSpec)

/-- ITS FALSE NEIGHBOUR: 'it returns false'. Refute it at one input. -/
def specialProductsWrong : ChangeSpec := { name := "specialProducts", fn := fun _ => fun
  | [d1, d2, d3, d4] => { results := [.lit (.bool false)], args := [d1, d2, d3, d4] }
  | _ => none }
def SpecialProductsWrongFalsely : Prop := specialProductsRow.holds Try.pinned (OpenSpec.ofChange specialProductsWrong)

/-- 'cutplanelaw11.SpecialBoxes': WHATEVER THE INPUT: true; the input reads as it did. -/
def specialBoxesSpec : ChangeSpec := { name := "specialBoxes", fn := fun _ => fun
  | [d1, d2] => { results := [.lit (.bool true)], args := [d1, d2] }
  | _ => none }
def specialBoxesRow : OpenClaim := { program := "ytlgapmhjaaajfaa", sum := "cb1a339d466392f3c9bda0fc6910679e7d8c15835b57b3b412a15b12d0ae9a81", func := "cutplane/cutplanelaw11.SpecialBoxes", spec := "specialBoxes", unfollowed := true, recurses := true, apart := false }
def SpecialBoxesSaid : Prop := specialBoxesRow.holds Try.pinned (OpenSpec.ofChange specialBoxesSpec)

/-- ITS FALSE NEIGHBOUR: 'it returns false'. Refute it at one input. -/
def specialBoxesWrong : ChangeSpec := { name := "specialBoxes", fn := fun _ => fun
  | [d1, d2] => { results := [.lit (.bool false)], args := [d1, d2] }
  | _ => none }
def SpecialBoxesWrongFalsely : Prop := specialBoxesRow.holds Try.pinned (OpenSpec.ofChange specialBoxesWrong)

/-- 'cutplanelaw11.SpecialKinds': WHATEVER THE INPUT: true; the input reads as it did. -/
def specialKindsSpec : ChangeSpec := { name := "specialKinds", fn := fun _ => fun
  | [d1, d2, d3, d4] => { results := [.lit (.bool true)], args := [d1, d2, d3, d4] }
  | _ => none }
def specialKindsRow : OpenClaim := { program := "ytlgapmhjaaajfaa", sum := "cb1a339d466392f3c9bda0fc6910679e7d8c15835b57b3b412a15b12d0ae9a81", func := "cutplane/cutplanelaw11.SpecialKinds", spec := "specialKinds", unfollowed := true, recurses := true, apart := false }
def SpecialKindsSaid : Prop := specialKindsRow.holds Try.pinned (OpenSpec.ofChange specialKindsSpec)

/-- ITS FALSE NEIGHBOUR: 'it returns false'. Refute it at one input. -/
def specialKindsWrong : ChangeSpec := { name := "specialKinds", fn := fun _ => fun
  | [d1, d2, d3, d4] => { results := [.lit (.bool false)], args := [d1, d2, d3, d4] }
  | _ => none }
def SpecialKindsWrongFalsely : Prop := specialKindsRow.holds Try.pinned (OpenSpec.ofChange specialKindsWrong)

/- THE SECOND FORM. 'bulk': how many values and letters a reading holds, each counted each time it is reached (what is shared counts as often as it is met; a slice's spare places count too). A statement '..UptoSaid' is the law's where the arguments, and the package variables that the reading takes, are together of bulk at most 1048576: NARROWER than '..Said'. Prove '..Said' where nothing that the law and all that it calls make is longer than what came in: it says more and counts as full. Else prove '..UptoSaid'. A law counts once. -/
mutual
def uptoBulk {H : Type} : DataW H → Nat
  | .lit (.string bytes) => bytes.length + 1
  | .lit _ => 1
  | .nil => 1
  | .ptr d => uptoBulk d + 1
  | .slice elems spare => uptoBulkAll elems + uptoBulkAll spare + 1
  | .agg parts => uptoBulkAll parts + 1
  | .iface _ d => uptoBulk d + 1
  | .map entries => uptoBulkEntries entries + 1
  | .held _ => 1
def uptoBulkAll {H : Type} : List (DataW H) → Nat
  | [] => 0
  | d :: r => uptoBulk d + uptoBulkAll r
def uptoBulkEntries {H : Type} : List (Lit × DataW H) → Nat
  | [] => 0
  | x :: r => uptoBulkEntry x + uptoBulkEntries r
def uptoBulkEntry {H : Type} : Lit × DataW H → Nat
  | (.string bytes, d) => bytes.length + uptoBulk d + 1
  | (_, d) => uptoBulk d + 1
 end
def uptoSmall : (H : Type) → List (DataW H) → Bool := fun _ ds => decide (uptoBulkAll ds ≤ 1048576)
def OpenSpec.upto (s : _root_.Go.ChangeSpec) : _root_.Go.OpenSpec := { _root_.Go.OpenSpec.ofChange s with cond := some uptoSmall }

/-- 'cutplanelaw11.SpecialProducts', WHERE WHAT IT READS IS OF BULK AT MOST 1048576: true; the input reads as it did. -/
def specialProductsUptoRow : OpenClaim := { program := "ytlgapmhjaaajfaa", sum := "cb1a339d466392f3c9bda0fc6910679e7d8c15835b57b3b412a15b12d0ae9a81", func := "cutplane/cutplanelaw11.SpecialProducts", spec := "specialProducts", unfollowed := true, recurses := true, apart := false, narrowed := true }
def SpecialProductsUptoSaid : Prop := specialProductsUptoRow.holds Try.pinned (OpenSpec.upto specialProductsSpec)

/-- 'cutplanelaw11.SpecialBoxes', WHERE WHAT IT READS IS OF BULK AT MOST 1048576: true; the input reads as it did. -/
def specialBoxesUptoRow : OpenClaim := { program := "ytlgapmhjaaajfaa", sum := "cb1a339d466392f3c9bda0fc6910679e7d8c15835b57b3b412a15b12d0ae9a81", func := "cutplane/cutplanelaw11.SpecialBoxes", spec := "specialBoxes", unfollowed := true, recurses := true, apart := false, narrowed := true }
def SpecialBoxesUptoSaid : Prop := specialBoxesUptoRow.holds Try.pinned (OpenSpec.upto specialBoxesSpec)

/-- 'cutplanelaw11.SpecialKinds', WHERE WHAT IT READS IS OF BULK AT MOST 1048576: true; the input reads as it did. -/
def specialKindsUptoRow : OpenClaim := { program := "ytlgapmhjaaajfaa", sum := "cb1a339d466392f3c9bda0fc6910679e7d8c15835b57b3b412a15b12d0ae9a81", func := "cutplane/cutplanelaw11.SpecialKinds", spec := "specialKinds", unfollowed := true, recurses := true, apart := false, narrowed := true }
def SpecialKindsUptoSaid : Prop := specialKindsUptoRow.holds Try.pinned (OpenSpec.upto specialKindsSpec)

end Rows
end Go.Proofs.Ytlgapmhjaaajfaa
