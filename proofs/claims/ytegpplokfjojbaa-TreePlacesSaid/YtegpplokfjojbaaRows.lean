/-
  No cell of these rows narrows 'for every input' (looked for: loops, veiled, ifaces, maps, wideKeys, modest, calm, conditions, laid).
  DERIVED. THE GIVEN ROWS OF THIS SEAT. 9 by the template 'for every input the law returns true; each argument reads behind the call as it read before'; 0 by the template 'total and deterministic' (their statements: YtegpplokfjojbaaTotals.lean).
  GIVEN WITH THE SEED: the statements are not yours to turn. If you find one false, say at which input.
  Laid BY PROGRAM, IN A SANDBOX (cutbox-rows.mjs): the forced cells as the released guide's own fill.sh prints them over the translation 479a94376935ac6f… (all of the seat's roots in one cut). By AI agents, Wed Nov 11 2026. No macro, syntax, notation, axiom, sorry.
-/
import Derived.Test.YtegpplokfjojbaaChecked
import GoSem.Claim
import GoSem.ClaimJoined
import GoSem.ClaimMapViews
import Derived.JoinedTies
import Derived.KernelRfl
namespace Go.Proofs.Ytegpplokfjojbaa
/- THE CELL 'sum', in the pinned program and in every row, IS THE sha256 OF THE DUMP (.gsa) THAT YtegpplokfjojbaaProg.lean LOADS. Nothing in Lean hashes anything: it is a label: what it is worth is what the hold of that sum in a sandbox is worth. -/
noncomputable def Try.pinned : Pinned := { name := "ytegpplokfjojbaa", sum := "479a94376935ac6f3d23cf29be4417573046ad6a06f2c94c7f4e0b4f02363cc4", checked := Try.checked }
namespace Rows
def none {H : Type} : Left H := { results := [], args := [] }

/-- 'jostlelaw02.OrdParts': WHATEVER THE INPUT: true; the input reads as it did. -/
def ordPartsSpec : ChangeSpec := { name := "ordParts", fn := fun _ => fun
  | [d1, d2, d3] => { results := [.lit (.bool true)], args := [d1, d2, d3] }
  | _ => none }
def ordPartsRow : OpenClaim := { program := "ytegpplokfjojbaa", sum := "479a94376935ac6f3d23cf29be4417573046ad6a06f2c94c7f4e0b4f02363cc4", func := "jostle/jostlelaw02.OrdParts", spec := "ordParts", apart := false }
def OrdPartsSaid : Prop := ordPartsRow.holds Try.pinned (OpenSpec.ofChange ordPartsSpec)

/-- ITS FALSE NEIGHBOUR: 'it returns false'. Refute it at one input. -/
def ordPartsWrong : ChangeSpec := { name := "ordParts", fn := fun _ => fun
  | [d1, d2, d3] => { results := [.lit (.bool false)], args := [d1, d2, d3] }
  | _ => none }
def OrdPartsWrongFalsely : Prop := ordPartsRow.holds Try.pinned (OpenSpec.ofChange ordPartsWrong)

/-- 'jostlelaw02.OrdOrders': WHATEVER THE INPUT: true; the input reads as it did. -/
def ordOrdersSpec : ChangeSpec := { name := "ordOrders", fn := fun _ => fun
  | [d1, d2] => { results := [.lit (.bool true)], args := [d1, d2] }
  | _ => none }
def ordOrdersRow : OpenClaim := { program := "ytegpplokfjojbaa", sum := "479a94376935ac6f3d23cf29be4417573046ad6a06f2c94c7f4e0b4f02363cc4", func := "jostle/jostlelaw02.OrdOrders", spec := "ordOrders", apart := false }
def OrdOrdersSaid : Prop := ordOrdersRow.holds Try.pinned (OpenSpec.ofChange ordOrdersSpec)

/-- ITS FALSE NEIGHBOUR: 'it returns false'. Refute it at one input. -/
def ordOrdersWrong : ChangeSpec := { name := "ordOrders", fn := fun _ => fun
  | [d1, d2] => { results := [.lit (.bool false)], args := [d1, d2] }
  | _ => none }
def OrdOrdersWrongFalsely : Prop := ordOrdersRow.holds Try.pinned (OpenSpec.ofChange ordOrdersWrong)

/-- 'jostlelaw02.OrdVals': WHATEVER THE INPUT: true; the input reads as it did. -/
def ordValsSpec : ChangeSpec := { name := "ordVals", fn := fun _ => fun
  | [d1, d2, d3] => { results := [.lit (.bool true)], args := [d1, d2, d3] }
  | _ => none }
def ordValsRow : OpenClaim := { program := "ytegpplokfjojbaa", sum := "479a94376935ac6f3d23cf29be4417573046ad6a06f2c94c7f4e0b4f02363cc4", func := "jostle/jostlelaw02.OrdVals", spec := "ordVals", apart := false }
def OrdValsSaid : Prop := ordValsRow.holds Try.pinned (OpenSpec.ofChange ordValsSpec)

/-- ITS FALSE NEIGHBOUR: 'it returns false'. Refute it at one input. -/
def ordValsWrong : ChangeSpec := { name := "ordVals", fn := fun _ => fun
  | [d1, d2, d3] => { results := [.lit (.bool false)], args := [d1, d2, d3] }
  | _ => none }
def OrdValsWrongFalsely : Prop := ordValsRow.holds Try.pinned (OpenSpec.ofChange ordValsWrong)

/-- 'jostlelaw02.OrdLeast': WHATEVER THE INPUT: true; the input reads as it did. -/
def ordLeastSpec : ChangeSpec := { name := "ordLeast", fn := fun _ => fun
  | [d] => { results := [.lit (.bool true)], args := [d] }
  | _ => none }
def ordLeastRow : OpenClaim := { program := "ytegpplokfjojbaa", sum := "479a94376935ac6f3d23cf29be4417573046ad6a06f2c94c7f4e0b4f02363cc4", func := "jostle/jostlelaw02.OrdLeast", spec := "ordLeast", apart := false }
def OrdLeastSaid : Prop := ordLeastRow.holds Try.pinned (OpenSpec.ofChange ordLeastSpec)

/-- ITS FALSE NEIGHBOUR: 'it returns false'. Refute it at one input. -/
def ordLeastWrong : ChangeSpec := { name := "ordLeast", fn := fun _ => fun
  | [d] => { results := [.lit (.bool false)], args := [d] }
  | _ => none }
def OrdLeastWrongFalsely : Prop := ordLeastRow.holds Try.pinned (OpenSpec.ofChange ordLeastWrong)

/-- 'jostlelaw20.PathCuts': WHATEVER THE INPUT: true; the input reads as it did. -/
def pathCutsSpec : ChangeSpec := { name := "pathCuts", fn := fun _ => fun
  | [d1, d2] => { results := [.lit (.bool true)], args := [d1, d2] }
  | _ => none }
def pathCutsRow : OpenClaim := { program := "ytegpplokfjojbaa", sum := "479a94376935ac6f3d23cf29be4417573046ad6a06f2c94c7f4e0b4f02363cc4", func := "jostle/jostlelaw20.PathCuts", spec := "pathCuts", unfollowed := true, recurses := true, apart := false }
def PathCutsSaid : Prop := pathCutsRow.holds Try.pinned (OpenSpec.ofChange pathCutsSpec)

/-- ITS FALSE NEIGHBOUR: 'it returns false'. Refute it at one input. -/
def pathCutsWrong : ChangeSpec := { name := "pathCuts", fn := fun _ => fun
  | [d1, d2] => { results := [.lit (.bool false)], args := [d1, d2] }
  | _ => none }
def PathCutsWrongFalsely : Prop := pathCutsRow.holds Try.pinned (OpenSpec.ofChange pathCutsWrong)

/-- 'jostlelaw20.PathRaw': WHATEVER THE INPUT: true; the input reads as it did. -/
def pathRawSpec : ChangeSpec := { name := "pathRaw", fn := fun _ => fun
  | [d1, d2, d3] => { results := [.lit (.bool true)], args := [d1, d2, d3] }
  | _ => none }
def pathRawRow : OpenClaim := { program := "ytegpplokfjojbaa", sum := "479a94376935ac6f3d23cf29be4417573046ad6a06f2c94c7f4e0b4f02363cc4", func := "jostle/jostlelaw20.PathRaw", spec := "pathRaw", unfollowed := true, recurses := true, apart := false }
def PathRawSaid : Prop := pathRawRow.holds Try.pinned (OpenSpec.ofChange pathRawSpec)

/-- ITS FALSE NEIGHBOUR: 'it returns false'. Refute it at one input. -/
def pathRawWrong : ChangeSpec := { name := "pathRaw", fn := fun _ => fun
  | [d1, d2, d3] => { results := [.lit (.bool false)], args := [d1, d2, d3] }
  | _ => none }
def PathRawWrongFalsely : Prop := pathRawRow.holds Try.pinned (OpenSpec.ofChange pathRawWrong)

/-- 'jostlelaw20.PathFirst': WHATEVER THE INPUT: true; the input reads as it did. -/
def pathFirstSpec : ChangeSpec := { name := "pathFirst", fn := fun _ => fun
  | [d1, d2, d3] => { results := [.lit (.bool true)], args := [d1, d2, d3] }
  | _ => none }
def pathFirstRow : OpenClaim := { program := "ytegpplokfjojbaa", sum := "479a94376935ac6f3d23cf29be4417573046ad6a06f2c94c7f4e0b4f02363cc4", func := "jostle/jostlelaw20.PathFirst", spec := "pathFirst", unfollowed := true, recurses := true, apart := false }
def PathFirstSaid : Prop := pathFirstRow.holds Try.pinned (OpenSpec.ofChange pathFirstSpec)

/-- ITS FALSE NEIGHBOUR: 'it returns false'. Refute it at one input. -/
def pathFirstWrong : ChangeSpec := { name := "pathFirst", fn := fun _ => fun
  | [d1, d2, d3] => { results := [.lit (.bool false)], args := [d1, d2, d3] }
  | _ => none }
def PathFirstWrongFalsely : Prop := pathFirstRow.holds Try.pinned (OpenSpec.ofChange pathFirstWrong)

/-- 'jostlelaw19.TreePlaces': WHATEVER THE INPUT: true; the input reads as it did. -/
def treePlacesSpec : ChangeSpec := { name := "treePlaces", fn := fun _ => fun
  | [d1, d2] => { results := [.lit (.bool true)], args := [d1, d2] }
  | _ => none }
def treePlacesRow : OpenClaim := { program := "ytegpplokfjojbaa", sum := "479a94376935ac6f3d23cf29be4417573046ad6a06f2c94c7f4e0b4f02363cc4", func := "jostle/jostlelaw19.TreePlaces", spec := "treePlaces", apart := false }
def TreePlacesSaid : Prop := treePlacesRow.holds Try.pinned (OpenSpec.ofChange treePlacesSpec)

/-- ITS FALSE NEIGHBOUR: 'it returns false'. Refute it at one input. -/
def treePlacesWrong : ChangeSpec := { name := "treePlaces", fn := fun _ => fun
  | [d1, d2] => { results := [.lit (.bool false)], args := [d1, d2] }
  | _ => none }
def TreePlacesWrongFalsely : Prop := treePlacesRow.holds Try.pinned (OpenSpec.ofChange treePlacesWrong)

/-- 'jostlelaw19.TreePaths': WHATEVER THE INPUT: true; the input reads as it did. -/
def treePathsSpec : ChangeSpec := { name := "treePaths", fn := fun _ => fun
  | [d] => { results := [.lit (.bool true)], args := [d] }
  | _ => none }
def treePathsRow : OpenClaim := { program := "ytegpplokfjojbaa", sum := "479a94376935ac6f3d23cf29be4417573046ad6a06f2c94c7f4e0b4f02363cc4", func := "jostle/jostlelaw19.TreePaths", spec := "treePaths", apart := false }
def TreePathsSaid : Prop := treePathsRow.holds Try.pinned (OpenSpec.ofChange treePathsSpec)

/-- ITS FALSE NEIGHBOUR: 'it returns false'. Refute it at one input. -/
def treePathsWrong : ChangeSpec := { name := "treePaths", fn := fun _ => fun
  | [d] => { results := [.lit (.bool false)], args := [d] }
  | _ => none }
def TreePathsWrongFalsely : Prop := treePathsRow.holds Try.pinned (OpenSpec.ofChange treePathsWrong)

/- THE SECOND FORM. 'bulk': how many values and letters a reading holds, each counted each time it is reached (what is shared counts as often as it is met; a slice's spare places count too). A statement '..UptoSaid' is the law's where the arguments, and the package variables that the reading takes, are together of bulk at most 1048576: NARROWER than '..Said'. Prove '..Said' where nothing that the law and all that it calls make is longer than what came in: it says more and counts as full. Else prove '..UptoSaid'. A law counts once. -/
mutual
def uptoBulk {H : Type} : DataW H → Nat
  | .lit (.string bytes) => bytes.length + 1
  | .lit _ => 1
  | .nil => 1
  | .ptr d => uptoBulk d + 1
  | .slice elems spare => uptoBulkAll elems + uptoBulkAll spare + 1
  | .agg parts => uptoBulkAll parts + 1
  | .iface _ d => uptoBulk d + 1
  | .map entries => uptoBulkEntries entries + 1
  | .held _ => 1
def uptoBulkAll {H : Type} : List (DataW H) → Nat
  | [] => 0
  | d :: r => uptoBulk d + uptoBulkAll r
def uptoBulkEntries {H : Type} : List (Lit × DataW H) → Nat
  | [] => 0
  | x :: r => uptoBulkEntry x + uptoBulkEntries r
def uptoBulkEntry {H : Type} : Lit × DataW H → Nat
  | (.string bytes, d) => bytes.length + uptoBulk d + 1
  | (_, d) => uptoBulk d + 1
 end
def uptoSmall : (H : Type) → List (DataW H) → Bool := fun _ ds => decide (uptoBulkAll ds ≤ 1048576)
def OpenSpec.upto (s : _root_.Go.ChangeSpec) : _root_.Go.OpenSpec := { _root_.Go.OpenSpec.ofChange s with cond := some uptoSmall }

/-- 'jostlelaw02.OrdParts', WHERE WHAT IT READS IS OF BULK AT MOST 1048576: true; the input reads as it did. -/
def ordPartsUptoRow : OpenClaim := { program := "ytegpplokfjojbaa", sum := "479a94376935ac6f3d23cf29be4417573046ad6a06f2c94c7f4e0b4f02363cc4", func := "jostle/jostlelaw02.OrdParts", spec := "ordParts", apart := false, narrowed := true }
def OrdPartsUptoSaid : Prop := ordPartsUptoRow.holds Try.pinned (OpenSpec.upto ordPartsSpec)

/-- 'jostlelaw02.OrdOrders', WHERE WHAT IT READS IS OF BULK AT MOST 1048576: true; the input reads as it did. -/
def ordOrdersUptoRow : OpenClaim := { program := "ytegpplokfjojbaa", sum := "479a94376935ac6f3d23cf29be4417573046ad6a06f2c94c7f4e0b4f02363cc4", func := "jostle/jostlelaw02.OrdOrders", spec := "ordOrders", apart := false, narrowed := true }
def OrdOrdersUptoSaid : Prop := ordOrdersUptoRow.holds Try.pinned (OpenSpec.upto ordOrdersSpec)

/-- 'jostlelaw02.OrdVals', WHERE WHAT IT READS IS OF BULK AT MOST 1048576: true; the input reads as it did. -/
def ordValsUptoRow : OpenClaim := { program := "ytegpplokfjojbaa", sum := "479a94376935ac6f3d23cf29be4417573046ad6a06f2c94c7f4e0b4f02363cc4", func := "jostle/jostlelaw02.OrdVals", spec := "ordVals", apart := false, narrowed := true }
def OrdValsUptoSaid : Prop := ordValsUptoRow.holds Try.pinned (OpenSpec.upto ordValsSpec)

/-- 'jostlelaw02.OrdLeast', WHERE WHAT IT READS IS OF BULK AT MOST 1048576: true; the input reads as it did. -/
def ordLeastUptoRow : OpenClaim := { program := "ytegpplokfjojbaa", sum := "479a94376935ac6f3d23cf29be4417573046ad6a06f2c94c7f4e0b4f02363cc4", func := "jostle/jostlelaw02.OrdLeast", spec := "ordLeast", apart := false, narrowed := true }
def OrdLeastUptoSaid : Prop := ordLeastUptoRow.holds Try.pinned (OpenSpec.upto ordLeastSpec)

/-- 'jostlelaw20.PathCuts', WHERE WHAT IT READS IS OF BULK AT MOST 1048576: true; the input reads as it did. -/
def pathCutsUptoRow : OpenClaim := { program := "ytegpplokfjojbaa", sum := "479a94376935ac6f3d23cf29be4417573046ad6a06f2c94c7f4e0b4f02363cc4", func := "jostle/jostlelaw20.PathCuts", spec := "pathCuts", unfollowed := true, recurses := true, apart := false, narrowed := true }
def PathCutsUptoSaid : Prop := pathCutsUptoRow.holds Try.pinned (OpenSpec.upto pathCutsSpec)

/-- 'jostlelaw20.PathRaw', WHERE WHAT IT READS IS OF BULK AT MOST 1048576: true; the input reads as it did. -/
def pathRawUptoRow : OpenClaim := { program := "ytegpplokfjojbaa", sum := "479a94376935ac6f3d23cf29be4417573046ad6a06f2c94c7f4e0b4f02363cc4", func := "jostle/jostlelaw20.PathRaw", spec := "pathRaw", unfollowed := true, recurses := true, apart := false, narrowed := true }
def PathRawUptoSaid : Prop := pathRawUptoRow.holds Try.pinned (OpenSpec.upto pathRawSpec)

/-- 'jostlelaw20.PathFirst', WHERE WHAT IT READS IS OF BULK AT MOST 1048576: true; the input reads as it did. -/
def pathFirstUptoRow : OpenClaim := { program := "ytegpplokfjojbaa", sum := "479a94376935ac6f3d23cf29be4417573046ad6a06f2c94c7f4e0b4f02363cc4", func := "jostle/jostlelaw20.PathFirst", spec := "pathFirst", unfollowed := true, recurses := true, apart := false, narrowed := true }
def PathFirstUptoSaid : Prop := pathFirstUptoRow.holds Try.pinned (OpenSpec.upto pathFirstSpec)

/-- 'jostlelaw19.TreePlaces', WHERE WHAT IT READS IS OF BULK AT MOST 1048576: true; the input reads as it did. -/
def treePlacesUptoRow : OpenClaim := { program := "ytegpplokfjojbaa", sum := "479a94376935ac6f3d23cf29be4417573046ad6a06f2c94c7f4e0b4f02363cc4", func := "jostle/jostlelaw19.TreePlaces", spec := "treePlaces", apart := false, narrowed := true }
def TreePlacesUptoSaid : Prop := treePlacesUptoRow.holds Try.pinned (OpenSpec.upto treePlacesSpec)

/-- 'jostlelaw19.TreePaths', WHERE WHAT IT READS IS OF BULK AT MOST 1048576: true; the input reads as it did. -/
def treePathsUptoRow : OpenClaim := { program := "ytegpplokfjojbaa", sum := "479a94376935ac6f3d23cf29be4417573046ad6a06f2c94c7f4e0b4f02363cc4", func := "jostle/jostlelaw19.TreePaths", spec := "treePaths", apart := false, narrowed := true }
def TreePathsUptoSaid : Prop := treePathsUptoRow.holds Try.pinned (OpenSpec.upto treePathsSpec)

end Rows
end Go.Proofs.Ytegpplokfjojbaa
