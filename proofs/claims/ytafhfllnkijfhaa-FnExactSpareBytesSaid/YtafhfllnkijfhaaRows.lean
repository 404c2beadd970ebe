/-
  No cell of these rows narrows 'for every input' (looked for: loops, veiled, ifaces, maps, wideKeys, modest, calm, conditions, laid).
  DERIVED. THE GIVEN ROWS OF THIS SEAT. 5 by the template 'for every input the law returns true; each argument reads behind the call as it read before'; 0 by the template 'total and deterministic' (their statements: YtafhfllnkijfhaaTotals.lean).
  GIVEN WITH THE SEED: the statements are not yours to turn. If you find one false, say at which input.
  Laid BY PROGRAM, IN A SANDBOX (cutbox-rows.mjs): the forced cells as the released guide's own fill.sh prints them over the translation 7d404dd4619c0892… (all of the seat's roots in one cut). By AI agents, Wed Nov 11 2026. No macro, syntax, notation, axiom, sorry.
-/
import Derived.Test.YtafhfllnkijfhaaChecked
import GoSem.Claim
import GoSem.ClaimJoined
import GoSem.ClaimMapViews
import Derived.JoinedTies
import Derived.KernelRfl
namespace Go.Proofs.Ytafhfllnkijfhaa
/- THE CELL 'sum', in the pinned program and in every row, IS THE sha256 OF THE DUMP (.gsa) THAT YtafhfllnkijfhaaProg.lean LOADS. Nothing in Lean hashes anything: it is a label: what it is worth is what the hold of that sum in a sandbox is worth. -/
noncomputable def Try.pinned : Pinned := { name := "ytafhfllnkijfhaa", sum := "7d404dd4619c0892f652a592d604c5f507841873c3543e84ad4e1a459f1441c7", checked := Try.checked }
namespace Rows
def none {H : Type} : Left H := { results := [], args := [] }

/-- 'laws.FnExactCommonChunks': WHATEVER THE INPUT: true; the input reads as it did. -/
def fnExactCommonChunksSpec : ChangeSpec := { name := "fnExactCommonChunks", fn := fun _ => fun
  | [d1, d2, d3] => { results := [.lit (.bool true)], args := [d1, d2, d3] }
  | _ => none }
def fnExactCommonChunksRow : OpenClaim := { program := "ytafhfllnkijfhaa", sum := "7d404dd4619c0892f652a592d604c5f507841873c3543e84ad4e1a459f1441c7", func := "loop.example/g01174/laws.FnExactCommonChunks", spec := "fnExactCommonChunks", unfollowed := true, recurses := true, apart := false }
def FnExactCommonChunksSaid : Prop := fnExactCommonChunksRow.holds Try.pinned (OpenSpec.ofChange fnExactCommonChunksSpec)

/-- ITS FALSE NEIGHBOUR: 'it returns false'. Refute it at one input. -/
def fnExactCommonChunksWrong : ChangeSpec := { name := "fnExactCommonChunks", fn := fun _ => fun
  | [d1, d2, d3] => { results := [.lit (.bool false)], args := [d1, d2, d3] }
  | _ => none }
def FnExactCommonChunksWrongFalsely : Prop := fnExactCommonChunksRow.holds Try.pinned (OpenSpec.ofChange fnExactCommonChunksWrong)

/-- 'laws.FnExactSpareBytes': WHATEVER THE INPUT: true; the input reads as it did. -/
def fnExactSpareBytesSpec : ChangeSpec := { name := "fnExactSpareBytes", fn := fun _ => fun
  | [d1, d2, d3] => { results := [.lit (.bool true)], args := [d1, d2, d3] }
  | _ => none }
def fnExactSpareBytesRow : OpenClaim := { program := "ytafhfllnkijfhaa", sum := "7d404dd4619c0892f652a592d604c5f507841873c3543e84ad4e1a459f1441c7", func := "loop.example/g01174/laws.FnExactSpareBytes", spec := "fnExactSpareBytes", unfollowed := true, recurses := true, apart := false }
def FnExactSpareBytesSaid : Prop := fnExactSpareBytesRow.holds Try.pinned (OpenSpec.ofChange fnExactSpareBytesSpec)

/-- ITS FALSE NEIGHBOUR: 'it returns false'. Refute it at one input. -/
def fnExactSpareBytesWrong : ChangeSpec := { name := "fnExactSpareBytes", fn := fun _ => fun
  | [d1, d2, d3] => { results := [.lit (.bool false)], args := [d1, d2, d3] }
  | _ => none }
def FnExactSpareBytesWrongFalsely : Prop := fnExactSpareBytesRow.holds Try.pinned (OpenSpec.ofChange fnExactSpareBytesWrong)

/-- 'laws.FnExactEndCutter': WHATEVER THE INPUT: true; the input reads as it did. -/
def fnExactEndCutterSpec : ChangeSpec := { name := "fnExactEndCutter", fn := fun _ => fun
  | [d] => { results := [.lit (.bool true)], args := [d] }
  | _ => none }
def fnExactEndCutterRow : OpenClaim := { program := "ytafhfllnkijfhaa", sum := "7d404dd4619c0892f652a592d604c5f507841873c3543e84ad4e1a459f1441c7", func := "loop.example/g01174/laws.FnExactEndCutter", spec := "fnExactEndCutter", apart := false }
def FnExactEndCutterSaid : Prop := fnExactEndCutterRow.holds Try.pinned (OpenSpec.ofChange fnExactEndCutterSpec)

/-- ITS FALSE NEIGHBOUR: 'it returns false'. Refute it at one input. -/
def fnExactEndCutterWrong : ChangeSpec := { name := "fnExactEndCutter", fn := fun _ => fun
  | [d] => { results := [.lit (.bool false)], args := [d] }
  | _ => none }
def FnExactEndCutterWrongFalsely : Prop := fnExactEndCutterRow.holds Try.pinned (OpenSpec.ofChange fnExactEndCutterWrong)

/-- 'laws.FnExactChunksOf': WHATEVER THE INPUT: true; the input reads as it did. -/
def fnExactChunksOfSpec : ChangeSpec := { name := "fnExactChunksOf", fn := fun _ => fun
  | [d1, d2] => { results := [.lit (.bool true)], args := [d1, d2] }
  | _ => none }
def fnExactChunksOfRow : OpenClaim := { program := "ytafhfllnkijfhaa", sum := "7d404dd4619c0892f652a592d604c5f507841873c3543e84ad4e1a459f1441c7", func := "loop.example/g01174/laws.FnExactChunksOf", spec := "fnExactChunksOf", unfollowed := true, recurses := true, apart := false }
def FnExactChunksOfSaid : Prop := fnExactChunksOfRow.holds Try.pinned (OpenSpec.ofChange fnExactChunksOfSpec)

/-- ITS FALSE NEIGHBOUR: 'it returns false'. Refute it at one input. -/
def fnExactChunksOfWrong : ChangeSpec := { name := "fnExactChunksOf", fn := fun _ => fun
  | [d1, d2] => { results := [.lit (.bool false)], args := [d1, d2] }
  | _ => none }
def FnExactChunksOfWrongFalsely : Prop := fnExactChunksOfRow.holds Try.pinned (OpenSpec.ofChange fnExactChunksOfWrong)

/-- 'laws.FnExactCutPlaces': WHATEVER THE INPUT: true; the input reads as it did. -/
def fnExactCutPlacesSpec : ChangeSpec := { name := "fnExactCutPlaces", fn := fun _ => fun
  | [d1, d2] => { results := [.lit (.bool true)], args := [d1, d2] }
  | _ => none }
def fnExactCutPlacesRow : OpenClaim := { program := "ytafhfllnkijfhaa", sum := "7d404dd4619c0892f652a592d604c5f507841873c3543e84ad4e1a459f1441c7", func := "loop.example/g01174/laws.FnExactCutPlaces", spec := "fnExactCutPlaces", unfollowed := true, recurses := true, apart := false }
def FnExactCutPlacesSaid : Prop := fnExactCutPlacesRow.holds Try.pinned (OpenSpec.ofChange fnExactCutPlacesSpec)

/-- ITS FALSE NEIGHBOUR: 'it returns false'. Refute it at one input. -/
def fnExactCutPlacesWrong : ChangeSpec := { name := "fnExactCutPlaces", fn := fun _ => fun
  | [d1, d2] => { results := [.lit (.bool false)], args := [d1, d2] }
  | _ => none }
def FnExactCutPlacesWrongFalsely : Prop := fnExactCutPlacesRow.holds Try.pinned (OpenSpec.ofChange fnExactCutPlacesWrong)

/- THE SECOND FORM. 'bulk': how many values and letters a reading holds, each counted each time it is reached (what is shared counts as often as it is met; a slice's spare places count too). A statement '..UptoSaid' is the law's where the arguments, and the package variables that the reading takes, are together of bulk at most 1048576: NARROWER than '..Said'. Prove '..Said' where nothing that the law and all that it calls make is longer than what came in: it says more and counts as full. Else prove '..UptoSaid'. A law counts once. -/
mutual
def uptoBulk {H : Type} : DataW H → Nat
  | .lit (.string bytes) => bytes.length + 1
  | .lit _ => 1
  | .nil => 1
  | .ptr d => uptoBulk d + 1
  | .slice elems spare => uptoBulkAll elems + uptoBulkAll spare + 1
  | .agg parts => uptoBulkAll parts + 1
  | .iface _ d => uptoBulk d + 1
  | .map entries => uptoBulkEntries entries + 1
  | .held _ => 1
def uptoBulkAll {H : Type} : List (DataW H) → Nat
  | [] => 0
  | d :: r => uptoBulk d + uptoBulkAll r
def uptoBulkEntries {H : Type} : List (Lit × DataW H) → Nat
  | [] => 0
  | x :: r => uptoBulkEntry x + uptoBulkEntries r
def uptoBulkEntry {H : Type} : Lit × DataW H → Nat
  | (.string bytes, d) => bytes.length + uptoBulk d + 1
  | (_, d) => uptoBulk d + 1
 end
def uptoSmall : (H : Type) → List (DataW H) → Bool := fun _ ds => decide (uptoBulkAll ds ≤ 1048576)
def OpenSpec.upto (s : _root_.Go.ChangeSpec) : _root_.Go.OpenSpec := { _root_.Go.OpenSpec.ofChange s with cond := some uptoSmall }

/-- 'laws.FnExactCommonChunks', WHERE WHAT IT READS IS OF BULK AT MOST 1048576: true; the input reads as it did. -/
def fnExactCommonChunksUptoRow : OpenClaim := { program := "ytafhfllnkijfhaa", sum := "7d404dd4619c0892f652a592d604c5f507841873c3543e84ad4e1a459f1441c7", func := "loop.example/g01174/laws.FnExactCommonChunks", spec := "fnExactCommonChunks", unfollowed := true, recurses := true, apart := false, narrowed := true }
def FnExactCommonChunksUptoSaid : Prop := fnExactCommonChunksUptoRow.holds Try.pinned (OpenSpec.upto fnExactCommonChunksSpec)

/-- 'laws.FnExactSpareBytes', WHERE WHAT IT READS IS OF BULK AT MOST 1048576: true; the input reads as it did. -/
def fnExactSpareBytesUptoRow : OpenClaim := { program := "ytafhfllnkijfhaa", sum := "7d404dd4619c0892f652a592d604c5f507841873c3543e84ad4e1a459f1441c7", func := "loop.example/g01174/laws.FnExactSpareBytes", spec := "fnExactSpareBytes", unfollowed := true, recurses := true, apart := false, narrowed := true }
def FnExactSpareBytesUptoSaid : Prop := fnExactSpareBytesUptoRow.holds Try.pinned (OpenSpec.upto fnExactSpareBytesSpec)

/-- 'laws.FnExactEndCutter', WHERE WHAT IT READS IS OF BULK AT MOST 1048576: true; the input reads as it did. -/
def fnExactEndCutterUptoRow : OpenClaim := { program := "ytafhfllnkijfhaa", sum := "7d404dd4619c0892f652a592d604c5f507841873c3543e84ad4e1a459f1441c7", func := "loop.example/g01174/laws.FnExactEndCutter", spec := "fnExactEndCutter", apart := false, narrowed := true }
def FnExactEndCutterUptoSaid : Prop := fnExactEndCutterUptoRow.holds Try.pinned (OpenSpec.upto fnExactEndCutterSpec)

/-- 'laws.FnExactChunksOf', WHERE WHAT IT READS IS OF BULK AT MOST 1048576: true; the input reads as it did. -/
def fnExactChunksOfUptoRow : OpenClaim := { program := "ytafhfllnkijfhaa", sum := "7d404dd4619c0892f652a592d604c5f507841873c3543e84ad4e1a459f1441c7", func := "loop.example/g01174/laws.FnExactChunksOf", spec := "fnExactChunksOf", unfollowed := true, recurses := true, apart := false, narrowed := true }
def FnExactChunksOfUptoSaid : Prop := fnExactChunksOfUptoRow.holds Try.pinned (OpenSpec.upto fnExactChunksOfSpec)

/-- 'laws.FnExactCutPlaces', WHERE WHAT IT READS IS OF BULK AT MOST 1048576: true; the input reads as it did. -/
def fnExactCutPlacesUptoRow : OpenClaim := { program := "ytafhfllnkijfhaa", sum := "7d404dd4619c0892f652a592d604c5f507841873c3543e84ad4e1a459f1441c7", func := "loop.example/g01174/laws.FnExactCutPlaces", spec := "fnExactCutPlaces", unfollowed := true, recurses := true, apart := false, narrowed := true }
def FnExactCutPlacesUptoSaid : Prop := fnExactCutPlacesUptoRow.holds Try.pinned (OpenSpec.upto fnExactCutPlacesSpec)

end Rows
end Go.Proofs.Ytafhfllnkijfhaa
