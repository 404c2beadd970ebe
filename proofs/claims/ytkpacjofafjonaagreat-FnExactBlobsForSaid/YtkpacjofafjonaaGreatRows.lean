/-
  No cell of these rows narrows 'for every input' (looked for: loops, veiled, ifaces, maps, wideKeys, modest, calm, conditions, laid).
  DERIVED. THE GIVEN ROWS OF THIS SEAT. 6 by the template 'for every input the law returns true; each argument reads behind the call as it read before'; 0 by the template 'total and deterministic' (their statements: YtkpacjofafjonaaGreatTotals.lean).
  GIVEN WITH THE SEED: the statements are not yours to turn. If you find one false, say at which input.
  Laid BY PROGRAM, IN A SANDBOX (cutbox-rows.mjs): the forced cells as the released guide's own fill.sh prints them over the translation e10c0b7e7e8c59db… (all of the seat's roots in one cut). By AI agents, Wed Nov 11 2026. No macro, syntax, notation, axiom, sorry.
-/
import Derived.Test.YtkpacjofafjonaaGreatChecked
import GoSem.Claim
import GoSem.ClaimJoined
import GoSem.ClaimMapViews
import Derived.JoinedTies
import Derived.KernelRfl
namespace Go.Proofs.YtkpacjofafjonaaGreat
/- THE CELL 'sum', in the pinned program and in every row, IS THE sha256 OF THE DUMP (.gsa) THAT YtkpacjofafjonaaGreatProg.lean LOADS. Nothing in Lean hashes anything: it is a label: what it is worth is what the hold of that sum in a sandbox is worth. -/
noncomputable def Tryz.pinned : Pinned := { name := "ytkpacjofafjonaagreat", sum := "e10c0b7e7e8c59dbd608ff445294e8a9cce4cd0ca0a4dd70ab78f2bc8ddcc863", checked := Tryz.checked }
namespace Rows
def none {H : Type} : Left H := { results := [], args := [] }

/-- 'laws.FnExactKnownNames': WHATEVER THE INPUT: true; the input reads as it did. -/
def fnExactKnownNamesSpec : ChangeSpec := { name := "fnExactKnownNames", fn := fun _ => fun
  | [d1, d2] => { results := [.lit (.bool true)], args := [d1, d2] }
  | _ => none }
def fnExactKnownNamesRow : OpenClaim := { program := "ytkpacjofafjonaagreat", sum := "e10c0b7e7e8c59dbd608ff445294e8a9cce4cd0ca0a4dd70ab78f2bc8ddcc863", func := "loop.example/g01174/laws.FnExactKnownNames", spec := "fnExactKnownNames", unfollowed := true, recurses := true, plainKeys := false, apart := false }
def FnExactKnownNamesSaid : Prop := fnExactKnownNamesRow.holds Tryz.pinned (OpenSpec.ofChange fnExactKnownNamesSpec)

/-- ITS FALSE NEIGHBOUR: 'it returns false'. Refute it at one input. -/
def fnExactKnownNamesWrong : ChangeSpec := { name := "fnExactKnownNames", fn := fun _ => fun
  | [d1, d2] => { results := [.lit (.bool false)], args := [d1, d2] }
  | _ => none }
def FnExactKnownNamesWrongFalsely : Prop := fnExactKnownNamesRow.holds Tryz.pinned (OpenSpec.ofChange fnExactKnownNamesWrong)

/-- 'laws.FnExactPruneToNames': WHATEVER THE INPUT: true; the input reads as it did. -/
def fnExactPruneToNamesSpec : ChangeSpec := { name := "fnExactPruneToNames", fn := fun _ => fun
  | [d1, d2, d3] => { results := [.lit (.bool true)], args := [d1, d2, d3] }
  | _ => none }
def fnExactPruneToNamesRow : OpenClaim := { program := "ytkpacjofafjonaagreat", sum := "e10c0b7e7e8c59dbd608ff445294e8a9cce4cd0ca0a4dd70ab78f2bc8ddcc863", func := "loop.example/g01174/laws.FnExactPruneToNames", spec := "fnExactPruneToNames", unfollowed := true, recurses := true, plainKeys := false, apart := false }
def FnExactPruneToNamesSaid : Prop := fnExactPruneToNamesRow.holds Tryz.pinned (OpenSpec.ofChange fnExactPruneToNamesSpec)

/-- ITS FALSE NEIGHBOUR: 'it returns false'. Refute it at one input. -/
def fnExactPruneToNamesWrong : ChangeSpec := { name := "fnExactPruneToNames", fn := fun _ => fun
  | [d1, d2, d3] => { results := [.lit (.bool false)], args := [d1, d2, d3] }
  | _ => none }
def FnExactPruneToNamesWrongFalsely : Prop := fnExactPruneToNamesRow.holds Tryz.pinned (OpenSpec.ofChange fnExactPruneToNamesWrong)

/-- 'laws.FnExactWantsOf': WHATEVER THE INPUT: true; the input reads as it did. -/
def fnExactWantsOfSpec : ChangeSpec := { name := "fnExactWantsOf", fn := fun _ => fun
  | [d1, d2, d3] => { results := [.lit (.bool true)], args := [d1, d2, d3] }
  | _ => none }
def fnExactWantsOfRow : OpenClaim := { program := "ytkpacjofafjonaagreat", sum := "e10c0b7e7e8c59dbd608ff445294e8a9cce4cd0ca0a4dd70ab78f2bc8ddcc863", func := "loop.example/g01174/laws.FnExactWantsOf", spec := "fnExactWantsOf", unfollowed := true, recurses := true, plainKeys := false, apart := false }
def FnExactWantsOfSaid : Prop := fnExactWantsOfRow.holds Tryz.pinned (OpenSpec.ofChange fnExactWantsOfSpec)

/-- ITS FALSE NEIGHBOUR: 'it returns false'. Refute it at one input. -/
def fnExactWantsOfWrong : ChangeSpec := { name := "fnExactWantsOf", fn := fun _ => fun
  | [d1, d2, d3] => { results := [.lit (.bool false)], args := [d1, d2, d3] }
  | _ => none }
def FnExactWantsOfWrongFalsely : Prop := fnExactWantsOfRow.holds Tryz.pinned (OpenSpec.ofChange fnExactWantsOfWrong)

/-- 'laws.FnExactBlobsFor': WHATEVER THE INPUT: true; the input reads as it did. -/
def fnExactBlobsForSpec : ChangeSpec := { name := "fnExactBlobsFor", fn := fun _ => fun
  | [d1, d2, d3] => { results := [.lit (.bool true)], args := [d1, d2, d3] }
  | _ => none }
def fnExactBlobsForRow : OpenClaim := { program := "ytkpacjofafjonaagreat", sum := "e10c0b7e7e8c59dbd608ff445294e8a9cce4cd0ca0a4dd70ab78f2bc8ddcc863", func := "loop.example/g01174/laws.FnExactBlobsFor", spec := "fnExactBlobsFor", unfollowed := true, recurses := true, plainKeys := false, apart := false }
def FnExactBlobsForSaid : Prop := fnExactBlobsForRow.holds Tryz.pinned (OpenSpec.ofChange fnExactBlobsForSpec)

/-- ITS FALSE NEIGHBOUR: 'it returns false'. Refute it at one input. -/
def fnExactBlobsForWrong : ChangeSpec := { name := "fnExactBlobsFor", fn := fun _ => fun
  | [d1, d2, d3] => { results := [.lit (.bool false)], args := [d1, d2, d3] }
  | _ => none }
def FnExactBlobsForWrongFalsely : Prop := fnExactBlobsForRow.holds Tryz.pinned (OpenSpec.ofChange fnExactBlobsForWrong)

/-- 'laws.FnExactFillForChunk': WHATEVER THE INPUT: true; the input reads as it did. -/
def fnExactFillForChunkSpec : ChangeSpec := { name := "fnExactFillForChunk", fn := fun _ => fun
  | [d1, d2, d3, d4, d5] => { results := [.lit (.bool true)], args := [d1, d2, d3, d4, d5] }
  | _ => none }
def fnExactFillForChunkRow : OpenClaim := { program := "ytkpacjofafjonaagreat", sum := "e10c0b7e7e8c59dbd608ff445294e8a9cce4cd0ca0a4dd70ab78f2bc8ddcc863", func := "loop.example/g01174/laws.FnExactFillForChunk", spec := "fnExactFillForChunk", inPlace := ["slices.overlaps[loop.example/g01174/impl.Key]", "slices.overlaps[loop.example/g01174/impl.Blob]"], unfollowed := true, recurses := true, plainKeys := false, apart := false }
def FnExactFillForChunkSaid : Prop := fnExactFillForChunkRow.holds Tryz.pinned (OpenSpec.ofChange fnExactFillForChunkSpec)

/-- ITS FALSE NEIGHBOUR: 'it returns false'. Refute it at one input. -/
def fnExactFillForChunkWrong : ChangeSpec := { name := "fnExactFillForChunk", fn := fun _ => fun
  | [d1, d2, d3, d4, d5] => { results := [.lit (.bool false)], args := [d1, d2, d3, d4, d5] }
  | _ => none }
def FnExactFillForChunkWrongFalsely : Prop := fnExactFillForChunkRow.holds Tryz.pinned (OpenSpec.ofChange fnExactFillForChunkWrong)

/-- 'laws.FnExactFillForName': WHATEVER THE INPUT: true; the input reads as it did. -/
def fnExactFillForNameSpec : ChangeSpec := { name := "fnExactFillForName", fn := fun _ => fun
  | [d1, d2, d3, d4] => { results := [.lit (.bool true)], args := [d1, d2, d3, d4] }
  | _ => none }
def fnExactFillForNameRow : OpenClaim := { program := "ytkpacjofafjonaagreat", sum := "e10c0b7e7e8c59dbd608ff445294e8a9cce4cd0ca0a4dd70ab78f2bc8ddcc863", func := "loop.example/g01174/laws.FnExactFillForName", spec := "fnExactFillForName", inPlace := ["slices.overlaps[loop.example/g01174/impl.Key]", "slices.overlaps[loop.example/g01174/impl.Blob]"], unfollowed := true, recurses := true, plainKeys := false, apart := false }
def FnExactFillForNameSaid : Prop := fnExactFillForNameRow.holds Tryz.pinned (OpenSpec.ofChange fnExactFillForNameSpec)

/-- ITS FALSE NEIGHBOUR: 'it returns false'. Refute it at one input. -/
def fnExactFillForNameWrong : ChangeSpec := { name := "fnExactFillForName", fn := fun _ => fun
  | [d1, d2, d3, d4] => { results := [.lit (.bool false)], args := [d1, d2, d3, d4] }
  | _ => none }
def FnExactFillForNameWrongFalsely : Prop := fnExactFillForNameRow.holds Tryz.pinned (OpenSpec.ofChange fnExactFillForNameWrong)

/- THE SECOND FORM. 'bulk': how many values and letters a reading holds, each counted each time it is reached (what is shared counts as often as it is met; a slice's spare places count too). A statement '..UptoSaid' is the law's where the arguments, and the package variables that the reading takes, are together of bulk at most 1048576: NARROWER than '..Said'. Prove '..Said' where nothing that the law and all that it calls make is longer than what came in: it says more and counts as full. Else prove '..UptoSaid'. A law counts once. -/
mutual
def uptoBulk {H : Type} : DataW H → Nat
  | .lit (.string bytes) => bytes.length + 1
  | .lit _ => 1
  | .nil => 1
  | .ptr d => uptoBulk d + 1
  | .slice elems spare => uptoBulkAll elems + uptoBulkAll spare + 1
  | .agg parts => uptoBulkAll parts + 1
  | .iface _ d => uptoBulk d + 1
  | .map entries => uptoBulkEntries entries + 1
  | .held _ => 1
def uptoBulkAll {H : Type} : List (DataW H) → Nat
  | [] => 0
  | d :: r => uptoBulk d + uptoBulkAll r
def uptoBulkEntries {H : Type} : List (Lit × DataW H) → Nat
  | [] => 0
  | x :: r => uptoBulkEntry x + uptoBulkEntries r
def uptoBulkEntry {H : Type} : Lit × DataW H → Nat
  | (.string bytes, d) => bytes.length + uptoBulk d + 1
  | (_, d) => uptoBulk d + 1
 end
def uptoSmall : (H : Type) → List (DataW H) → Bool := fun _ ds => decide (uptoBulkAll ds ≤ 1048576)
def OpenSpec.upto (s : _root_.Go.ChangeSpec) : _root_.Go.OpenSpec := { _root_.Go.OpenSpec.ofChange s with cond := some uptoSmall }

/-- 'laws.FnExactKnownNames', WHERE WHAT IT READS IS OF BULK AT MOST 1048576: true; the input reads as it did. -/
def fnExactKnownNamesUptoRow : OpenClaim := { program := "ytkpacjofafjonaagreat", sum := "e10c0b7e7e8c59dbd608ff445294e8a9cce4cd0ca0a4dd70ab78f2bc8ddcc863", func := "loop.example/g01174/laws.FnExactKnownNames", spec := "fnExactKnownNames", unfollowed := true, recurses := true, plainKeys := false, apart := false, narrowed := true }
def FnExactKnownNamesUptoSaid : Prop := fnExactKnownNamesUptoRow.holds Tryz.pinned (OpenSpec.upto fnExactKnownNamesSpec)

/-- 'laws.FnExactPruneToNames', WHERE WHAT IT READS IS OF BULK AT MOST 1048576: true; the input reads as it did. -/
def fnExactPruneToNamesUptoRow : OpenClaim := { program := "ytkpacjofafjonaagreat", sum := "e10c0b7e7e8c59dbd608ff445294e8a9cce4cd0ca0a4dd70ab78f2bc8ddcc863", func := "loop.example/g01174/laws.FnExactPruneToNames", spec := "fnExactPruneToNames", unfollowed := true, recurses := true, plainKeys := false, apart := false, narrowed := true }
def FnExactPruneToNamesUptoSaid : Prop := fnExactPruneToNamesUptoRow.holds Tryz.pinned (OpenSpec.upto fnExactPruneToNamesSpec)

/-- 'laws.FnExactWantsOf', WHERE WHAT IT READS IS OF BULK AT MOST 1048576: true; the input reads as it did. -/
def fnExactWantsOfUptoRow : OpenClaim := { program := "ytkpacjofafjonaagreat", sum := "e10c0b7e7e8c59dbd608ff445294e8a9cce4cd0ca0a4dd70ab78f2bc8ddcc863", func := "loop.example/g01174/laws.FnExactWantsOf", spec := "fnExactWantsOf", unfollowed := true, recurses := true, plainKeys := false, apart := false, narrowed := true }
def FnExactWantsOfUptoSaid : Prop := fnExactWantsOfUptoRow.holds Tryz.pinned (OpenSpec.upto fnExactWantsOfSpec)

/-- 'laws.FnExactBlobsFor', WHERE WHAT IT READS IS OF BULK AT MOST 1048576: true; the input reads as it did. -/
def fnExactBlobsForUptoRow : OpenClaim := { program := "ytkpacjofafjonaagreat", sum := "e10c0b7e7e8c59dbd608ff445294e8a9cce4cd0ca0a4dd70ab78f2bc8ddcc863", func := "loop.example/g01174/laws.FnExactBlobsFor", spec := "fnExactBlobsFor", unfollowed := true, recurses := true, plainKeys := false, apart := false, narrowed := true }
def FnExactBlobsForUptoSaid : Prop := fnExactBlobsForUptoRow.holds Tryz.pinned (OpenSpec.upto fnExactBlobsForSpec)

/-- 'laws.FnExactFillForChunk', WHERE WHAT IT READS IS OF BULK AT MOST 1048576: true; the input reads as it did. -/
def fnExactFillForChunkUptoRow : OpenClaim := { program := "ytkpacjofafjonaagreat", sum := "e10c0b7e7e8c59dbd608ff445294e8a9cce4cd0ca0a4dd70ab78f2bc8ddcc863", func := "loop.example/g01174/laws.FnExactFillForChunk", spec := "fnExactFillForChunk", inPlace := ["slices.overlaps[loop.example/g01174/impl.Key]", "slices.overlaps[loop.example/g01174/impl.Blob]"], unfollowed := true, recurses := true, plainKeys := false, apart := false, narrowed := true }
def FnExactFillForChunkUptoSaid : Prop := fnExactFillForChunkUptoRow.holds Tryz.pinned (OpenSpec.upto fnExactFillForChunkSpec)

/-- 'laws.FnExactFillForName', WHERE WHAT IT READS IS OF BULK AT MOST 1048576: true; the input reads as it did. -/
def fnExactFillForNameUptoRow : OpenClaim := { program := "ytkpacjofafjonaagreat", sum := "e10c0b7e7e8c59dbd608ff445294e8a9cce4cd0ca0a4dd70ab78f2bc8ddcc863", func := "loop.example/g01174/laws.FnExactFillForName", spec := "fnExactFillForName", inPlace := ["slices.overlaps[loop.example/g01174/impl.Key]", "slices.overlaps[loop.example/g01174/impl.Blob]"], unfollowed := true, recurses := true, plainKeys := false, apart := false, narrowed := true }
def FnExactFillForNameUptoSaid : Prop := fnExactFillForNameUptoRow.holds Tryz.pinned (OpenSpec.upto fnExactFillForNameSpec)

end Rows
end Go.Proofs.YtkpacjofafjonaaGreat
