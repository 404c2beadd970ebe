/-
  No cell of these rows narrows 'for every input' (looked for: loops, veiled, ifaces, maps, wideKeys, modest, calm, conditions, laid).
  DERIVED. THE GIVEN ROWS OF THIS SEAT. 5 by the template 'for every input the law returns true; each argument reads behind the call as it read before'; 0 by the template 'total and deterministic' (their statements: YtafhfllnkijfhabTotals.lean).
  GIVEN WITH THE SEED: the statements are not yours to turn. If you find one false, say at which input.
  Laid BY PROGRAM, IN A SANDBOX (cutbox-rows.mjs): the forced cells as the released guide's own fill.sh prints them over the translation 05863cbf7df796dd… (all of the seat's roots in one cut). By AI agents, Wed Nov 11 2026. No macro, syntax, notation, axiom, sorry.
-/
import Derived.Test.YtafhfllnkijfhabChecked
import GoSem.Claim
import GoSem.ClaimJoined
import GoSem.ClaimMapViews
import Derived.JoinedTies
import Derived.KernelRfl
namespace Go.Proofs.Ytafhfllnkijfhab
/- THE CELL 'sum', in the pinned program and in every row, IS THE sha256 OF THE DUMP (.gsa) THAT YtafhfllnkijfhabProg.lean LOADS. Nothing in Lean hashes anything: it is a label: what it is worth is what the hold of that sum in a sandbox is worth. -/
noncomputable def Try.pinned : Pinned := { name := "ytafhfllnkijfhab", sum := "05863cbf7df796ddc32fe5cfe57aa092791404c3e30a59c9f6e31d3ede4be243", checked := Try.checked }
namespace Rows
def none {H : Type} : Left H := { results := [], args := [] }

/-- 'laws.FnExactFeedCutter': WHATEVER THE INPUT: true; the input reads as it did. -/
def fnExactFeedCutterSpec : ChangeSpec := { name := "fnExactFeedCutter", fn := fun _ => fun
  | [d1, d2] => { results := [.lit (.bool true)], args := [d1, d2] }
  | _ => none }
def fnExactFeedCutterRow : OpenClaim := { program := "ytafhfllnkijfhab", sum := "05863cbf7df796ddc32fe5cfe57aa092791404c3e30a59c9f6e31d3ede4be243", func := "loop.example/g01174/laws.FnExactFeedCutter", spec := "fnExactFeedCutter", apart := false }
def FnExactFeedCutterSaid : Prop := fnExactFeedCutterRow.holds Try.pinned (OpenSpec.ofChange fnExactFeedCutterSpec)

/-- ITS FALSE NEIGHBOUR: 'it returns false'. Refute it at one input. -/
def fnExactFeedCutterWrong : ChangeSpec := { name := "fnExactFeedCutter", fn := fun _ => fun
  | [d1, d2] => { results := [.lit (.bool false)], args := [d1, d2] }
  | _ => none }
def FnExactFeedCutterWrongFalsely : Prop := fnExactFeedCutterRow.holds Try.pinned (OpenSpec.ofChange fnExactFeedCutterWrong)

/-- 'laws.FnExactRecipeOf': WHATEVER THE INPUT: true; the input reads as it did. -/
def fnExactRecipeOfSpec : ChangeSpec := { name := "fnExactRecipeOf", fn := fun _ => fun
  | [d1, d2] => { results := [.lit (.bool true)], args := [d1, d2] }
  | _ => none }
def fnExactRecipeOfRow : OpenClaim := { program := "ytafhfllnkijfhab", sum := "05863cbf7df796ddc32fe5cfe57aa092791404c3e30a59c9f6e31d3ede4be243", func := "loop.example/g01174/laws.FnExactRecipeOf", spec := "fnExactRecipeOf", unfollowed := true, recurses := true, apart := false }
def FnExactRecipeOfSaid : Prop := fnExactRecipeOfRow.holds Try.pinned (OpenSpec.ofChange fnExactRecipeOfSpec)

/-- ITS FALSE NEIGHBOUR: 'it returns false'. Refute it at one input. -/
def fnExactRecipeOfWrong : ChangeSpec := { name := "fnExactRecipeOf", fn := fun _ => fun
  | [d1, d2] => { results := [.lit (.bool false)], args := [d1, d2] }
  | _ => none }
def FnExactRecipeOfWrongFalsely : Prop := fnExactRecipeOfRow.holds Try.pinned (OpenSpec.ofChange fnExactRecipeOfWrong)

/-- 'laws.FnExactJoinMaps': WHATEVER THE INPUT: true; the input reads as it did. -/
def fnExactJoinMapsSpec : ChangeSpec := { name := "fnExactJoinMaps", fn := fun _ => fun
  | [d1, d2, d3] => { results := [.lit (.bool true)], args := [d1, d2, d3] }
  | _ => none }
def fnExactJoinMapsRow : OpenClaim := { program := "ytafhfllnkijfhab", sum := "05863cbf7df796ddc32fe5cfe57aa092791404c3e30a59c9f6e31d3ede4be243", func := "loop.example/g01174/laws.FnExactJoinMaps", spec := "fnExactJoinMaps", unfollowed := true, recurses := true, apart := false }
def FnExactJoinMapsSaid : Prop := fnExactJoinMapsRow.holds Try.pinned (OpenSpec.ofChange fnExactJoinMapsSpec)

/-- ITS FALSE NEIGHBOUR: 'it returns false'. Refute it at one input. -/
def fnExactJoinMapsWrong : ChangeSpec := { name := "fnExactJoinMaps", fn := fun _ => fun
  | [d1, d2, d3] => { results := [.lit (.bool false)], args := [d1, d2, d3] }
  | _ => none }
def FnExactJoinMapsWrongFalsely : Prop := fnExactJoinMapsRow.holds Try.pinned (OpenSpec.ofChange fnExactJoinMapsWrong)

/-- 'laws.FnExactMergeMaps': WHATEVER THE INPUT: true; the input reads as it did. -/
def fnExactMergeMapsSpec : ChangeSpec := { name := "fnExactMergeMaps", fn := fun _ => fun
  | [d1, d2, d3] => { results := [.lit (.bool true)], args := [d1, d2, d3] }
  | _ => none }
def fnExactMergeMapsRow : OpenClaim := { program := "ytafhfllnkijfhab", sum := "05863cbf7df796ddc32fe5cfe57aa092791404c3e30a59c9f6e31d3ede4be243", func := "loop.example/g01174/laws.FnExactMergeMaps", spec := "fnExactMergeMaps", unfollowed := true, recurses := true, apart := false }
def FnExactMergeMapsSaid : Prop := fnExactMergeMapsRow.holds Try.pinned (OpenSpec.ofChange fnExactMergeMapsSpec)

/-- ITS FALSE NEIGHBOUR: 'it returns false'. Refute it at one input. -/
def fnExactMergeMapsWrong : ChangeSpec := { name := "fnExactMergeMaps", fn := fun _ => fun
  | [d1, d2, d3] => { results := [.lit (.bool false)], args := [d1, d2, d3] }
  | _ => none }
def FnExactMergeMapsWrongFalsely : Prop := fnExactMergeMapsRow.holds Try.pinned (OpenSpec.ofChange fnExactMergeMapsWrong)

/-- 'laws.FnChunks': WHATEVER THE INPUT: true; the input reads as it did. -/
def fnChunksSpec : ChangeSpec := { name := "fnChunks", fn := fun _ => fun
  | [d1, d2] => { results := [.lit (.bool true)], args := [d1, d2] }
  | _ => none }
def fnChunksRow : OpenClaim := { program := "ytafhfllnkijfhab", sum := "05863cbf7df796ddc32fe5cfe57aa092791404c3e30a59c9f6e31d3ede4be243", func := "loop.example/g01174/laws.FnChunks", spec := "fnChunks", unfollowed := true, recurses := true, apart := false }
def FnChunksSaid : Prop := fnChunksRow.holds Try.pinned (OpenSpec.ofChange fnChunksSpec)

/-- ITS FALSE NEIGHBOUR: 'it returns false'. Refute it at one input. -/
def fnChunksWrong : ChangeSpec := { name := "fnChunks", fn := fun _ => fun
  | [d1, d2] => { results := [.lit (.bool false)], args := [d1, d2] }
  | _ => none }
def FnChunksWrongFalsely : Prop := fnChunksRow.holds Try.pinned (OpenSpec.ofChange fnChunksWrong)

/- THE SECOND FORM. 'bulk': how many values and letters a reading holds, each counted each time it is reached (what is shared counts as often as it is met; a slice's spare places count too). A statement '..UptoSaid' is the law's where the arguments, and the package variables that the reading takes, are together of bulk at most 1048576: NARROWER than '..Said'. Prove '..Said' where nothing that the law and all that it calls make is longer than what came in: it says more and counts as full. Else prove '..UptoSaid'. A law counts once. -/
mutual
def uptoBulk {H : Type} : DataW H → Nat
  | .lit (.string bytes) => bytes.length + 1
  | .lit _ => 1
  | .nil => 1
  | .ptr d => uptoBulk d + 1
  | .slice elems spare => uptoBulkAll elems + uptoBulkAll spare + 1
  | .agg parts => uptoBulkAll parts + 1
  | .iface _ d => uptoBulk d + 1
  | .map entries => uptoBulkEntries entries + 1
  | .held _ => 1
def uptoBulkAll {H : Type} : List (DataW H) → Nat
  | [] => 0
  | d :: r => uptoBulk d + uptoBulkAll r
def uptoBulkEntries {H : Type} : List (Lit × DataW H) → Nat
  | [] => 0
  | x :: r => uptoBulkEntry x + uptoBulkEntries r
def uptoBulkEntry {H : Type} : Lit × DataW H → Nat
  | (.string bytes, d) => bytes.length + uptoBulk d + 1
  | (_, d) => uptoBulk d + 1
 end
def uptoSmall : (H : Type) → List (DataW H) → Bool := fun _ ds => decide (uptoBulkAll ds ≤ 1048576)
def OpenSpec.upto (s : _root_.Go.ChangeSpec) : _root_.Go.OpenSpec := { _root_.Go.OpenSpec.ofChange s with cond := some uptoSmall }

/-- 'laws.FnExactFeedCutter', WHERE WHAT IT READS IS OF BULK AT MOST 1048576: true; the input reads as it did. -/
def fnExactFeedCutterUptoRow : OpenClaim := { program := "ytafhfllnkijfhab", sum := "05863cbf7df796ddc32fe5cfe57aa092791404c3e30a59c9f6e31d3ede4be243", func := "loop.example/g01174/laws.FnExactFeedCutter", spec := "fnExactFeedCutter", apart := false, narrowed := true }
def FnExactFeedCutterUptoSaid : Prop := fnExactFeedCutterUptoRow.holds Try.pinned (OpenSpec.upto fnExactFeedCutterSpec)

/-- 'laws.FnExactRecipeOf', WHERE WHAT IT READS IS OF BULK AT MOST 1048576: true; the input reads as it did. -/
def fnExactRecipeOfUptoRow : OpenClaim := { program := "ytafhfllnkijfhab", sum := "05863cbf7df796ddc32fe5cfe57aa092791404c3e30a59c9f6e31d3ede4be243", func := "loop.example/g01174/laws.FnExactRecipeOf", spec := "fnExactRecipeOf", unfollowed := true, recurses := true, apart := false, narrowed := true }
def FnExactRecipeOfUptoSaid : Prop := fnExactRecipeOfUptoRow.holds Try.pinned (OpenSpec.upto fnExactRecipeOfSpec)

/-- 'laws.FnExactJoinMaps', WHERE WHAT IT READS IS OF BULK AT MOST 1048576: true; the input reads as it did. -/
def fnExactJoinMapsUptoRow : OpenClaim := { program := "ytafhfllnkijfhab", sum := "05863cbf7df796ddc32fe5cfe57aa092791404c3e30a59c9f6e31d3ede4be243", func := "loop.example/g01174/laws.FnExactJoinMaps", spec := "fnExactJoinMaps", unfollowed := true, recurses := true, apart := false, narrowed := true }
def FnExactJoinMapsUptoSaid : Prop := fnExactJoinMapsUptoRow.holds Try.pinned (OpenSpec.upto fnExactJoinMapsSpec)

/-- 'laws.FnExactMergeMaps', WHERE WHAT IT READS IS OF BULK AT MOST 1048576: true; the input reads as it did. -/
def fnExactMergeMapsUptoRow : OpenClaim := { program := "ytafhfllnkijfhab", sum := "05863cbf7df796ddc32fe5cfe57aa092791404c3e30a59c9f6e31d3ede4be243", func := "loop.example/g01174/laws.FnExactMergeMaps", spec := "fnExactMergeMaps", unfollowed := true, recurses := true, apart := false, narrowed := true }
def FnExactMergeMapsUptoSaid : Prop := fnExactMergeMapsUptoRow.holds Try.pinned (OpenSpec.upto fnExactMergeMapsSpec)

/-- 'laws.FnChunks', WHERE WHAT IT READS IS OF BULK AT MOST 1048576: true; the input reads as it did. -/
def fnChunksUptoRow : OpenClaim := { program := "ytafhfllnkijfhab", sum := "05863cbf7df796ddc32fe5cfe57aa092791404c3e30a59c9f6e31d3ede4be243", func := "loop.example/g01174/laws.FnChunks", spec := "fnChunks", unfollowed := true, recurses := true, apart := false, narrowed := true }
def FnChunksUptoSaid : Prop := fnChunksUptoRow.holds Try.pinned (OpenSpec.upto fnChunksSpec)

end Rows
end Go.Proofs.Ytafhfllnkijfhab
