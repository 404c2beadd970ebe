/-
  No cell of these rows narrows 'for every input' (looked for: loops, veiled, ifaces, maps, wideKeys, modest, calm, conditions, laid).
  DERIVED. THE GIVEN ROWS OF THIS SEAT. 2 by the template 'for every input the law returns true; each argument reads behind the call as it read before'; 0 by the template 'total and deterministic' (their statements: YtkpacjofafjonabGreatTotals.lean).
  GIVEN WITH THE SEED: the statements are not yours to turn. If you find one false, say at which input.
  Laid BY PROGRAM, IN A SANDBOX (cutbox-rows.mjs): the forced cells as the released guide's own fill.sh prints them over the translation b557fae4bd64e201… (all of the seat's roots in one cut). By AI agents, Wed Nov 11 2026. No macro, syntax, notation, axiom, sorry.
-/
import Derived.Test.YtkpacjofafjonabGreatChecked
import GoSem.Claim
import GoSem.ClaimJoined
import GoSem.ClaimMapViews
import Derived.JoinedTies
import Derived.KernelRfl
namespace Go.Proofs.YtkpacjofafjonabGreat
/- THE CELL 'sum', in the pinned program and in every row, IS THE sha256 OF THE DUMP (.gsa) THAT YtkpacjofafjonabGreatProg.lean LOADS. Nothing in Lean hashes anything: it is a label: what it is worth is what the hold of that sum in a sandbox is worth. -/
noncomputable def Tryz.pinned : Pinned := { name := "ytkpacjofafjonabgreat", sum := "b557fae4bd64e2015324da3a8284244ad04fae2093feb6cd189a78b856a9656e", checked := Tryz.checked }
namespace Rows
def none {H : Type} : Left H := { results := [], args := [] }

/-- 'laws.FnBlobs': WHATEVER THE INPUT: true; the input reads as it did. -/
def fnBlobsSpec : ChangeSpec := { name := "fnBlobs", fn := fun _ => fun
  | [d1, d2] => { results := [.lit (.bool true)], args := [d1, d2] }
  | _ => none }
def fnBlobsRow : OpenClaim := { program := "ytkpacjofafjonabgreat", sum := "b557fae4bd64e2015324da3a8284244ad04fae2093feb6cd189a78b856a9656e", func := "loop.example/g01174/laws.FnBlobs", spec := "fnBlobs", inPlace := ["slices.overlaps[loop.example/g01174/impl.Key]", "slices.overlaps[loop.example/g01174/impl.Blob]"], unfollowed := true, recurses := true, plainKeys := false, apart := false }
def FnBlobsSaid : Prop := fnBlobsRow.holds Tryz.pinned (OpenSpec.ofChange fnBlobsSpec)

/-- ITS FALSE NEIGHBOUR: 'it returns false'. Refute it at one input. -/
def fnBlobsWrong : ChangeSpec := { name := "fnBlobs", fn := fun _ => fun
  | [d1, d2] => { results := [.lit (.bool false)], args := [d1, d2] }
  | _ => none }
def FnBlobsWrongFalsely : Prop := fnBlobsRow.holds Tryz.pinned (OpenSpec.ofChange fnBlobsWrong)

/-- 'laws.FnExactFetchAll': WHATEVER THE INPUT: true; the input reads as it did. -/
def fnExactFetchAllSpec : ChangeSpec := { name := "fnExactFetchAll", fn := fun _ => fun
  | [d1, d2, d3, d4, d5, d6] => { results := [.lit (.bool true)], args := [d1, d2, d3, d4, d5, d6] }
  | _ => none }
def fnExactFetchAllRow : OpenClaim := { program := "ytkpacjofafjonabgreat", sum := "b557fae4bd64e2015324da3a8284244ad04fae2093feb6cd189a78b856a9656e", func := "loop.example/g01174/laws.FnExactFetchAll", spec := "fnExactFetchAll", inPlace := ["slices.overlaps[loop.example/g01174/impl.Key]", "slices.overlaps[loop.example/g01174/impl.Blob]"], unfollowed := true, recurses := true, plainKeys := false, apart := false }
def FnExactFetchAllSaid : Prop := fnExactFetchAllRow.holds Tryz.pinned (OpenSpec.ofChange fnExactFetchAllSpec)

/-- ITS FALSE NEIGHBOUR: 'it returns false'. Refute it at one input. -/
def fnExactFetchAllWrong : ChangeSpec := { name := "fnExactFetchAll", fn := fun _ => fun
  | [d1, d2, d3, d4, d5, d6] => { results := [.lit (.bool false)], args := [d1, d2, d3, d4, d5, d6] }
  | _ => none }
def FnExactFetchAllWrongFalsely : Prop := fnExactFetchAllRow.holds Tryz.pinned (OpenSpec.ofChange fnExactFetchAllWrong)

/- THE SECOND FORM. 'bulk': how many values and letters a reading holds, each counted each time it is reached (what is shared counts as often as it is met; a slice's spare places count too). A statement '..UptoSaid' is the law's where the arguments, and the package variables that the reading takes, are together of bulk at most 1048576: NARROWER than '..Said'. Prove '..Said' where nothing that the law and all that it calls make is longer than what came in: it says more and counts as full. Else prove '..UptoSaid'. A law counts once. -/
mutual
def uptoBulk {H : Type} : DataW H → Nat
  | .lit (.string bytes) => bytes.length + 1
  | .lit _ => 1
  | .nil => 1
  | .ptr d => uptoBulk d + 1
  | .slice elems spare => uptoBulkAll elems + uptoBulkAll spare + 1
  | .agg parts => uptoBulkAll parts + 1
  | .iface _ d => uptoBulk d + 1
  | .map entries => uptoBulkEntries entries + 1
  | .held _ => 1
def uptoBulkAll {H : Type} : List (DataW H) → Nat
  | [] => 0
  | d :: r => uptoBulk d + uptoBulkAll r
def uptoBulkEntries {H : Type} : List (Lit × DataW H) → Nat
  | [] => 0
  | x :: r => uptoBulkEntry x + uptoBulkEntries r
def uptoBulkEntry {H : Type} : Lit × DataW H → Nat
  | (.string bytes, d) => bytes.length + uptoBulk d + 1
  | (_, d) => uptoBulk d + 1
 end
def uptoSmall : (H : Type) → List (DataW H) → Bool := fun _ ds => decide (uptoBulkAll ds ≤ 1048576)
def OpenSpec.upto (s : _root_.Go.ChangeSpec) : _root_.Go.OpenSpec := { _root_.Go.OpenSpec.ofChange s with cond := some uptoSmall }

/-- 'laws.FnBlobs', WHERE WHAT IT READS IS OF BULK AT MOST 1048576: true; the input reads as it did. -/
def fnBlobsUptoRow : OpenClaim := { program := "ytkpacjofafjonabgreat", sum := "b557fae4bd64e2015324da3a8284244ad04fae2093feb6cd189a78b856a9656e", func := "loop.example/g01174/laws.FnBlobs", spec := "fnBlobs", inPlace := ["slices.overlaps[loop.example/g01174/impl.Key]", "slices.overlaps[loop.example/g01174/impl.Blob]"], unfollowed := true, recurses := true, plainKeys := false, apart := false, narrowed := true }
def FnBlobsUptoSaid : Prop := fnBlobsUptoRow.holds Tryz.pinned (OpenSpec.upto fnBlobsSpec)

/-- 'laws.FnExactFetchAll', WHERE WHAT IT READS IS OF BULK AT MOST 1048576: true; the input reads as it did. -/
def fnExactFetchAllUptoRow : OpenClaim := { program := "ytkpacjofafjonabgreat", sum := "b557fae4bd64e2015324da3a8284244ad04fae2093feb6cd189a78b856a9656e", func := "loop.example/g01174/laws.FnExactFetchAll", spec := "fnExactFetchAll", inPlace := ["slices.overlaps[loop.example/g01174/impl.Key]", "slices.overlaps[loop.example/g01174/impl.Blob]"], unfollowed := true, recurses := true, plainKeys := false, apart := false, narrowed := true }
def FnExactFetchAllUptoSaid : Prop := fnExactFetchAllUptoRow.holds Tryz.pinned (OpenSpec.upto fnExactFetchAllSpec)

end Rows
end Go.Proofs.YtkpacjofafjonabGreat
